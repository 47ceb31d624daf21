/- The machine's side of this seat's laws: Go functions as Lean functions, and their contracts. By a program of this work over the kit's print. -/
import Derived.Test.YtjengfiaphgjbaaQ0
import Derived.Test.YtjengfiaphgjbaaQ7
import Derived.Test.YtjengfiaphgjbaaQ11
namespace Go.Proofs.Ytjengfiaphgjbaa.Q
open Go.RowKit Go.Proofs.YtjengfiaphgjbaaW.PrintWords Go.Proofs.YtjengfiaphgjbaaW.PrintLast Go.Proofs.YtjengfiaphgjbaaW.PrintMore
attribute [local go_sem] max2_int min2_int max_two min_two max_three min_three max_four min_four Go.Proofs.YtjengfiaphgjbaaN.not_i64 Go.Proofs.YtjengfiaphgjbaaN.isSome_setCell   -- for this text's walks alone
set_option linter.unusedVariables false
set_option linter.unusedSimpArgs false

/-! ### laws_FnExactRangeBranch: function 3 -/
def laws_FnExactRangeBranch.j0 : Nat → Bool → Option (Bool)
 | 0, _ => none
 | k + 1, x51 => if x51 = true then (none) else (some true)
def laws_FnExactRangeBranch.f (k : Nat) (a0 : Int) (a1_0 : Int) (a1_1 : Int) (a1_2 : Int) (a1_3 : Int) (a2_0 : Int) (a2_1 : Int) (a2_2 : Int) (a2_3 : Int) (a3 : Bool) : Option (Bool) := (laws_toRange.f a1_0 a1_1 a1_2 a1_3).bind fun bt401 => ((laws_toRange.f a2_0 a2_1 a2_2 a2_3).bind fun bt405 => ((spec_RangeBranch.f k a0 bt401.1 bt401.2.1 bt401.2.2.1 bt401.2.2.2 bt405.1 bt405.2.1 bt405.2.2.1 bt405.2.2.2 a3).bind fun bt409 => ((laws_toRange.f a1_0 a1_1 a1_2 a1_3).bind fun bt420 => ((laws_toRange.f a2_0 a2_1 a2_2 a2_3).bind fun bt424 => ((impl_RangeBranch.f k a0 bt420.1 bt420.2.1 bt420.2.2.1 bt420.2.2.2 bt424.1 bt424.2.1 bt424.2.2.1 bt424.2.2.2 a3).bind fun bt428 => ((laws_eqRange.f bt428.1 bt428.2.1 bt428.2.2.1 bt428.2.2.2.1 bt409.1 bt409.2.1 bt409.2.2.1 bt409.2.2.2.1).bind fun t439 => (if t439 = true then ((laws_eqRange.f bt428.2.2.2.2.1 bt428.2.2.2.2.2.1 bt428.2.2.2.2.2.2.1 bt428.2.2.2.2.2.2.2.1 bt409.2.2.2.2.1 bt409.2.2.2.2.2.1 bt409.2.2.2.2.2.2.1 bt409.2.2.2.2.2.2.2.1).bind fun t440 => (if t440 = true then (laws_FnExactRangeBranch.j0 k (bt428.2.2.2.2.2.2.2.2 != bt409.2.2.2.2.2.2.2.2)) else (laws_FnExactRangeBranch.j0 k true))) else (laws_FnExactRangeBranch.j0 k true))))))))


def laws_FnExactRangeBranch.T1 : Bool × List (List Nat × List Nat) := (true, [([], []), ([], []), ([1], [1]), ([], []), ([3, 2], [3]), ([], []), ([0, 2, 4, 5, 4], [0, 2, 4, 5]), ([6], [6]), ([7], [7]), ([7], [7]), ([7], [7]), ([], []), ([], []), ([11, 8, 6, 0, 1, 2, 3, 4, 5, 6, 7, 8, 11, 12], [8, 11]), ([12, 9, 13, 0, 1, 2, 3, 4, 5, 6, 7, 8, 9, 11, 12, 13], [9, 12]), ([10, 14, 0, 1, 2, 3, 4, 5, 6, 7, 8, 9, 10, 11, 12, 13, 14], [10])])
def laws_FnExactRangeBranch.B1 : List Nat := [0, 0, 2, 0, 14, 0, 63, 127, 255, 255, 255, 0, 0, 6655, 15359, 32767]
theorem laws_FnExactRangeBranch.tab1 : rtab .any (opsOf Try.f3 1) = laws_FnExactRangeBranch.T1 := by kernel_rfl
theorem laws_FnExactRangeBranch.bits1 : waitsOk laws_FnExactRangeBranch.T1.2 laws_FnExactRangeBranch.B1 = true := by kernel_rfl
def laws_FnExactRangeBranch.T2 : Bool × List (List Nat × List Nat) := (true, [([], []), ([], []), ([1], [1]), ([], []), ([3, 2], [3]), ([], []), ([0, 2, 4, 5, 4], [0, 2, 4, 5]), ([6], [6]), ([7], [7]), ([7], [7]), ([7], [7]), ([], []), ([], []), ([11, 8, 6, 0, 1, 2, 3, 4, 5, 6, 7, 8, 11, 12], [8, 11]), ([12, 9, 13, 0, 1, 2, 3, 4, 5, 6, 7, 8, 9, 11, 12, 13], [9, 12]), ([10, 14, 0, 1, 2, 3, 4, 5, 6, 7, 8, 9, 10, 11, 12, 13, 14], [10])])
def laws_FnExactRangeBranch.B2 : List Nat := [0, 0, 2, 0, 14, 0, 63, 127, 255, 255, 255, 0, 0, 6655, 15359, 32767]
theorem laws_FnExactRangeBranch.tab2 : rtab .any (opsOf Try.f3 2) = laws_FnExactRangeBranch.T2 := by kernel_rfl
theorem laws_FnExactRangeBranch.bits2 : waitsOk laws_FnExactRangeBranch.T2.2 laws_FnExactRangeBranch.B2 = true := by kernel_rfl
set_option maxHeartbeats 8000000 in
set_option maxRecDepth 100000 in
theorem laws_FnExactRangeBranch.calls (k : Nat) (a0 : Int) (a1_0 : Int) (a1_1 : Int) (a1_2 : Int) (a1_3 : Int) (a2_0 : Int) (a2_1 : Int) (a2_2 : Int) (a2_3 : Int) (a3 : Bool) (r : Bool) (w : World) (h : laws_FnExactRangeBranch.f k a0 a1_0 a1_1 a1_2 a1_3 a2_0 a2_1 a2_2 a2_3 a3 = some r) :
  Calls Try.prog 3 #[.int .i64 a0, .agg #[.int .i64 a1_0, .int .i64 a1_1, .int .i64 a1_2, .int .i64 a1_3], .agg #[.int .i64 a2_0, .int .i64 a2_1, .int .i64 a2_2, .int .i64 a2_3], .bool a3] w fun e w' => e = .returned (.bool r) ∧ Below w.heap.size w w' := by
 have hu23 := Try.underlying23
 have hu24 := Try.underlying24
 have HB := Aside0.mk (Below.refl w.heap.size w)
 have H : ((laws_toRange.f a1_0 a1_1 a1_2 a1_3).bind fun bt401 => ((laws_toRange.f a2_0 a2_1 a2_2 a2_3).bind fun bt405 => ((spec_RangeBranch.f k a0 bt401.1 bt401.2.1 bt401.2.2.1 bt401.2.2.2 bt405.1 bt405.2.1 bt405.2.2.1 bt405.2.2.2 a3).bind fun bt409 => ((laws_toRange.f a1_0 a1_1 a1_2 a1_3).bind fun bt420 => ((laws_toRange.f a2_0 a2_1 a2_2 a2_3).bind fun bt424 => ((impl_RangeBranch.f k a0 bt420.1 bt420.2.1 bt420.2.2.1 bt420.2.2.2 bt424.1 bt424.2.1 bt424.2.2.1 bt424.2.2.2 a3).bind fun bt428 => ((laws_eqRange.f bt428.1 bt428.2.1 bt428.2.2.1 bt428.2.2.2.1 bt409.1 bt409.2.1 bt409.2.2.1 bt409.2.2.2.1).bind fun t439 => (if t439 = true then ((laws_eqRange.f bt428.2.2.2.2.1 bt428.2.2.2.2.2.1 bt428.2.2.2.2.2.2.1 bt428.2.2.2.2.2.2.2.1 bt409.2.2.2.2.1 bt409.2.2.2.2.2.1 bt409.2.2.2.2.2.2.1 bt409.2.2.2.2.2.2.2.1).bind fun t440 => (if t440 = true then (laws_FnExactRangeBranch.j0 k (bt428.2.2.2.2.2.2.2.2 != bt409.2.2.2.2.2.2.2.2)) else (laws_FnExactRangeBranch.j0 k true))) else (laws_FnExactRangeBranch.j0 k true))))))))) = some r := h
 clear h
 replace H := Option.bind_eq_some_iff.mp H
 obtain ⟨⟨t401, t402, t403, t404⟩, A50, H⟩ := H
 try dsimp only at H
 have A5 := Aside0.mk A50
 clear A50
 replace H := Option.bind_eq_some_iff.mp H
 obtain ⟨⟨t405, t406, t407, t408⟩, A60, H⟩ := H
 try dsimp only at H
 have A6 := Aside0.mk A60
 clear A60
 replace H := Option.bind_eq_some_iff.mp H
 obtain ⟨⟨t409, t410, t411, t412, t413, t414, t415, t416, t417⟩, A70, H⟩ := H
 try dsimp only at H
 have A7 := Aside0.mk A70
 clear A70
 replace H := Option.bind_eq_some_iff.mp H
 obtain ⟨⟨t420, t421, t422, t423⟩, A80, H⟩ := H
 try dsimp only at H
 have A8 := Aside0.mk A80
 clear A80
 replace H := Option.bind_eq_some_iff.mp H
 obtain ⟨⟨t424, t425, t426, t427⟩, A90, H⟩ := H
 try dsimp only at H
 have A9 := Aside0.mk A90
 clear A90
 replace H := Option.bind_eq_some_iff.mp H
 obtain ⟨⟨t428, t429, t430, t431, t432, t433, t434, t435, t436⟩, A100, H⟩ := H
 try dsimp only at H
 have A10 := Aside0.mk A100
 clear A100
 have HC11 := Aside0.mk H
 clear H
 go_enter Try.func3, Try.ntmps3
 try go_wp2_with (first | ((with_reducible refine gate_dst (N := 5) rfl ?_); refine be 5 #[.int .i64 a1_0, .int .i64 a1_1, .int .i64 a1_2, .int .i64 a1_3] 23 ?_; intro gb399 hg w12 hbox hb; have BK399 := Aside0.mk hbox; have GW399 := zW hg; replace HB := zS hb; have GE399 := GW399; clear hb hbox hg) | ((with_reducible refine gate_dst (N := 6) rfl ?_); refine be 6 #[.int .i64 a2_0, .int .i64 a2_1, .int .i64 a2_2, .int .i64 a2_3] 23 ?_; intro gb400 hg w13 hbox hb; have BK400 := Aside0.mk hbox; have GW400 := zW hg; replace HB := zS hb; have GE400 := GW400; have NB399_400 := zl BK399 hg rfl; have NB400_399 := zg BK399 hg rfl; replace BK399 := zb BK399 hb rfl; clear hb hbox hg))
 replace BK399 := Aside0.mk (blk_drew BK399.out)
 replace BK400 := Aside0.mk (blk_drew BK400.out)
 replace HB := Aside0.mk (below_drew1 HB.out)
 refine start_ (n := 16) (S := fun w' => w'.cell? ⟨gb399, 0, none⟩ = some (.int .i64 a1_0) ∧ w'.cell? ⟨gb399, 1, none⟩ = some (.int .i64 a1_1) ∧ w'.cell? ⟨gb399, 2, none⟩ = some (.int .i64 a1_2) ∧ w'.cell? ⟨gb399, 3, none⟩ = some (.int .i64 a1_3) ∧ w'.cell? ⟨gb400, 0, none⟩ = some (.int .i64 a2_0) ∧ w'.cell? ⟨gb400, 1, none⟩ = some (.int .i64 a2_1) ∧ w'.cell? ⟨gb400, 2, none⟩ = some (.int .i64 a2_2) ∧ w'.cell? ⟨gb400, 3, none⟩ = some (.int .i64 a2_3)) (ds := []) #[false, false, false, false, false, false, false, false, false, false, false, false, false, false, false, false] (by kernel_rfl) rfl rfl ⟨(blk_cell BK399.out 0).trans rfl, (blk_cell BK399.out 1).trans rfl, (blk_cell BK399.out 2).trans rfl, (blk_cell BK399.out 3).trans rfl, (blk_cell BK400.out 0).trans rfl, (blk_cell BK400.out 1).trans rfl, (blk_cell BK400.out 2).trans rfl, (blk_cell BK400.out 3).trans rfl⟩ (fun hHeld => ?_); refine with_tabW laws_FnExactRangeBranch.tab1 laws_FnExactRangeBranch.bits1 (fun HT_ HW_ => ?_)
 generalize w13.drew = w14 at BK399 BK400 HB hHeld ⊢
 refine pz 0 16 ?_
 refine pz 5 21 ?_
 refine tz 1 17 ?_
 refine tz 3 19 ?_
 refine join_ (σ := Nat × Nat) 3 #[true, true, true, true, true, true, true, true, true, true, true, true, true, false, false, false] (fun s_ => [(18, .agg #[.int .i64 t401, .int .i64 t402, .int .i64 t403, .int .i64 t404]), (20, .agg #[.int .i64 t405, .int .i64 t406, .int .i64 t407, .int .i64 t408]), (22, .tuple #[.agg #[.int .i64 t409, .int .i64 t410, .int .i64 t411, .int .i64 t412], .agg #[.int .i64 t413, .int .i64 t414, .int .i64 t415, .int .i64 t416], .bool t417]), (9, .pointer (some ⟨s_.1, 0, none⟩)), (10, .pointer (some ⟨s_.2, 0, none⟩)), (15, .tuple #[.agg #[.int .i64 t409, .int .i64 t410, .int .i64 t411, .int .i64 t412], .agg #[.int .i64 t413, .int .i64 t414, .int .i64 t415, .int .i64 t416], .bool t417]), (23, .agg #[.int .i64 t409, .int .i64 t410, .int .i64 t411, .int .i64 t412]), (24, .agg #[.int .i64 t413, .int .i64 t414, .int .i64 t415, .int .i64 t416]), (25, .bool t417)]) (fun s_ w' => (w'.cell? ⟨gb399, 0, none⟩ = some (.int .i64 a1_0) ∧ w'.cell? ⟨gb399, 1, none⟩ = some (.int .i64 a1_1) ∧ w'.cell? ⟨gb399, 2, none⟩ = some (.int .i64 a1_2) ∧ w'.cell? ⟨gb399, 3, none⟩ = some (.int .i64 a1_3) ∧ w'.cell? ⟨gb400, 0, none⟩ = some (.int .i64 a2_0) ∧ w'.cell? ⟨gb400, 1, none⟩ = some (.int .i64 a2_1) ∧ w'.cell? ⟨gb400, 2, none⟩ = some (.int .i64 a2_2) ∧ w'.cell? ⟨gb400, 3, none⟩ = some (.int .i64 a2_3)) ∧ (w'.heap[gb399]? = some (.cells #[.int .i64 a1_0, .int .i64 a1_1, .int .i64 a1_2, .int .i64 a1_3] 23 (0, 0))) ∧ (w'.heap[gb400]? = some (.cells #[.int .i64 a2_0, .int .i64 a2_1, .int .i64 a2_2, .int .i64 a2_3] 23 (0, 0))) ∧ (w'.heap[s_.1]? = some (.cells #[.int .i64 0, .int .i64 0, .int .i64 0, .int .i64 0] 24 (0, 0))) ∧ (w'.heap[s_.2]? = some (.cells #[.int .i64 0, .int .i64 0, .int .i64 0, .int .i64 0] 24 (0, 0))) ∧ (w.heap.size ≤ s_.1) ∧ (w.heap.size ≤ s_.1) ∧ (gb399 ≠ s_.1) ∧ (s_.1 ≠ gb399) ∧ (gb400 ≠ s_.1) ∧ (s_.1 ≠ gb400) ∧ (s_.2 ≠ s_.1) ∧ (s_.1 ≠ s_.2) ∧ (w.heap.size ≤ s_.2) ∧ (w.heap.size ≤ s_.2) ∧ (gb399 ≠ s_.2) ∧ (s_.2 ≠ gb399) ∧ (gb400 ≠ s_.2) ∧ (s_.2 ≠ gb400) ∧ (Below w.heap.size w w')) ?_ ?_
 rotate_left
 ·intro hJ2_4_6_11_12
  refine join_ (σ := Nat) 4 #[true, true, true, true, true, true, true, true, true, true, true, true, false, false, false, false] (fun s_ => [(18, .agg #[.int .i64 t401, .int .i64 t402, .int .i64 t403, .int .i64 t404]), (20, .agg #[.int .i64 t405, .int .i64 t406, .int .i64 t407, .int .i64 t408]), (22, .tuple #[.agg #[.int .i64 t409, .int .i64 t410, .int .i64 t411, .int .i64 t412], .agg #[.int .i64 t413, .int .i64 t414, .int .i64 t415, .int .i64 t416], .bool t417]), (9, .pointer (some ⟨s_, 0, none⟩)), (15, .tuple #[.agg #[.int .i64 t409, .int .i64 t410, .int .i64 t411, .int .i64 t412], .agg #[.int .i64 t413, .int .i64 t414, .int .i64 t415, .int .i64 t416], .bool t417]), (23, .agg #[.int .i64 t409, .int .i64 t410, .int .i64 t411, .int .i64 t412]), (24, .agg #[.int .i64 t413, .int .i64 t414, .int .i64 t415, .int .i64 t416]), (25, .bool t417)]) (fun s_ w' => (w'.cell? ⟨gb399, 0, none⟩ = some (.int .i64 a1_0) ∧ w'.cell? ⟨gb399, 1, none⟩ = some (.int .i64 a1_1) ∧ w'.cell? ⟨gb399, 2, none⟩ = some (.int .i64 a1_2) ∧ w'.cell? ⟨gb399, 3, none⟩ = some (.int .i64 a1_3) ∧ w'.cell? ⟨gb400, 0, none⟩ = some (.int .i64 a2_0) ∧ w'.cell? ⟨gb400, 1, none⟩ = some (.int .i64 a2_1) ∧ w'.cell? ⟨gb400, 2, none⟩ = some (.int .i64 a2_2) ∧ w'.cell? ⟨gb400, 3, none⟩ = some (.int .i64 a2_3)) ∧ (w'.heap[gb399]? = some (.cells #[.int .i64 a1_0, .int .i64 a1_1, .int .i64 a1_2, .int .i64 a1_3] 23 (0, 0))) ∧ (w'.heap[gb400]? = some (.cells #[.int .i64 a2_0, .int .i64 a2_1, .int .i64 a2_2, .int .i64 a2_3] 23 (0, 0))) ∧ (w'.heap[s_]? = some (.cells #[.int .i64 0, .int .i64 0, .int .i64 0, .int .i64 0] 24 (0, 0))) ∧ (w.heap.size ≤ s_) ∧ (w.heap.size ≤ s_) ∧ (gb399 ≠ s_) ∧ (s_ ≠ gb399) ∧ (gb400 ≠ s_) ∧ (s_ ≠ gb400) ∧ (Below w.heap.size w w')) ?_ ?_
  rotate_left
  ·intro hJ2_4_6_11
   refine join_ (σ := Nat) 4 #[true, true, true, true, true, true, true, true, true, true, true, false, true, false, false, false] (fun s_ => [(18, .agg #[.int .i64 t401, .int .i64 t402, .int .i64 t403, .int .i64 t404]), (20, .agg #[.int .i64 t405, .int .i64 t406, .int .i64 t407, .int .i64 t408]), (22, .tuple #[.agg #[.int .i64 t409, .int .i64 t410, .int .i64 t411, .int .i64 t412], .agg #[.int .i64 t413, .int .i64 t414, .int .i64 t415, .int .i64 t416], .bool t417]), (10, .pointer (some ⟨s_, 0, none⟩)), (15, .tuple #[.agg #[.int .i64 t409, .int .i64 t410, .int .i64 t411, .int .i64 t412], .agg #[.int .i64 t413, .int .i64 t414, .int .i64 t415, .int .i64 t416], .bool t417]), (23, .agg #[.int .i64 t409, .int .i64 t410, .int .i64 t411, .int .i64 t412]), (24, .agg #[.int .i64 t413, .int .i64 t414, .int .i64 t415, .int .i64 t416]), (25, .bool t417)]) (fun s_ w' => (w'.cell? ⟨gb399, 0, none⟩ = some (.int .i64 a1_0) ∧ w'.cell? ⟨gb399, 1, none⟩ = some (.int .i64 a1_1) ∧ w'.cell? ⟨gb399, 2, none⟩ = some (.int .i64 a1_2) ∧ w'.cell? ⟨gb399, 3, none⟩ = some (.int .i64 a1_3) ∧ w'.cell? ⟨gb400, 0, none⟩ = some (.int .i64 a2_0) ∧ w'.cell? ⟨gb400, 1, none⟩ = some (.int .i64 a2_1) ∧ w'.cell? ⟨gb400, 2, none⟩ = some (.int .i64 a2_2) ∧ w'.cell? ⟨gb400, 3, none⟩ = some (.int .i64 a2_3)) ∧ (w'.heap[gb399]? = some (.cells #[.int .i64 a1_0, .int .i64 a1_1, .int .i64 a1_2, .int .i64 a1_3] 23 (0, 0))) ∧ (w'.heap[gb400]? = some (.cells #[.int .i64 a2_0, .int .i64 a2_1, .int .i64 a2_2, .int .i64 a2_3] 23 (0, 0))) ∧ (w'.heap[s_]? = some (.cells #[.int .i64 0, .int .i64 0, .int .i64 0, .int .i64 0] 24 (0, 0))) ∧ (w.heap.size ≤ s_) ∧ (w.heap.size ≤ s_) ∧ (gb399 ≠ s_) ∧ (s_ ≠ gb399) ∧ (gb400 ≠ s_) ∧ (s_ ≠ gb400) ∧ (Below w.heap.size w w')) ?_ ?_
   rotate_left
   ·intro hJ2_4_6_12
    refine join_ (σ := Nat × Nat) 8 #[true, true, true, true, true, true, false, false, false, false, false, true, true, false, false, false] (fun s_ => [(18, .agg #[.int .i64 t401, .int .i64 t402, .int .i64 t403, .int .i64 t404]), (20, .agg #[.int .i64 t405, .int .i64 t406, .int .i64 t407, .int .i64 t408]), (9, .pointer (some ⟨s_.1, 0, none⟩)), (10, .pointer (some ⟨s_.2, 0, none⟩))]) (fun s_ w' => (w'.cell? ⟨gb399, 0, none⟩ = some (.int .i64 a1_0) ∧ w'.cell? ⟨gb399, 1, none⟩ = some (.int .i64 a1_1) ∧ w'.cell? ⟨gb399, 2, none⟩ = some (.int .i64 a1_2) ∧ w'.cell? ⟨gb399, 3, none⟩ = some (.int .i64 a1_3) ∧ w'.cell? ⟨gb400, 0, none⟩ = some (.int .i64 a2_0) ∧ w'.cell? ⟨gb400, 1, none⟩ = some (.int .i64 a2_1) ∧ w'.cell? ⟨gb400, 2, none⟩ = some (.int .i64 a2_2) ∧ w'.cell? ⟨gb400, 3, none⟩ = some (.int .i64 a2_3)) ∧ (w'.heap[gb399]? = some (.cells #[.int .i64 a1_0, .int .i64 a1_1, .int .i64 a1_2, .int .i64 a1_3] 23 (0, 0))) ∧ (w'.heap[gb400]? = some (.cells #[.int .i64 a2_0, .int .i64 a2_1, .int .i64 a2_2, .int .i64 a2_3] 23 (0, 0))) ∧ (w'.heap[s_.1]? = some (.cells #[.int .i64 0, .int .i64 0, .int .i64 0, .int .i64 0] 24 (0, 0))) ∧ (w'.heap[s_.2]? = some (.cells #[.int .i64 0, .int .i64 0, .int .i64 0, .int .i64 0] 24 (0, 0))) ∧ (w.heap.size ≤ s_.1) ∧ (w.heap.size ≤ s_.1) ∧ (gb399 ≠ s_.1) ∧ (s_.1 ≠ gb399) ∧ (gb400 ≠ s_.1) ∧ (s_.1 ≠ gb400) ∧ (s_.2 ≠ s_.1) ∧ (s_.1 ≠ s_.2) ∧ (w.heap.size ≤ s_.2) ∧ (w.heap.size ≤ s_.2) ∧ (gb399 ≠ s_.2) ∧ (s_.2 ≠ gb399) ∧ (gb400 ≠ s_.2) ∧ (s_.2 ≠ gb400) ∧ (Below w.heap.size w w')) ?_ ?_
    rotate_left
    ·intro hJ2_4_11_12
     refine join_ (σ := Unit) 5 #[true, true, true, true, true, true, true, true, true, true, true, false, false, false, false, false] (fun s_ => [(18, .agg #[.int .i64 t401, .int .i64 t402, .int .i64 t403, .int .i64 t404]), (20, .agg #[.int .i64 t405, .int .i64 t406, .int .i64 t407, .int .i64 t408]), (22, .tuple #[.agg #[.int .i64 t409, .int .i64 t410, .int .i64 t411, .int .i64 t412], .agg #[.int .i64 t413, .int .i64 t414, .int .i64 t415, .int .i64 t416], .bool t417]), (15, .tuple #[.agg #[.int .i64 t409, .int .i64 t410, .int .i64 t411, .int .i64 t412], .agg #[.int .i64 t413, .int .i64 t414, .int .i64 t415, .int .i64 t416], .bool t417]), (23, .agg #[.int .i64 t409, .int .i64 t410, .int .i64 t411, .int .i64 t412]), (24, .agg #[.int .i64 t413, .int .i64 t414, .int .i64 t415, .int .i64 t416]), (25, .bool t417)]) (fun s_ w' => (w'.cell? ⟨gb399, 0, none⟩ = some (.int .i64 a1_0) ∧ w'.cell? ⟨gb399, 1, none⟩ = some (.int .i64 a1_1) ∧ w'.cell? ⟨gb399, 2, none⟩ = some (.int .i64 a1_2) ∧ w'.cell? ⟨gb399, 3, none⟩ = some (.int .i64 a1_3) ∧ w'.cell? ⟨gb400, 0, none⟩ = some (.int .i64 a2_0) ∧ w'.cell? ⟨gb400, 1, none⟩ = some (.int .i64 a2_1) ∧ w'.cell? ⟨gb400, 2, none⟩ = some (.int .i64 a2_2) ∧ w'.cell? ⟨gb400, 3, none⟩ = some (.int .i64 a2_3)) ∧ (w'.heap[gb399]? = some (.cells #[.int .i64 a1_0, .int .i64 a1_1, .int .i64 a1_2, .int .i64 a1_3] 23 (0, 0))) ∧ (w'.heap[gb400]? = some (.cells #[.int .i64 a2_0, .int .i64 a2_1, .int .i64 a2_2, .int .i64 a2_3] 23 (0, 0))) ∧ (Below w.heap.size w w')) ?_ ?_
     rotate_left
     ·intro hJ2_4_6
      refine join_ (σ := Nat) 9 #[true, true, true, true, true, true, false, false, false, false, false, true, false, false, false, false] (fun s_ => [(18, .agg #[.int .i64 t401, .int .i64 t402, .int .i64 t403, .int .i64 t404]), (20, .agg #[.int .i64 t405, .int .i64 t406, .int .i64 t407, .int .i64 t408]), (9, .pointer (some ⟨s_, 0, none⟩))]) (fun s_ w' => (w'.cell? ⟨gb399, 0, none⟩ = some (.int .i64 a1_0) ∧ w'.cell? ⟨gb399, 1, none⟩ = some (.int .i64 a1_1) ∧ w'.cell? ⟨gb399, 2, none⟩ = some (.int .i64 a1_2) ∧ w'.cell? ⟨gb399, 3, none⟩ = some (.int .i64 a1_3) ∧ w'.cell? ⟨gb400, 0, none⟩ = some (.int .i64 a2_0) ∧ w'.cell? ⟨gb400, 1, none⟩ = some (.int .i64 a2_1) ∧ w'.cell? ⟨gb400, 2, none⟩ = some (.int .i64 a2_2) ∧ w'.cell? ⟨gb400, 3, none⟩ = some (.int .i64 a2_3)) ∧ (w'.heap[gb399]? = some (.cells #[.int .i64 a1_0, .int .i64 a1_1, .int .i64 a1_2, .int .i64 a1_3] 23 (0, 0))) ∧ (w'.heap[gb400]? = some (.cells #[.int .i64 a2_0, .int .i64 a2_1, .int .i64 a2_2, .int .i64 a2_3] 23 (0, 0))) ∧ (w'.heap[s_]? = some (.cells #[.int .i64 0, .int .i64 0, .int .i64 0, .int .i64 0] 24 (0, 0))) ∧ (w.heap.size ≤ s_) ∧ (w.heap.size ≤ s_) ∧ (gb399 ≠ s_) ∧ (s_ ≠ gb399) ∧ (gb400 ≠ s_) ∧ (s_ ≠ gb400) ∧ (Below w.heap.size w w')) ?_ ?_
      rotate_left
      ·intro hJ2_4_11
       refine join_ (σ := Nat) 9 #[true, true, true, true, true, true, false, false, false, false, false, false, true, false, false, false] (fun s_ => [(18, .agg #[.int .i64 t401, .int .i64 t402, .int .i64 t403, .int .i64 t404]), (20, .agg #[.int .i64 t405, .int .i64 t406, .int .i64 t407, .int .i64 t408]), (10, .pointer (some ⟨s_, 0, none⟩))]) (fun s_ w' => (w'.cell? ⟨gb399, 0, none⟩ = some (.int .i64 a1_0) ∧ w'.cell? ⟨gb399, 1, none⟩ = some (.int .i64 a1_1) ∧ w'.cell? ⟨gb399, 2, none⟩ = some (.int .i64 a1_2) ∧ w'.cell? ⟨gb399, 3, none⟩ = some (.int .i64 a1_3) ∧ w'.cell? ⟨gb400, 0, none⟩ = some (.int .i64 a2_0) ∧ w'.cell? ⟨gb400, 1, none⟩ = some (.int .i64 a2_1) ∧ w'.cell? ⟨gb400, 2, none⟩ = some (.int .i64 a2_2) ∧ w'.cell? ⟨gb400, 3, none⟩ = some (.int .i64 a2_3)) ∧ (w'.heap[gb399]? = some (.cells #[.int .i64 a1_0, .int .i64 a1_1, .int .i64 a1_2, .int .i64 a1_3] 23 (0, 0))) ∧ (w'.heap[gb400]? = some (.cells #[.int .i64 a2_0, .int .i64 a2_1, .int .i64 a2_2, .int .i64 a2_3] 23 (0, 0))) ∧ (w'.heap[s_]? = some (.cells #[.int .i64 0, .int .i64 0, .int .i64 0, .int .i64 0] 24 (0, 0))) ∧ (w.heap.size ≤ s_) ∧ (w.heap.size ≤ s_) ∧ (gb399 ≠ s_) ∧ (s_ ≠ gb399) ∧ (gb400 ≠ s_) ∧ (s_ ≠ gb400) ∧ (Below w.heap.size w w')) ?_ ?_
       rotate_left
       ·intro hJ2_4_12
        refine join_ (σ := Nat × Nat) 9 #[true, true, true, true, false, true, false, false, false, false, false, true, true, false, false, false] (fun s_ => [(18, .agg #[.int .i64 t401, .int .i64 t402, .int .i64 t403, .int .i64 t404]), (9, .pointer (some ⟨s_.1, 0, none⟩)), (10, .pointer (some ⟨s_.2, 0, none⟩))]) (fun s_ w' => (w'.cell? ⟨gb399, 0, none⟩ = some (.int .i64 a1_0) ∧ w'.cell? ⟨gb399, 1, none⟩ = some (.int .i64 a1_1) ∧ w'.cell? ⟨gb399, 2, none⟩ = some (.int .i64 a1_2) ∧ w'.cell? ⟨gb399, 3, none⟩ = some (.int .i64 a1_3) ∧ w'.cell? ⟨gb400, 0, none⟩ = some (.int .i64 a2_0) ∧ w'.cell? ⟨gb400, 1, none⟩ = some (.int .i64 a2_1) ∧ w'.cell? ⟨gb400, 2, none⟩ = some (.int .i64 a2_2) ∧ w'.cell? ⟨gb400, 3, none⟩ = some (.int .i64 a2_3)) ∧ (w'.heap[gb399]? = some (.cells #[.int .i64 a1_0, .int .i64 a1_1, .int .i64 a1_2, .int .i64 a1_3] 23 (0, 0))) ∧ (w'.heap[gb400]? = some (.cells #[.int .i64 a2_0, .int .i64 a2_1, .int .i64 a2_2, .int .i64 a2_3] 23 (0, 0))) ∧ (w'.heap[s_.1]? = some (.cells #[.int .i64 0, .int .i64 0, .int .i64 0, .int .i64 0] 24 (0, 0))) ∧ (w'.heap[s_.2]? = some (.cells #[.int .i64 0, .int .i64 0, .int .i64 0, .int .i64 0] 24 (0, 0))) ∧ (w.heap.size ≤ s_.1) ∧ (w.heap.size ≤ s_.1) ∧ (gb399 ≠ s_.1) ∧ (s_.1 ≠ gb399) ∧ (gb400 ≠ s_.1) ∧ (s_.1 ≠ gb400) ∧ (s_.2 ≠ s_.1) ∧ (s_.1 ≠ s_.2) ∧ (w.heap.size ≤ s_.2) ∧ (w.heap.size ≤ s_.2) ∧ (gb399 ≠ s_.2) ∧ (s_.2 ≠ gb399) ∧ (gb400 ≠ s_.2) ∧ (s_.2 ≠ gb400) ∧ (Below w.heap.size w w')) ?_ ?_
        rotate_left
        ·intro hJ2_11_12
         refine join_ (σ := Unit) 10 #[true, true, true, true, true, true, false, false, false, false, false, false, false, false, false, false] (fun s_ => [(18, .agg #[.int .i64 t401, .int .i64 t402, .int .i64 t403, .int .i64 t404]), (20, .agg #[.int .i64 t405, .int .i64 t406, .int .i64 t407, .int .i64 t408])]) (fun s_ w' => (w'.cell? ⟨gb399, 0, none⟩ = some (.int .i64 a1_0) ∧ w'.cell? ⟨gb399, 1, none⟩ = some (.int .i64 a1_1) ∧ w'.cell? ⟨gb399, 2, none⟩ = some (.int .i64 a1_2) ∧ w'.cell? ⟨gb399, 3, none⟩ = some (.int .i64 a1_3) ∧ w'.cell? ⟨gb400, 0, none⟩ = some (.int .i64 a2_0) ∧ w'.cell? ⟨gb400, 1, none⟩ = some (.int .i64 a2_1) ∧ w'.cell? ⟨gb400, 2, none⟩ = some (.int .i64 a2_2) ∧ w'.cell? ⟨gb400, 3, none⟩ = some (.int .i64 a2_3)) ∧ (w'.heap[gb399]? = some (.cells #[.int .i64 a1_0, .int .i64 a1_1, .int .i64 a1_2, .int .i64 a1_3] 23 (0, 0))) ∧ (w'.heap[gb400]? = some (.cells #[.int .i64 a2_0, .int .i64 a2_1, .int .i64 a2_2, .int .i64 a2_3] 23 (0, 0))) ∧ (Below w.heap.size w w')) ?_ ?_
         rotate_left
         ·intro hJ2_4
          refine join_ (σ := Nat) 10 #[true, true, true, true, false, true, false, false, false, false, false, true, false, false, false, false] (fun s_ => [(18, .agg #[.int .i64 t401, .int .i64 t402, .int .i64 t403, .int .i64 t404]), (9, .pointer (some ⟨s_, 0, none⟩))]) (fun s_ w' => (w'.cell? ⟨gb399, 0, none⟩ = some (.int .i64 a1_0) ∧ w'.cell? ⟨gb399, 1, none⟩ = some (.int .i64 a1_1) ∧ w'.cell? ⟨gb399, 2, none⟩ = some (.int .i64 a1_2) ∧ w'.cell? ⟨gb399, 3, none⟩ = some (.int .i64 a1_3) ∧ w'.cell? ⟨gb400, 0, none⟩ = some (.int .i64 a2_0) ∧ w'.cell? ⟨gb400, 1, none⟩ = some (.int .i64 a2_1) ∧ w'.cell? ⟨gb400, 2, none⟩ = some (.int .i64 a2_2) ∧ w'.cell? ⟨gb400, 3, none⟩ = some (.int .i64 a2_3)) ∧ (w'.heap[gb399]? = some (.cells #[.int .i64 a1_0, .int .i64 a1_1, .int .i64 a1_2, .int .i64 a1_3] 23 (0, 0))) ∧ (w'.heap[gb400]? = some (.cells #[.int .i64 a2_0, .int .i64 a2_1, .int .i64 a2_2, .int .i64 a2_3] 23 (0, 0))) ∧ (w'.heap[s_]? = some (.cells #[.int .i64 0, .int .i64 0, .int .i64 0, .int .i64 0] 24 (0, 0))) ∧ (w.heap.size ≤ s_) ∧ (w.heap.size ≤ s_) ∧ (gb399 ≠ s_) ∧ (s_ ≠ gb399) ∧ (gb400 ≠ s_) ∧ (s_ ≠ gb400) ∧ (Below w.heap.size w w')) ?_ ?_
          rotate_left
          ·intro hJ2_11
           refine join_ (σ := Nat) 10 #[true, true, true, true, false, true, false, false, false, false, false, false, true, false, false, false] (fun s_ => [(18, .agg #[.int .i64 t401, .int .i64 t402, .int .i64 t403, .int .i64 t404]), (10, .pointer (some ⟨s_, 0, none⟩))]) (fun s_ w' => (w'.cell? ⟨gb399, 0, none⟩ = some (.int .i64 a1_0) ∧ w'.cell? ⟨gb399, 1, none⟩ = some (.int .i64 a1_1) ∧ w'.cell? ⟨gb399, 2, none⟩ = some (.int .i64 a1_2) ∧ w'.cell? ⟨gb399, 3, none⟩ = some (.int .i64 a1_3) ∧ w'.cell? ⟨gb400, 0, none⟩ = some (.int .i64 a2_0) ∧ w'.cell? ⟨gb400, 1, none⟩ = some (.int .i64 a2_1) ∧ w'.cell? ⟨gb400, 2, none⟩ = some (.int .i64 a2_2) ∧ w'.cell? ⟨gb400, 3, none⟩ = some (.int .i64 a2_3)) ∧ (w'.heap[gb399]? = some (.cells #[.int .i64 a1_0, .int .i64 a1_1, .int .i64 a1_2, .int .i64 a1_3] 23 (0, 0))) ∧ (w'.heap[gb400]? = some (.cells #[.int .i64 a2_0, .int .i64 a2_1, .int .i64 a2_2, .int .i64 a2_3] 23 (0, 0))) ∧ (w'.heap[s_]? = some (.cells #[.int .i64 0, .int .i64 0, .int .i64 0, .int .i64 0] 24 (0, 0))) ∧ (w.heap.size ≤ s_) ∧ (w.heap.size ≤ s_) ∧ (gb399 ≠ s_) ∧ (s_ ≠ gb399) ∧ (gb400 ≠ s_) ∧ (s_ ≠ gb400) ∧ (Below w.heap.size w w')) ?_ ?_
           rotate_left
           ·intro hJ2_12
            refine join_ (σ := Nat × Nat) 10 #[true, true, false, true, false, true, false, false, false, false, false, true, true, false, false, false] (fun s_ => [(9, .pointer (some ⟨s_.1, 0, none⟩)), (10, .pointer (some ⟨s_.2, 0, none⟩))]) (fun s_ w' => (w'.cell? ⟨gb399, 0, none⟩ = some (.int .i64 a1_0) ∧ w'.cell? ⟨gb399, 1, none⟩ = some (.int .i64 a1_1) ∧ w'.cell? ⟨gb399, 2, none⟩ = some (.int .i64 a1_2) ∧ w'.cell? ⟨gb399, 3, none⟩ = some (.int .i64 a1_3) ∧ w'.cell? ⟨gb400, 0, none⟩ = some (.int .i64 a2_0) ∧ w'.cell? ⟨gb400, 1, none⟩ = some (.int .i64 a2_1) ∧ w'.cell? ⟨gb400, 2, none⟩ = some (.int .i64 a2_2) ∧ w'.cell? ⟨gb400, 3, none⟩ = some (.int .i64 a2_3)) ∧ (w'.heap[gb399]? = some (.cells #[.int .i64 a1_0, .int .i64 a1_1, .int .i64 a1_2, .int .i64 a1_3] 23 (0, 0))) ∧ (w'.heap[gb400]? = some (.cells #[.int .i64 a2_0, .int .i64 a2_1, .int .i64 a2_2, .int .i64 a2_3] 23 (0, 0))) ∧ (w'.heap[s_.1]? = some (.cells #[.int .i64 0, .int .i64 0, .int .i64 0, .int .i64 0] 24 (0, 0))) ∧ (w'.heap[s_.2]? = some (.cells #[.int .i64 0, .int .i64 0, .int .i64 0, .int .i64 0] 24 (0, 0))) ∧ (w.heap.size ≤ s_.1) ∧ (w.heap.size ≤ s_.1) ∧ (gb399 ≠ s_.1) ∧ (s_.1 ≠ gb399) ∧ (gb400 ≠ s_.1) ∧ (s_.1 ≠ gb400) ∧ (s_.2 ≠ s_.1) ∧ (s_.1 ≠ s_.2) ∧ (w.heap.size ≤ s_.2) ∧ (w.heap.size ≤ s_.2) ∧ (gb399 ≠ s_.2) ∧ (s_.2 ≠ gb399) ∧ (gb400 ≠ s_.2) ∧ (s_.2 ≠ gb400) ∧ (Below w.heap.size w w')) ?_ ?_
            rotate_left
            ·intro hJ11_12
             refine join_ (σ := Unit) 11 #[true, true, true, true, false, true, false, false, false, false, false, false, false, false, false, false] (fun s_ => [(18, .agg #[.int .i64 t401, .int .i64 t402, .int .i64 t403, .int .i64 t404])]) (fun s_ w' => (w'.cell? ⟨gb399, 0, none⟩ = some (.int .i64 a1_0) ∧ w'.cell? ⟨gb399, 1, none⟩ = some (.int .i64 a1_1) ∧ w'.cell? ⟨gb399, 2, none⟩ = some (.int .i64 a1_2) ∧ w'.cell? ⟨gb399, 3, none⟩ = some (.int .i64 a1_3) ∧ w'.cell? ⟨gb400, 0, none⟩ = some (.int .i64 a2_0) ∧ w'.cell? ⟨gb400, 1, none⟩ = some (.int .i64 a2_1) ∧ w'.cell? ⟨gb400, 2, none⟩ = some (.int .i64 a2_2) ∧ w'.cell? ⟨gb400, 3, none⟩ = some (.int .i64 a2_3)) ∧ (w'.heap[gb399]? = some (.cells #[.int .i64 a1_0, .int .i64 a1_1, .int .i64 a1_2, .int .i64 a1_3] 23 (0, 0))) ∧ (w'.heap[gb400]? = some (.cells #[.int .i64 a2_0, .int .i64 a2_1, .int .i64 a2_2, .int .i64 a2_3] 23 (0, 0))) ∧ (Below w.heap.size w w')) ?_ ?_
             rotate_left
             ·intro hJ2
              refine join_ (σ := Nat) 11 #[true, true, false, true, false, true, false, false, false, false, false, true, false, false, false, false] (fun s_ => [(9, .pointer (some ⟨s_, 0, none⟩))]) (fun s_ w' => (w'.cell? ⟨gb399, 0, none⟩ = some (.int .i64 a1_0) ∧ w'.cell? ⟨gb399, 1, none⟩ = some (.int .i64 a1_1) ∧ w'.cell? ⟨gb399, 2, none⟩ = some (.int .i64 a1_2) ∧ w'.cell? ⟨gb399, 3, none⟩ = some (.int .i64 a1_3) ∧ w'.cell? ⟨gb400, 0, none⟩ = some (.int .i64 a2_0) ∧ w'.cell? ⟨gb400, 1, none⟩ = some (.int .i64 a2_1) ∧ w'.cell? ⟨gb400, 2, none⟩ = some (.int .i64 a2_2) ∧ w'.cell? ⟨gb400, 3, none⟩ = some (.int .i64 a2_3)) ∧ (w'.heap[gb399]? = some (.cells #[.int .i64 a1_0, .int .i64 a1_1, .int .i64 a1_2, .int .i64 a1_3] 23 (0, 0))) ∧ (w'.heap[gb400]? = some (.cells #[.int .i64 a2_0, .int .i64 a2_1, .int .i64 a2_2, .int .i64 a2_3] 23 (0, 0))) ∧ (w'.heap[s_]? = some (.cells #[.int .i64 0, .int .i64 0, .int .i64 0, .int .i64 0] 24 (0, 0))) ∧ (w.heap.size ≤ s_) ∧ (w.heap.size ≤ s_) ∧ (gb399 ≠ s_) ∧ (s_ ≠ gb399) ∧ (gb400 ≠ s_) ∧ (s_ ≠ gb400) ∧ (Below w.heap.size w w')) ?_ ?_
              rotate_left
              ·intro hJ11
               refine join_ (σ := Nat) 11 #[true, true, false, true, false, true, false, false, false, false, false, false, true, false, false, false] (fun s_ => [(10, .pointer (some ⟨s_, 0, none⟩))]) (fun s_ w' => (w'.cell? ⟨gb399, 0, none⟩ = some (.int .i64 a1_0) ∧ w'.cell? ⟨gb399, 1, none⟩ = some (.int .i64 a1_1) ∧ w'.cell? ⟨gb399, 2, none⟩ = some (.int .i64 a1_2) ∧ w'.cell? ⟨gb399, 3, none⟩ = some (.int .i64 a1_3) ∧ w'.cell? ⟨gb400, 0, none⟩ = some (.int .i64 a2_0) ∧ w'.cell? ⟨gb400, 1, none⟩ = some (.int .i64 a2_1) ∧ w'.cell? ⟨gb400, 2, none⟩ = some (.int .i64 a2_2) ∧ w'.cell? ⟨gb400, 3, none⟩ = some (.int .i64 a2_3)) ∧ (w'.heap[gb399]? = some (.cells #[.int .i64 a1_0, .int .i64 a1_1, .int .i64 a1_2, .int .i64 a1_3] 23 (0, 0))) ∧ (w'.heap[gb400]? = some (.cells #[.int .i64 a2_0, .int .i64 a2_1, .int .i64 a2_2, .int .i64 a2_3] 23 (0, 0))) ∧ (w'.heap[s_]? = some (.cells #[.int .i64 0, .int .i64 0, .int .i64 0, .int .i64 0] 24 (0, 0))) ∧ (w.heap.size ≤ s_) ∧ (w.heap.size ≤ s_) ∧ (gb399 ≠ s_) ∧ (s_ ≠ gb399) ∧ (gb400 ≠ s_) ∧ (s_ ≠ gb400) ∧ (Below w.heap.size w w')) ?_ ?_
               rotate_left
               ·intro hJ12
                refine three_ (i := 2) (j := 11) (k := 12) (Ni := some 18) (Nj := some 9) (Nk := some 10) #[true, true, true, true, false, true, false, false, false, false, false, false, false, false, false, false] #[true, true, false, true, false, true, false, false, false, false, false, true, false, false, false, false] #[true, true, false, true, false, true, false, false, false, false, false, false, true, false, false, false] rfl rfl rfl rfl rfl rfl (three_of HT_.out (by kernel_rfl)) (by decide) (by decide) (by decide) (fun K hK => ?_) (fun K hK => ?_) (fun K hK => ?_)
                ·skip
                 refine gz Try.func5 #[.agg #[.int .i64 a1_0, .int .i64 a1_1, .int .i64 a1_2, .int .i64 a1_3]] ?_
                 with_reducible refine (laws_toRange.calls a1_0 a1_1 a1_2 a1_3 t401 t402 t403 t404 _ A5.out).mono ?_
                 rintro e w15 ⟨rfl, hb⟩
                 refine ⟨_, rfl, ?_⟩
                 replace BK399 := zb BK399 hb rfl
                 replace BK400 := zb BK400 hb rfl
                 replace HB := zS hb
                 try clear hb
                 refine hK.out _ _ ⟨(blk_cell BK399.out 0).trans rfl, (blk_cell BK399.out 1).trans rfl, (blk_cell BK399.out 2).trans rfl, (blk_cell BK399.out 3).trans rfl, (blk_cell BK400.out 0).trans rfl, (blk_cell BK400.out 1).trans rfl, (blk_cell BK400.out 2).trans rfl, (blk_cell BK400.out 3).trans rfl⟩ (fun hHeld => ?_)
                 clear hK K
                 refine nz ?_
                 exact norm_ (by first | (simp only [putAll, Act.put, List.setIfInBounds_toArray, List.set_cons_zero, List.set_cons_succ]; done) | (simp only [putAll, Act.put, List.setIfInBounds_toArray, List.set_cons_zero, List.set_cons_succ]; rfl)) (hJ2 () _ ⟨hHeld, (by exact bq BK399.out), (by exact bq BK400.out), zB⟩)
                ·skip
                 refine box_step ?hg (N := 9) ?hd (cs := #[.int .i64 0, .int .i64 0, .int .i64 0, .int .i64 0]) (t := 24) ?hr ?_; (case hd => rfl); (case hg => rfl); (case hr => first | (go_simp; done) | (go_simp; rfl))
                 intro gb418 hg w15 hbox hb
                 have BK418 := Aside0.mk hbox
                 have GW418 := zW hg
                 have GE418 := zW hg
                 replace HB := zS hb
                 have NB399_418 := zl BK399 hg rfl
                 have NB418_399 := zg BK399 hg rfl
                 replace BK399 := zb BK399 hb rfl
                 have NB400_418 := zl BK400 hg rfl
                 have NB418_400 := zg BK400 hg rfl
                 replace BK400 := zb BK400 hb rfl
                 clear hb hbox hg
                 refine hK.out _ _ ⟨(blk_cell BK399.out 0).trans rfl, (blk_cell BK399.out 1).trans rfl, (blk_cell BK399.out 2).trans rfl, (blk_cell BK399.out 3).trans rfl, (blk_cell BK400.out 0).trans rfl, (blk_cell BK400.out 1).trans rfl, (blk_cell BK400.out 2).trans rfl, (blk_cell BK400.out 3).trans rfl⟩ (fun hHeld => ?_)
                 clear hK K
                 refine nz ?_
                 exact norm_ (by first | (simp only [putAll, Act.put, List.setIfInBounds_toArray, List.set_cons_zero, List.set_cons_succ]; done) | (simp only [putAll, Act.put, List.setIfInBounds_toArray, List.set_cons_zero, List.set_cons_succ]; rfl)) (hJ11 (gb418) _ ⟨hHeld, (by exact bq BK399.out), (by exact bq BK400.out), (by exact bq BK418.out), GW418.out, GE418.out, NB399_418.out, NB418_399.out, NB400_418.out, NB418_400.out, zB⟩)
                ·skip
                 refine box_step ?hg (N := 10) ?hd (cs := #[.int .i64 0, .int .i64 0, .int .i64 0, .int .i64 0]) (t := 24) ?hr ?_; (case hd => rfl); (case hg => rfl); (case hr => first | (go_simp; done) | (go_simp; rfl))
                 intro gb419 hg w15 hbox hb
                 have BK419 := Aside0.mk hbox
                 have GW419 := zW hg
                 have GE419 := zW hg
                 replace HB := zS hb
                 have NB399_419 := zl BK399 hg rfl
                 have NB419_399 := zg BK399 hg rfl
                 replace BK399 := zb BK399 hb rfl
                 have NB400_419 := zl BK400 hg rfl
                 have NB419_400 := zg BK400 hg rfl
                 replace BK400 := zb BK400 hb rfl
                 clear hb hbox hg
                 refine hK.out _ _ ⟨(blk_cell BK399.out 0).trans rfl, (blk_cell BK399.out 1).trans rfl, (blk_cell BK399.out 2).trans rfl, (blk_cell BK399.out 3).trans rfl, (blk_cell BK400.out 0).trans rfl, (blk_cell BK400.out 1).trans rfl, (blk_cell BK400.out 2).trans rfl, (blk_cell BK400.out 3).trans rfl⟩ (fun hHeld => ?_)
                 clear hK K
                 refine nz ?_
                 exact norm_ (by first | (simp only [putAll, Act.put, List.setIfInBounds_toArray, List.set_cons_zero, List.set_cons_succ]; done) | (simp only [putAll, Act.put, List.setIfInBounds_toArray, List.set_cons_zero, List.set_cons_succ]; rfl)) (hJ12 (gb419) _ ⟨hHeld, (by exact bq BK399.out), (by exact bq BK400.out), (by exact bq BK419.out), GW419.out, GE419.out, NB399_419.out, NB419_399.out, NB400_419.out, NB419_400.out, zB⟩)
               ·skip
                rintro gb419 w16 ⟨hS_, h0_, h1_, h2_, h3_, h4_, h5_, h6_, h7_, h8_, h9_⟩
                have n0_ : Aside0 (w16.heap[gb399]? = some (.cells #[.int .i64 a1_0, .int .i64 a1_1, .int .i64 a1_2, .int .i64 a1_3] 23 (0, 0))) := ⟨h0_⟩
                have n1_ : Aside0 (w16.heap[gb400]? = some (.cells #[.int .i64 a2_0, .int .i64 a2_1, .int .i64 a2_2, .int .i64 a2_3] 23 (0, 0))) := ⟨h1_⟩
                have n2_ : Aside0 (w16.heap[gb419]? = some (.cells #[.int .i64 0, .int .i64 0, .int .i64 0, .int .i64 0] 24 (0, 0))) := ⟨h2_⟩
                have n3_ : Aside0 (w.heap.size ≤ gb419) := ⟨h3_⟩
                have n4_ : Aside0 (w.heap.size ≤ gb419) := ⟨h4_⟩
                have n5_ : Aside0 (gb399 ≠ gb419) := ⟨h5_⟩
                have n6_ : Aside0 (gb419 ≠ gb399) := ⟨h6_⟩
                have n7_ : Aside0 (gb400 ≠ gb419) := ⟨h7_⟩
                have n8_ : Aside0 (gb419 ≠ gb400) := ⟨h8_⟩
                have n9_ : Aside0 (Below w.heap.size w w16) := ⟨h9_⟩
                clear BK399
                clear BK400
                clear HB
                clear h0_ h1_ h2_ h3_ h4_ h5_ h6_ h7_ h8_ h9_
                have BK399 := n0_
                have BK400 := n1_
                have BK419 := n2_
                have GW419 := n3_
                have GE419 := n4_
                have NB399_419 := n5_
                have NB419_399 := n6_
                have NB400_419 := n7_
                have NB419_400 := n8_
                have HB := n9_
                clear n0_ n1_ n2_ n3_ n4_ n5_ n6_ n7_ n8_ n9_
                have hHeld : w16.cell? ⟨gb399, 0, none⟩ = some (.int .i64 a1_0) ∧ w16.cell? ⟨gb399, 1, none⟩ = some (.int .i64 a1_1) ∧ w16.cell? ⟨gb399, 2, none⟩ = some (.int .i64 a1_2) ∧ w16.cell? ⟨gb399, 3, none⟩ = some (.int .i64 a1_3) ∧ w16.cell? ⟨gb400, 0, none⟩ = some (.int .i64 a2_0) ∧ w16.cell? ⟨gb400, 1, none⟩ = some (.int .i64 a2_1) ∧ w16.cell? ⟨gb400, 2, none⟩ = some (.int .i64 a2_2) ∧ w16.cell? ⟨gb400, 3, none⟩ = some (.int .i64 a2_3) := hS_
                refine norm_ (a' := ?_) ?_ ?_
                rotate_left
                ·simp only [putAll, Act.put, List.setIfInBounds_toArray, List.set_cons_zero, List.set_cons_succ]
                 rfl
                refine two_ (i := 2) (j := 11) (Ni := some 18) (Nj := some 9) #[true, true, true, true, false, true, false, false, false, false, false, false, true, false, false, false] #[true, true, false, true, false, true, false, false, false, false, false, true, true, false, false, false] rfl rfl rfl rfl (two_of HT_.out (by kernel_rfl)) (by decide) (by decide) (fun K hK => ?_) (fun K hK => ?_)
                ·skip
                 refine gz Try.func5 #[.agg #[.int .i64 a1_0, .int .i64 a1_1, .int .i64 a1_2, .int .i64 a1_3]] ?_
                 with_reducible refine (laws_toRange.calls a1_0 a1_1 a1_2 a1_3 t401 t402 t403 t404 _ A5.out).mono ?_
                 rintro e w17 ⟨rfl, hb⟩
                 refine ⟨_, rfl, ?_⟩
                 replace BK399 := zb BK399 hb rfl
                 replace BK400 := zb BK400 hb rfl
                 replace BK419 := zb BK419 hb rfl
                 replace HB := zS hb
                 try clear hb
                 refine hK.out _ _ ⟨(blk_cell BK399.out 0).trans rfl, (blk_cell BK399.out 1).trans rfl, (blk_cell BK399.out 2).trans rfl, (blk_cell BK399.out 3).trans rfl, (blk_cell BK400.out 0).trans rfl, (blk_cell BK400.out 1).trans rfl, (blk_cell BK400.out 2).trans rfl, (blk_cell BK400.out 3).trans rfl⟩ (fun hHeld => ?_)
                 clear hK K
                 refine nz ?_
                 exact norm_ (by first | (simp only [putAll, Act.put, List.setIfInBounds_toArray, List.set_cons_zero, List.set_cons_succ]; done) | (simp only [putAll, Act.put, List.setIfInBounds_toArray, List.set_cons_zero, List.set_cons_succ]; rfl)) (hJ2_12 (gb419) _ ⟨hHeld, (by exact bq BK399.out), (by exact bq BK400.out), (by exact bq BK419.out), GW419.out, GE419.out, NB399_419.out, NB419_399.out, NB400_419.out, NB419_400.out, zB⟩)
                ·skip
                 refine box_step ?hg (N := 9) ?hd (cs := #[.int .i64 0, .int .i64 0, .int .i64 0, .int .i64 0]) (t := 24) ?hr ?_; (case hd => rfl); (case hg => rfl); (case hr => first | (go_simp; done) | (go_simp; rfl))
                 intro gb418 hg w17 hbox hb
                 have BK418 := Aside0.mk hbox
                 have GW418 := zW hg
                 have GE418 := zW hg
                 replace HB := zS hb
                 have NB399_418 := zl BK399 hg rfl
                 have NB418_399 := zg BK399 hg rfl
                 replace BK399 := zb BK399 hb rfl
                 have NB400_418 := zl BK400 hg rfl
                 have NB418_400 := zg BK400 hg rfl
                 replace BK400 := zb BK400 hb rfl
                 have NB419_418 := zl BK419 hg rfl
                 have NB418_419 := zg BK419 hg rfl
                 replace BK419 := zb BK419 hb rfl
                 clear hb hbox hg
                 refine hK.out _ _ ⟨(blk_cell BK399.out 0).trans rfl, (blk_cell BK399.out 1).trans rfl, (blk_cell BK399.out 2).trans rfl, (blk_cell BK399.out 3).trans rfl, (blk_cell BK400.out 0).trans rfl, (blk_cell BK400.out 1).trans rfl, (blk_cell BK400.out 2).trans rfl, (blk_cell BK400.out 3).trans rfl⟩ (fun hHeld => ?_)
                 clear hK K
                 refine nz ?_
                 exact norm_ (by first | (simp only [putAll, Act.put, List.setIfInBounds_toArray, List.set_cons_zero, List.set_cons_succ]; done) | (simp only [putAll, Act.put, List.setIfInBounds_toArray, List.set_cons_zero, List.set_cons_succ]; rfl)) (hJ11_12 (gb418, gb419) _ ⟨hHeld, (by exact bq BK399.out), (by exact bq BK400.out), (by exact bq BK418.out), (by exact bq BK419.out), GW418.out, GE418.out, NB399_418.out, NB418_399.out, NB400_418.out, NB418_400.out, NB419_418.out, NB418_419.out, GW419.out, GE419.out, NB399_419.out, NB419_399.out, NB400_419.out, NB419_400.out, zB⟩)
              ·skip
               rintro gb418 w16 ⟨hS_, h0_, h1_, h2_, h3_, h4_, h5_, h6_, h7_, h8_, h9_⟩
               have n0_ : Aside0 (w16.heap[gb399]? = some (.cells #[.int .i64 a1_0, .int .i64 a1_1, .int .i64 a1_2, .int .i64 a1_3] 23 (0, 0))) := ⟨h0_⟩
               have n1_ : Aside0 (w16.heap[gb400]? = some (.cells #[.int .i64 a2_0, .int .i64 a2_1, .int .i64 a2_2, .int .i64 a2_3] 23 (0, 0))) := ⟨h1_⟩
               have n2_ : Aside0 (w16.heap[gb418]? = some (.cells #[.int .i64 0, .int .i64 0, .int .i64 0, .int .i64 0] 24 (0, 0))) := ⟨h2_⟩
               have n3_ : Aside0 (w.heap.size ≤ gb418) := ⟨h3_⟩
               have n4_ : Aside0 (w.heap.size ≤ gb418) := ⟨h4_⟩
               have n5_ : Aside0 (gb399 ≠ gb418) := ⟨h5_⟩
               have n6_ : Aside0 (gb418 ≠ gb399) := ⟨h6_⟩
               have n7_ : Aside0 (gb400 ≠ gb418) := ⟨h7_⟩
               have n8_ : Aside0 (gb418 ≠ gb400) := ⟨h8_⟩
               have n9_ : Aside0 (Below w.heap.size w w16) := ⟨h9_⟩
               clear BK399
               clear BK400
               clear HB
               clear h0_ h1_ h2_ h3_ h4_ h5_ h6_ h7_ h8_ h9_
               have BK399 := n0_
               have BK400 := n1_
               have BK418 := n2_
               have GW418 := n3_
               have GE418 := n4_
               have NB399_418 := n5_
               have NB418_399 := n6_
               have NB400_418 := n7_
               have NB418_400 := n8_
               have HB := n9_
               clear n0_ n1_ n2_ n3_ n4_ n5_ n6_ n7_ n8_ n9_
               have hHeld : w16.cell? ⟨gb399, 0, none⟩ = some (.int .i64 a1_0) ∧ w16.cell? ⟨gb399, 1, none⟩ = some (.int .i64 a1_1) ∧ w16.cell? ⟨gb399, 2, none⟩ = some (.int .i64 a1_2) ∧ w16.cell? ⟨gb399, 3, none⟩ = some (.int .i64 a1_3) ∧ w16.cell? ⟨gb400, 0, none⟩ = some (.int .i64 a2_0) ∧ w16.cell? ⟨gb400, 1, none⟩ = some (.int .i64 a2_1) ∧ w16.cell? ⟨gb400, 2, none⟩ = some (.int .i64 a2_2) ∧ w16.cell? ⟨gb400, 3, none⟩ = some (.int .i64 a2_3) := hS_
               refine norm_ (a' := ?_) ?_ ?_
               rotate_left
               ·simp only [putAll, Act.put, List.setIfInBounds_toArray, List.set_cons_zero, List.set_cons_succ]
                rfl
               refine two_ (i := 2) (j := 12) (Ni := some 18) (Nj := some 10) #[true, true, true, true, false, true, false, false, false, false, false, true, false, false, false, false] #[true, true, false, true, false, true, false, false, false, false, false, true, true, false, false, false] rfl rfl rfl rfl (two_of HT_.out (by kernel_rfl)) (by decide) (by decide) (fun K hK => ?_) (fun K hK => ?_)
               ·skip
                refine gz Try.func5 #[.agg #[.int .i64 a1_0, .int .i64 a1_1, .int .i64 a1_2, .int .i64 a1_3]] ?_
                with_reducible refine (laws_toRange.calls a1_0 a1_1 a1_2 a1_3 t401 t402 t403 t404 _ A5.out).mono ?_
                rintro e w17 ⟨rfl, hb⟩
                refine ⟨_, rfl, ?_⟩
                replace BK399 := zb BK399 hb rfl
                replace BK400 := zb BK400 hb rfl
                replace BK418 := zb BK418 hb rfl
                replace HB := zS hb
                try clear hb
                refine hK.out _ _ ⟨(blk_cell BK399.out 0).trans rfl, (blk_cell BK399.out 1).trans rfl, (blk_cell BK399.out 2).trans rfl, (blk_cell BK399.out 3).trans rfl, (blk_cell BK400.out 0).trans rfl, (blk_cell BK400.out 1).trans rfl, (blk_cell BK400.out 2).trans rfl, (blk_cell BK400.out 3).trans rfl⟩ (fun hHeld => ?_)
                clear hK K
                refine nz ?_
                exact norm_ (by first | (simp only [putAll, Act.put, List.setIfInBounds_toArray, List.set_cons_zero, List.set_cons_succ]; done) | (simp only [putAll, Act.put, List.setIfInBounds_toArray, List.set_cons_zero, List.set_cons_succ]; rfl)) (hJ2_11 (gb418) _ ⟨hHeld, (by exact bq BK399.out), (by exact bq BK400.out), (by exact bq BK418.out), GW418.out, GE418.out, NB399_418.out, NB418_399.out, NB400_418.out, NB418_400.out, zB⟩)
               ·skip
                refine box_step ?hg (N := 10) ?hd (cs := #[.int .i64 0, .int .i64 0, .int .i64 0, .int .i64 0]) (t := 24) ?hr ?_; (case hd => rfl); (case hg => rfl); (case hr => first | (go_simp; done) | (go_simp; rfl))
                intro gb419 hg w17 hbox hb
                have BK419 := Aside0.mk hbox
                have GW419 := zW hg
                have GE419 := zW hg
                replace HB := zS hb
                have NB399_419 := zl BK399 hg rfl
                have NB419_399 := zg BK399 hg rfl
                replace BK399 := zb BK399 hb rfl
                have NB400_419 := zl BK400 hg rfl
                have NB419_400 := zg BK400 hg rfl
                replace BK400 := zb BK400 hb rfl
                have NB418_419 := zl BK418 hg rfl
                have NB419_418 := zg BK418 hg rfl
                replace BK418 := zb BK418 hb rfl
                clear hb hbox hg
                refine hK.out _ _ ⟨(blk_cell BK399.out 0).trans rfl, (blk_cell BK399.out 1).trans rfl, (blk_cell BK399.out 2).trans rfl, (blk_cell BK399.out 3).trans rfl, (blk_cell BK400.out 0).trans rfl, (blk_cell BK400.out 1).trans rfl, (blk_cell BK400.out 2).trans rfl, (blk_cell BK400.out 3).trans rfl⟩ (fun hHeld => ?_)
                clear hK K
                refine nz ?_
                exact norm_ (by first | (simp only [putAll, Act.put, List.setIfInBounds_toArray, List.set_cons_zero, List.set_cons_succ]; done) | (simp only [putAll, Act.put, List.setIfInBounds_toArray, List.set_cons_zero, List.set_cons_succ]; rfl)) (hJ11_12 (gb418, gb419) _ ⟨hHeld, (by exact bq BK399.out), (by exact bq BK400.out), (by exact bq BK418.out), (by exact bq BK419.out), GW418.out, GE418.out, NB399_418.out, NB418_399.out, NB400_418.out, NB418_400.out, NB419_418.out, NB418_419.out, GW419.out, GE419.out, NB399_419.out, NB419_399.out, NB400_419.out, NB419_400.out, zB⟩)
             ·skip
              rintro _ w16 ⟨hS_, h0_, h1_, h2_⟩
              have n0_ : Aside0 (w16.heap[gb399]? = some (.cells #[.int .i64 a1_0, .int .i64 a1_1, .int .i64 a1_2, .int .i64 a1_3] 23 (0, 0))) := ⟨h0_⟩
              have n1_ : Aside0 (w16.heap[gb400]? = some (.cells #[.int .i64 a2_0, .int .i64 a2_1, .int .i64 a2_2, .int .i64 a2_3] 23 (0, 0))) := ⟨h1_⟩
              have n2_ : Aside0 (Below w.heap.size w w16) := ⟨h2_⟩
              clear BK399
              clear BK400
              clear HB
              clear h0_ h1_ h2_
              have BK399 := n0_
              have BK400 := n1_
              have HB := n2_
              clear n0_ n1_ n2_
              have hHeld : w16.cell? ⟨gb399, 0, none⟩ = some (.int .i64 a1_0) ∧ w16.cell? ⟨gb399, 1, none⟩ = some (.int .i64 a1_1) ∧ w16.cell? ⟨gb399, 2, none⟩ = some (.int .i64 a1_2) ∧ w16.cell? ⟨gb399, 3, none⟩ = some (.int .i64 a1_3) ∧ w16.cell? ⟨gb400, 0, none⟩ = some (.int .i64 a2_0) ∧ w16.cell? ⟨gb400, 1, none⟩ = some (.int .i64 a2_1) ∧ w16.cell? ⟨gb400, 2, none⟩ = some (.int .i64 a2_2) ∧ w16.cell? ⟨gb400, 3, none⟩ = some (.int .i64 a2_3) := hS_
              refine norm_ (a' := ?_) ?_ ?_
              rotate_left
              ·simp only [putAll, Act.put, List.setIfInBounds_toArray, List.set_cons_zero, List.set_cons_succ]
               rfl
              refine three_ (i := 4) (j := 11) (k := 12) (Ni := some 20) (Nj := some 9) (Nk := some 10) #[true, true, true, true, true, true, false, false, false, false, false, false, false, false, false, false] #[true, true, true, true, false, true, false, false, false, false, false, true, false, false, false, false] #[true, true, true, true, false, true, false, false, false, false, false, false, true, false, false, false] rfl rfl rfl rfl rfl rfl (three_of HT_.out (by kernel_rfl)) (by decide) (by decide) (by decide) (fun K hK => ?_) (fun K hK => ?_) (fun K hK => ?_)
              ·skip
               refine gz Try.func5 #[.agg #[.int .i64 a2_0, .int .i64 a2_1, .int .i64 a2_2, .int .i64 a2_3]] ?_
               with_reducible refine (laws_toRange.calls a2_0 a2_1 a2_2 a2_3 t405 t406 t407 t408 _ A6.out).mono ?_
               rintro e w17 ⟨rfl, hb⟩
               refine ⟨_, rfl, ?_⟩
               replace BK399 := zb BK399 hb rfl
               replace BK400 := zb BK400 hb rfl
               replace HB := zS hb
               try clear hb
               refine hK.out _ _ ⟨(blk_cell BK399.out 0).trans rfl, (blk_cell BK399.out 1).trans rfl, (blk_cell BK399.out 2).trans rfl, (blk_cell BK399.out 3).trans rfl, (blk_cell BK400.out 0).trans rfl, (blk_cell BK400.out 1).trans rfl, (blk_cell BK400.out 2).trans rfl, (blk_cell BK400.out 3).trans rfl⟩ (fun hHeld => ?_)
               clear hK K
               refine nz ?_
               exact norm_ (by first | (simp only [putAll, Act.put, List.setIfInBounds_toArray, List.set_cons_zero, List.set_cons_succ]; done) | (simp only [putAll, Act.put, List.setIfInBounds_toArray, List.set_cons_zero, List.set_cons_succ]; rfl)) (hJ2_4 () _ ⟨hHeld, (by exact bq BK399.out), (by exact bq BK400.out), zB⟩)
              ·skip
               refine box_step ?hg (N := 9) ?hd (cs := #[.int .i64 0, .int .i64 0, .int .i64 0, .int .i64 0]) (t := 24) ?hr ?_; (case hd => rfl); (case hg => rfl); (case hr => first | (go_simp; done) | (go_simp; rfl))
               intro gb418 hg w17 hbox hb
               have BK418 := Aside0.mk hbox
               have GW418 := zW hg
               have GE418 := zW hg
               replace HB := zS hb
               have NB399_418 := zl BK399 hg rfl
               have NB418_399 := zg BK399 hg rfl
               replace BK399 := zb BK399 hb rfl
               have NB400_418 := zl BK400 hg rfl
               have NB418_400 := zg BK400 hg rfl
               replace BK400 := zb BK400 hb rfl
               clear hb hbox hg
               refine hK.out _ _ ⟨(blk_cell BK399.out 0).trans rfl, (blk_cell BK399.out 1).trans rfl, (blk_cell BK399.out 2).trans rfl, (blk_cell BK399.out 3).trans rfl, (blk_cell BK400.out 0).trans rfl, (blk_cell BK400.out 1).trans rfl, (blk_cell BK400.out 2).trans rfl, (blk_cell BK400.out 3).trans rfl⟩ (fun hHeld => ?_)
               clear hK K
               refine nz ?_
               exact norm_ (by first | (simp only [putAll, Act.put, List.setIfInBounds_toArray, List.set_cons_zero, List.set_cons_succ]; done) | (simp only [putAll, Act.put, List.setIfInBounds_toArray, List.set_cons_zero, List.set_cons_succ]; rfl)) (hJ2_11 (gb418) _ ⟨hHeld, (by exact bq BK399.out), (by exact bq BK400.out), (by exact bq BK418.out), GW418.out, GE418.out, NB399_418.out, NB418_399.out, NB400_418.out, NB418_400.out, zB⟩)
              ·skip
               refine box_step ?hg (N := 10) ?hd (cs := #[.int .i64 0, .int .i64 0, .int .i64 0, .int .i64 0]) (t := 24) ?hr ?_; (case hd => rfl); (case hg => rfl); (case hr => first | (go_simp; done) | (go_simp; rfl))
               intro gb419 hg w17 hbox hb
               have BK419 := Aside0.mk hbox
               have GW419 := zW hg
               have GE419 := zW hg
               replace HB := zS hb
               have NB399_419 := zl BK399 hg rfl
               have NB419_399 := zg BK399 hg rfl
               replace BK399 := zb BK399 hb rfl
               have NB400_419 := zl BK400 hg rfl
               have NB419_400 := zg BK400 hg rfl
               replace BK400 := zb BK400 hb rfl
               clear hb hbox hg
               refine hK.out _ _ ⟨(blk_cell BK399.out 0).trans rfl, (blk_cell BK399.out 1).trans rfl, (blk_cell BK399.out 2).trans rfl, (blk_cell BK399.out 3).trans rfl, (blk_cell BK400.out 0).trans rfl, (blk_cell BK400.out 1).trans rfl, (blk_cell BK400.out 2).trans rfl, (blk_cell BK400.out 3).trans rfl⟩ (fun hHeld => ?_)
               clear hK K
               refine nz ?_
               exact norm_ (by first | (simp only [putAll, Act.put, List.setIfInBounds_toArray, List.set_cons_zero, List.set_cons_succ]; done) | (simp only [putAll, Act.put, List.setIfInBounds_toArray, List.set_cons_zero, List.set_cons_succ]; rfl)) (hJ2_12 (gb419) _ ⟨hHeld, (by exact bq BK399.out), (by exact bq BK400.out), (by exact bq BK419.out), GW419.out, GE419.out, NB399_419.out, NB419_399.out, NB400_419.out, NB419_400.out, zB⟩)
            ·skip
             rintro ⟨gb418, gb419⟩ w17 ⟨hS_, h0_, h1_, h2_, h3_, h4_, h5_, h6_, h7_, h8_, h9_, h10_, h11_, h12_, h13_, h14_, h15_, h16_, h17_, h18_⟩
             have n0_ : Aside0 (w17.heap[gb399]? = some (.cells #[.int .i64 a1_0, .int .i64 a1_1, .int .i64 a1_2, .int .i64 a1_3] 23 (0, 0))) := ⟨h0_⟩
             have n1_ : Aside0 (w17.heap[gb400]? = some (.cells #[.int .i64 a2_0, .int .i64 a2_1, .int .i64 a2_2, .int .i64 a2_3] 23 (0, 0))) := ⟨h1_⟩
             have n2_ : Aside0 (w17.heap[gb418]? = some (.cells #[.int .i64 0, .int .i64 0, .int .i64 0, .int .i64 0] 24 (0, 0))) := ⟨h2_⟩
             have n3_ : Aside0 (w17.heap[gb419]? = some (.cells #[.int .i64 0, .int .i64 0, .int .i64 0, .int .i64 0] 24 (0, 0))) := ⟨h3_⟩
             have n4_ : Aside0 (w.heap.size ≤ gb418) := ⟨h4_⟩
             have n5_ : Aside0 (w.heap.size ≤ gb418) := ⟨h5_⟩
             have n6_ : Aside0 (gb399 ≠ gb418) := ⟨h6_⟩
             have n7_ : Aside0 (gb418 ≠ gb399) := ⟨h7_⟩
             have n8_ : Aside0 (gb400 ≠ gb418) := ⟨h8_⟩
             have n9_ : Aside0 (gb418 ≠ gb400) := ⟨h9_⟩
             have n10_ : Aside0 (gb419 ≠ gb418) := ⟨h10_⟩
             have n11_ : Aside0 (gb418 ≠ gb419) := ⟨h11_⟩
             have n12_ : Aside0 (w.heap.size ≤ gb419) := ⟨h12_⟩
             have n13_ : Aside0 (w.heap.size ≤ gb419) := ⟨h13_⟩
             have n14_ : Aside0 (gb399 ≠ gb419) := ⟨h14_⟩
             have n15_ : Aside0 (gb419 ≠ gb399) := ⟨h15_⟩
             have n16_ : Aside0 (gb400 ≠ gb419) := ⟨h16_⟩
             have n17_ : Aside0 (gb419 ≠ gb400) := ⟨h17_⟩
             have n18_ : Aside0 (Below w.heap.size w w17) := ⟨h18_⟩
             clear BK399
             clear BK400
             clear HB
             clear h0_ h1_ h2_ h3_ h4_ h5_ h6_ h7_ h8_ h9_ h10_ h11_ h12_ h13_ h14_ h15_ h16_ h17_ h18_
             have BK399 := n0_
             have BK400 := n1_
             have BK418 := n2_
             have BK419 := n3_
             have GW418 := n4_
             have GE418 := n5_
             have NB399_418 := n6_
             have NB418_399 := n7_
             have NB400_418 := n8_
             have NB418_400 := n9_
             have NB419_418 := n10_
             have NB418_419 := n11_
             have GW419 := n12_
             have GE419 := n13_
             have NB399_419 := n14_
             have NB419_399 := n15_
             have NB400_419 := n16_
             have NB419_400 := n17_
             have HB := n18_
             clear n0_ n1_ n2_ n3_ n4_ n5_ n6_ n7_ n8_ n9_ n10_ n11_ n12_ n13_ n14_ n15_ n16_ n17_ n18_
             have hHeld : w17.cell? ⟨gb399, 0, none⟩ = some (.int .i64 a1_0) ∧ w17.cell? ⟨gb399, 1, none⟩ = some (.int .i64 a1_1) ∧ w17.cell? ⟨gb399, 2, none⟩ = some (.int .i64 a1_2) ∧ w17.cell? ⟨gb399, 3, none⟩ = some (.int .i64 a1_3) ∧ w17.cell? ⟨gb400, 0, none⟩ = some (.int .i64 a2_0) ∧ w17.cell? ⟨gb400, 1, none⟩ = some (.int .i64 a2_1) ∧ w17.cell? ⟨gb400, 2, none⟩ = some (.int .i64 a2_2) ∧ w17.cell? ⟨gb400, 3, none⟩ = some (.int .i64 a2_3) := hS_
             refine norm_ (a' := ?_) ?_ ?_
             rotate_left
             ·simp only [putAll, Act.put, List.setIfInBounds_toArray, List.set_cons_zero, List.set_cons_succ]
              rfl
             refine oz 2 18 fun K hK => ?_
             refine gz Try.func5 #[.agg #[.int .i64 a1_0, .int .i64 a1_1, .int .i64 a1_2, .int .i64 a1_3]] ?_
             with_reducible refine (laws_toRange.calls a1_0 a1_1 a1_2 a1_3 t401 t402 t403 t404 _ A5.out).mono ?_
             rintro e w18 ⟨rfl, hb⟩
             refine ⟨_, rfl, ?_⟩
             replace BK399 := zb BK399 hb rfl
             replace BK400 := zb BK400 hb rfl
             replace BK418 := zb BK418 hb rfl
             replace BK419 := zb BK419 hb rfl
             replace HB := zS hb
             try clear hb
             refine hK.out _ _ ⟨(blk_cell BK399.out 0).trans rfl, (blk_cell BK399.out 1).trans rfl, (blk_cell BK399.out 2).trans rfl, (blk_cell BK399.out 3).trans rfl, (blk_cell BK400.out 0).trans rfl, (blk_cell BK400.out 1).trans rfl, (blk_cell BK400.out 2).trans rfl, (blk_cell BK400.out 3).trans rfl⟩ (fun hHeld => ?_)
             clear hK K
             refine nz ?_
             exact norm_ (by first | (simp only [putAll, Act.put, List.setIfInBounds_toArray, List.set_cons_zero, List.set_cons_succ]; done) | (simp only [putAll, Act.put, List.setIfInBounds_toArray, List.set_cons_zero, List.set_cons_succ]; rfl)) (hJ2_11_12 (gb418, gb419) _ ⟨hHeld, (by exact bq BK399.out), (by exact bq BK400.out), (by exact bq BK418.out), (by exact bq BK419.out), GW418.out, GE418.out, NB399_418.out, NB418_399.out, NB400_418.out, NB418_400.out, NB419_418.out, NB418_419.out, GW419.out, GE419.out, NB399_419.out, NB419_399.out, NB400_419.out, NB419_400.out, zB⟩)
           ·skip
            rintro gb419 w17 ⟨hS_, h0_, h1_, h2_, h3_, h4_, h5_, h6_, h7_, h8_, h9_⟩
            have n0_ : Aside0 (w17.heap[gb399]? = some (.cells #[.int .i64 a1_0, .int .i64 a1_1, .int .i64 a1_2, .int .i64 a1_3] 23 (0, 0))) := ⟨h0_⟩
            have n1_ : Aside0 (w17.heap[gb400]? = some (.cells #[.int .i64 a2_0, .int .i64 a2_1, .int .i64 a2_2, .int .i64 a2_3] 23 (0, 0))) := ⟨h1_⟩
            have n2_ : Aside0 (w17.heap[gb419]? = some (.cells #[.int .i64 0, .int .i64 0, .int .i64 0, .int .i64 0] 24 (0, 0))) := ⟨h2_⟩
            have n3_ : Aside0 (w.heap.size ≤ gb419) := ⟨h3_⟩
            have n4_ : Aside0 (w.heap.size ≤ gb419) := ⟨h4_⟩
            have n5_ : Aside0 (gb399 ≠ gb419) := ⟨h5_⟩
            have n6_ : Aside0 (gb419 ≠ gb399) := ⟨h6_⟩
            have n7_ : Aside0 (gb400 ≠ gb419) := ⟨h7_⟩
            have n8_ : Aside0 (gb419 ≠ gb400) := ⟨h8_⟩
            have n9_ : Aside0 (Below w.heap.size w w17) := ⟨h9_⟩
            clear BK399
            clear BK400
            clear HB
            clear h0_ h1_ h2_ h3_ h4_ h5_ h6_ h7_ h8_ h9_
            have BK399 := n0_
            have BK400 := n1_
            have BK419 := n2_
            have GW419 := n3_
            have GE419 := n4_
            have NB399_419 := n5_
            have NB419_399 := n6_
            have NB400_419 := n7_
            have NB419_400 := n8_
            have HB := n9_
            clear n0_ n1_ n2_ n3_ n4_ n5_ n6_ n7_ n8_ n9_
            have hHeld : w17.cell? ⟨gb399, 0, none⟩ = some (.int .i64 a1_0) ∧ w17.cell? ⟨gb399, 1, none⟩ = some (.int .i64 a1_1) ∧ w17.cell? ⟨gb399, 2, none⟩ = some (.int .i64 a1_2) ∧ w17.cell? ⟨gb399, 3, none⟩ = some (.int .i64 a1_3) ∧ w17.cell? ⟨gb400, 0, none⟩ = some (.int .i64 a2_0) ∧ w17.cell? ⟨gb400, 1, none⟩ = some (.int .i64 a2_1) ∧ w17.cell? ⟨gb400, 2, none⟩ = some (.int .i64 a2_2) ∧ w17.cell? ⟨gb400, 3, none⟩ = some (.int .i64 a2_3) := hS_
            refine norm_ (a' := ?_) ?_ ?_
            rotate_left
            ·simp only [putAll, Act.put, List.setIfInBounds_toArray, List.set_cons_zero, List.set_cons_succ]
             rfl
            refine two_ (i := 4) (j := 11) (Ni := some 20) (Nj := some 9) #[true, true, true, true, true, true, false, false, false, false, false, false, true, false, false, false] #[true, true, true, true, false, true, false, false, false, false, false, true, true, false, false, false] rfl rfl rfl rfl (two_of HT_.out (by kernel_rfl)) (by decide) (by decide) (fun K hK => ?_) (fun K hK => ?_)
            ·skip
             refine gz Try.func5 #[.agg #[.int .i64 a2_0, .int .i64 a2_1, .int .i64 a2_2, .int .i64 a2_3]] ?_
             with_reducible refine (laws_toRange.calls a2_0 a2_1 a2_2 a2_3 t405 t406 t407 t408 _ A6.out).mono ?_
             rintro e w18 ⟨rfl, hb⟩
             refine ⟨_, rfl, ?_⟩
             replace BK399 := zb BK399 hb rfl
             replace BK400 := zb BK400 hb rfl
             replace BK419 := zb BK419 hb rfl
             replace HB := zS hb
             try clear hb
             refine hK.out _ _ ⟨(blk_cell BK399.out 0).trans rfl, (blk_cell BK399.out 1).trans rfl, (blk_cell BK399.out 2).trans rfl, (blk_cell BK399.out 3).trans rfl, (blk_cell BK400.out 0).trans rfl, (blk_cell BK400.out 1).trans rfl, (blk_cell BK400.out 2).trans rfl, (blk_cell BK400.out 3).trans rfl⟩ (fun hHeld => ?_)
             clear hK K
             refine nz ?_
             exact norm_ (by first | (simp only [putAll, Act.put, List.setIfInBounds_toArray, List.set_cons_zero, List.set_cons_succ]; done) | (simp only [putAll, Act.put, List.setIfInBounds_toArray, List.set_cons_zero, List.set_cons_succ]; rfl)) (hJ2_4_12 (gb419) _ ⟨hHeld, (by exact bq BK399.out), (by exact bq BK400.out), (by exact bq BK419.out), GW419.out, GE419.out, NB399_419.out, NB419_399.out, NB400_419.out, NB419_400.out, zB⟩)
            ·skip
             refine box_step ?hg (N := 9) ?hd (cs := #[.int .i64 0, .int .i64 0, .int .i64 0, .int .i64 0]) (t := 24) ?hr ?_; (case hd => rfl); (case hg => rfl); (case hr => first | (go_simp; done) | (go_simp; rfl))
             intro gb418 hg w18 hbox hb
             have BK418 := Aside0.mk hbox
             have GW418 := zW hg
             have GE418 := zW hg
             replace HB := zS hb
             have NB399_418 := zl BK399 hg rfl
             have NB418_399 := zg BK399 hg rfl
             replace BK399 := zb BK399 hb rfl
             have NB400_418 := zl BK400 hg rfl
             have NB418_400 := zg BK400 hg rfl
             replace BK400 := zb BK400 hb rfl
             have NB419_418 := zl BK419 hg rfl
             have NB418_419 := zg BK419 hg rfl
             replace BK419 := zb BK419 hb rfl
             clear hb hbox hg
             refine hK.out _ _ ⟨(blk_cell BK399.out 0).trans rfl, (blk_cell BK399.out 1).trans rfl, (blk_cell BK399.out 2).trans rfl, (blk_cell BK399.out 3).trans rfl, (blk_cell BK400.out 0).trans rfl, (blk_cell BK400.out 1).trans rfl, (blk_cell BK400.out 2).trans rfl, (blk_cell BK400.out 3).trans rfl⟩ (fun hHeld => ?_)
             clear hK K
             refine nz ?_
             exact norm_ (by first | (simp only [putAll, Act.put, List.setIfInBounds_toArray, List.set_cons_zero, List.set_cons_succ]; done) | (simp only [putAll, Act.put, List.setIfInBounds_toArray, List.set_cons_zero, List.set_cons_succ]; rfl)) (hJ2_11_12 (gb418, gb419) _ ⟨hHeld, (by exact bq BK399.out), (by exact bq BK400.out), (by exact bq BK418.out), (by exact bq BK419.out), GW418.out, GE418.out, NB399_418.out, NB418_399.out, NB400_418.out, NB418_400.out, NB419_418.out, NB418_419.out, GW419.out, GE419.out, NB399_419.out, NB419_399.out, NB400_419.out, NB419_400.out, zB⟩)
          ·skip
           rintro gb418 w17 ⟨hS_, h0_, h1_, h2_, h3_, h4_, h5_, h6_, h7_, h8_, h9_⟩
           have n0_ : Aside0 (w17.heap[gb399]? = some (.cells #[.int .i64 a1_0, .int .i64 a1_1, .int .i64 a1_2, .int .i64 a1_3] 23 (0, 0))) := ⟨h0_⟩
           have n1_ : Aside0 (w17.heap[gb400]? = some (.cells #[.int .i64 a2_0, .int .i64 a2_1, .int .i64 a2_2, .int .i64 a2_3] 23 (0, 0))) := ⟨h1_⟩
           have n2_ : Aside0 (w17.heap[gb418]? = some (.cells #[.int .i64 0, .int .i64 0, .int .i64 0, .int .i64 0] 24 (0, 0))) := ⟨h2_⟩
           have n3_ : Aside0 (w.heap.size ≤ gb418) := ⟨h3_⟩
           have n4_ : Aside0 (w.heap.size ≤ gb418) := ⟨h4_⟩
           have n5_ : Aside0 (gb399 ≠ gb418) := ⟨h5_⟩
           have n6_ : Aside0 (gb418 ≠ gb399) := ⟨h6_⟩
           have n7_ : Aside0 (gb400 ≠ gb418) := ⟨h7_⟩
           have n8_ : Aside0 (gb418 ≠ gb400) := ⟨h8_⟩
           have n9_ : Aside0 (Below w.heap.size w w17) := ⟨h9_⟩
           clear BK399
           clear BK400
           clear HB
           clear h0_ h1_ h2_ h3_ h4_ h5_ h6_ h7_ h8_ h9_
           have BK399 := n0_
           have BK400 := n1_
           have BK418 := n2_
           have GW418 := n3_
           have GE418 := n4_
           have NB399_418 := n5_
           have NB418_399 := n6_
           have NB400_418 := n7_
           have NB418_400 := n8_
           have HB := n9_
           clear n0_ n1_ n2_ n3_ n4_ n5_ n6_ n7_ n8_ n9_
           have hHeld : w17.cell? ⟨gb399, 0, none⟩ = some (.int .i64 a1_0) ∧ w17.cell? ⟨gb399, 1, none⟩ = some (.int .i64 a1_1) ∧ w17.cell? ⟨gb399, 2, none⟩ = some (.int .i64 a1_2) ∧ w17.cell? ⟨gb399, 3, none⟩ = some (.int .i64 a1_3) ∧ w17.cell? ⟨gb400, 0, none⟩ = some (.int .i64 a2_0) ∧ w17.cell? ⟨gb400, 1, none⟩ = some (.int .i64 a2_1) ∧ w17.cell? ⟨gb400, 2, none⟩ = some (.int .i64 a2_2) ∧ w17.cell? ⟨gb400, 3, none⟩ = some (.int .i64 a2_3) := hS_
           refine norm_ (a' := ?_) ?_ ?_
           rotate_left
           ·simp only [putAll, Act.put, List.setIfInBounds_toArray, List.set_cons_zero, List.set_cons_succ]
            rfl
           refine two_ (i := 4) (j := 12) (Ni := some 20) (Nj := some 10) #[true, true, true, true, true, true, false, false, false, false, false, true, false, false, false, false] #[true, true, true, true, false, true, false, false, false, false, false, true, true, false, false, false] rfl rfl rfl rfl (two_of HT_.out (by kernel_rfl)) (by decide) (by decide) (fun K hK => ?_) (fun K hK => ?_)
           ·skip
            refine gz Try.func5 #[.agg #[.int .i64 a2_0, .int .i64 a2_1, .int .i64 a2_2, .int .i64 a2_3]] ?_
            with_reducible refine (laws_toRange.calls a2_0 a2_1 a2_2 a2_3 t405 t406 t407 t408 _ A6.out).mono ?_
            rintro e w18 ⟨rfl, hb⟩
            refine ⟨_, rfl, ?_⟩
            replace BK399 := zb BK399 hb rfl
            replace BK400 := zb BK400 hb rfl
            replace BK418 := zb BK418 hb rfl
            replace HB := zS hb
            try clear hb
            refine hK.out _ _ ⟨(blk_cell BK399.out 0).trans rfl, (blk_cell BK399.out 1).trans rfl, (blk_cell BK399.out 2).trans rfl, (blk_cell BK399.out 3).trans rfl, (blk_cell BK400.out 0).trans rfl, (blk_cell BK400.out 1).trans rfl, (blk_cell BK400.out 2).trans rfl, (blk_cell BK400.out 3).trans rfl⟩ (fun hHeld => ?_)
            clear hK K
            refine nz ?_
            exact norm_ (by first | (simp only [putAll, Act.put, List.setIfInBounds_toArray, List.set_cons_zero, List.set_cons_succ]; done) | (simp only [putAll, Act.put, List.setIfInBounds_toArray, List.set_cons_zero, List.set_cons_succ]; rfl)) (hJ2_4_11 (gb418) _ ⟨hHeld, (by exact bq BK399.out), (by exact bq BK400.out), (by exact bq BK418.out), GW418.out, GE418.out, NB399_418.out, NB418_399.out, NB400_418.out, NB418_400.out, zB⟩)
           ·skip
            refine box_step ?hg (N := 10) ?hd (cs := #[.int .i64 0, .int .i64 0, .int .i64 0, .int .i64 0]) (t := 24) ?hr ?_; (case hd => rfl); (case hg => rfl); (case hr => first | (go_simp; done) | (go_simp; rfl))
            intro gb419 hg w18 hbox hb
            have BK419 := Aside0.mk hbox
            have GW419 := zW hg
            have GE419 := zW hg
            replace HB := zS hb
            have NB399_419 := zl BK399 hg rfl
            have NB419_399 := zg BK399 hg rfl
            replace BK399 := zb BK399 hb rfl
            have NB400_419 := zl BK400 hg rfl
            have NB419_400 := zg BK400 hg rfl
            replace BK400 := zb BK400 hb rfl
            have NB418_419 := zl BK418 hg rfl
            have NB419_418 := zg BK418 hg rfl
            replace BK418 := zb BK418 hb rfl
            clear hb hbox hg
            refine hK.out _ _ ⟨(blk_cell BK399.out 0).trans rfl, (blk_cell BK399.out 1).trans rfl, (blk_cell BK399.out 2).trans rfl, (blk_cell BK399.out 3).trans rfl, (blk_cell BK400.out 0).trans rfl, (blk_cell BK400.out 1).trans rfl, (blk_cell BK400.out 2).trans rfl, (blk_cell BK400.out 3).trans rfl⟩ (fun hHeld => ?_)
            clear hK K
            refine nz ?_
            exact norm_ (by first | (simp only [putAll, Act.put, List.setIfInBounds_toArray, List.set_cons_zero, List.set_cons_succ]; done) | (simp only [putAll, Act.put, List.setIfInBounds_toArray, List.set_cons_zero, List.set_cons_succ]; rfl)) (hJ2_11_12 (gb418, gb419) _ ⟨hHeld, (by exact bq BK399.out), (by exact bq BK400.out), (by exact bq BK418.out), (by exact bq BK419.out), GW418.out, GE418.out, NB399_418.out, NB418_399.out, NB400_418.out, NB418_400.out, NB419_418.out, NB418_419.out, GW419.out, GE419.out, NB399_419.out, NB419_399.out, NB400_419.out, NB419_400.out, zB⟩)
         ·skip
          rintro _ w17 ⟨hS_, h0_, h1_, h2_⟩
          have n0_ : Aside0 (w17.heap[gb399]? = some (.cells #[.int .i64 a1_0, .int .i64 a1_1, .int .i64 a1_2, .int .i64 a1_3] 23 (0, 0))) := ⟨h0_⟩
          have n1_ : Aside0 (w17.heap[gb400]? = some (.cells #[.int .i64 a2_0, .int .i64 a2_1, .int .i64 a2_2, .int .i64 a2_3] 23 (0, 0))) := ⟨h1_⟩
          have n2_ : Aside0 (Below w.heap.size w w17) := ⟨h2_⟩
          clear BK399
          clear BK400
          clear HB
          clear h0_ h1_ h2_
          have BK399 := n0_
          have BK400 := n1_
          have HB := n2_
          clear n0_ n1_ n2_
          have hHeld : w17.cell? ⟨gb399, 0, none⟩ = some (.int .i64 a1_0) ∧ w17.cell? ⟨gb399, 1, none⟩ = some (.int .i64 a1_1) ∧ w17.cell? ⟨gb399, 2, none⟩ = some (.int .i64 a1_2) ∧ w17.cell? ⟨gb399, 3, none⟩ = some (.int .i64 a1_3) ∧ w17.cell? ⟨gb400, 0, none⟩ = some (.int .i64 a2_0) ∧ w17.cell? ⟨gb400, 1, none⟩ = some (.int .i64 a2_1) ∧ w17.cell? ⟨gb400, 2, none⟩ = some (.int .i64 a2_2) ∧ w17.cell? ⟨gb400, 3, none⟩ = some (.int .i64 a2_3) := hS_
          refine norm_ (a' := ?_) ?_ ?_
          rotate_left
          ·simp only [putAll, Act.put, List.setIfInBounds_toArray, List.set_cons_zero, List.set_cons_succ]
           rfl
          refine three_ (i := 6) (j := 11) (k := 12) (Ni := some 22) (Nj := some 9) (Nk := some 10) #[true, true, true, true, true, true, true, false, false, false, false, false, false, false, false, false] #[true, true, true, true, true, true, false, false, false, false, false, true, false, false, false, false] #[true, true, true, true, true, true, false, false, false, false, false, false, true, false, false, false] rfl rfl rfl rfl rfl rfl (three_of HT_.out (by kernel_rfl)) (by decide) (by decide) (by decide) (fun K hK => ?_) (fun K hK => ?_) (fun K hK => ?_)
          ·skip
           refine gz Try.func4 #[.int .i64 a0, .agg #[.int .i64 t401, .int .i64 t402, .int .i64 t403, .int .i64 t404], .agg #[.int .i64 t405, .int .i64 t406, .int .i64 t407, .int .i64 t408], .bool a3] ?_
           with_reducible refine (spec_RangeBranch.calls k a0 t401 t402 t403 t404 t405 t406 t407 t408 a3 t409 t410 t411 t412 t413 t414 t415 t416 t417 _ A7.out).mono ?_
           rintro e w18 ⟨rfl, hb⟩
           refine ⟨_, rfl, ?_⟩
           replace BK399 := zb BK399 hb rfl
           replace BK400 := zb BK400 hb rfl
           replace HB := zS hb
           try clear hb
           refine hK.out _ _ ⟨(blk_cell BK399.out 0).trans rfl, (blk_cell BK399.out 1).trans rfl, (blk_cell BK399.out 2).trans rfl, (blk_cell BK399.out 3).trans rfl, (blk_cell BK400.out 0).trans rfl, (blk_cell BK400.out 1).trans rfl, (blk_cell BK400.out 2).trans rfl, (blk_cell BK400.out 3).trans rfl⟩ (fun hHeld => ?_)
           clear hK K
           refine nz ?_
           refine pz 7 15 ?_
           refine pz 8 23 ?_
           refine pz 9 24 ?_
           refine pz 10 25 ?_
           exact norm_ (by first | (simp only [putAll, Act.put, List.setIfInBounds_toArray, List.set_cons_zero, List.set_cons_succ]; done) | (simp only [putAll, Act.put, List.setIfInBounds_toArray, List.set_cons_zero, List.set_cons_succ]; rfl)) (hJ2_4_6 () _ ⟨hHeld, (by exact bq BK399.out), (by exact bq BK400.out), zB⟩)
          ·skip
           refine box_step ?hg (N := 9) ?hd (cs := #[.int .i64 0, .int .i64 0, .int .i64 0, .int .i64 0]) (t := 24) ?hr ?_; (case hd => rfl); (case hg => rfl); (case hr => first | (go_simp; done) | (go_simp; rfl))
           intro gb418 hg w18 hbox hb
           have BK418 := Aside0.mk hbox
           have GW418 := zW hg
           have GE418 := zW hg
           replace HB := zS hb
           have NB399_418 := zl BK399 hg rfl
           have NB418_399 := zg BK399 hg rfl
           replace BK399 := zb BK399 hb rfl
           have NB400_418 := zl BK400 hg rfl
           have NB418_400 := zg BK400 hg rfl
           replace BK400 := zb BK400 hb rfl
           clear hb hbox hg
           refine hK.out _ _ ⟨(blk_cell BK399.out 0).trans rfl, (blk_cell BK399.out 1).trans rfl, (blk_cell BK399.out 2).trans rfl, (blk_cell BK399.out 3).trans rfl, (blk_cell BK400.out 0).trans rfl, (blk_cell BK400.out 1).trans rfl, (blk_cell BK400.out 2).trans rfl, (blk_cell BK400.out 3).trans rfl⟩ (fun hHeld => ?_)
           clear hK K
           refine nz ?_
           exact norm_ (by first | (simp only [putAll, Act.put, List.setIfInBounds_toArray, List.set_cons_zero, List.set_cons_succ]; done) | (simp only [putAll, Act.put, List.setIfInBounds_toArray, List.set_cons_zero, List.set_cons_succ]; rfl)) (hJ2_4_11 (gb418) _ ⟨hHeld, (by exact bq BK399.out), (by exact bq BK400.out), (by exact bq BK418.out), GW418.out, GE418.out, NB399_418.out, NB418_399.out, NB400_418.out, NB418_400.out, zB⟩)
          ·skip
           refine box_step ?hg (N := 10) ?hd (cs := #[.int .i64 0, .int .i64 0, .int .i64 0, .int .i64 0]) (t := 24) ?hr ?_; (case hd => rfl); (case hg => rfl); (case hr => first | (go_simp; done) | (go_simp; rfl))
           intro gb419 hg w18 hbox hb
           have BK419 := Aside0.mk hbox
           have GW419 := zW hg
           have GE419 := zW hg
           replace HB := zS hb
           have NB399_419 := zl BK399 hg rfl
           have NB419_399 := zg BK399 hg rfl
           replace BK399 := zb BK399 hb rfl
           have NB400_419 := zl BK400 hg rfl
           have NB419_400 := zg BK400 hg rfl
           replace BK400 := zb BK400 hb rfl
           clear hb hbox hg
           refine hK.out _ _ ⟨(blk_cell BK399.out 0).trans rfl, (blk_cell BK399.out 1).trans rfl, (blk_cell BK399.out 2).trans rfl, (blk_cell BK399.out 3).trans rfl, (blk_cell BK400.out 0).trans rfl, (blk_cell BK400.out 1).trans rfl, (blk_cell BK400.out 2).trans rfl, (blk_cell BK400.out 3).trans rfl⟩ (fun hHeld => ?_)
           clear hK K
           refine nz ?_
           exact norm_ (by first | (simp only [putAll, Act.put, List.setIfInBounds_toArray, List.set_cons_zero, List.set_cons_succ]; done) | (simp only [putAll, Act.put, List.setIfInBounds_toArray, List.set_cons_zero, List.set_cons_succ]; rfl)) (hJ2_4_12 (gb419) _ ⟨hHeld, (by exact bq BK399.out), (by exact bq BK400.out), (by exact bq BK419.out), GW419.out, GE419.out, NB399_419.out, NB419_399.out, NB400_419.out, NB419_400.out, zB⟩)
        ·skip
         rintro ⟨gb418, gb419⟩ w18 ⟨hS_, h0_, h1_, h2_, h3_, h4_, h5_, h6_, h7_, h8_, h9_, h10_, h11_, h12_, h13_, h14_, h15_, h16_, h17_, h18_⟩
         have n0_ : Aside0 (w18.heap[gb399]? = some (.cells #[.int .i64 a1_0, .int .i64 a1_1, .int .i64 a1_2, .int .i64 a1_3] 23 (0, 0))) := ⟨h0_⟩
         have n1_ : Aside0 (w18.heap[gb400]? = some (.cells #[.int .i64 a2_0, .int .i64 a2_1, .int .i64 a2_2, .int .i64 a2_3] 23 (0, 0))) := ⟨h1_⟩
         have n2_ : Aside0 (w18.heap[gb418]? = some (.cells #[.int .i64 0, .int .i64 0, .int .i64 0, .int .i64 0] 24 (0, 0))) := ⟨h2_⟩
         have n3_ : Aside0 (w18.heap[gb419]? = some (.cells #[.int .i64 0, .int .i64 0, .int .i64 0, .int .i64 0] 24 (0, 0))) := ⟨h3_⟩
         have n4_ : Aside0 (w.heap.size ≤ gb418) := ⟨h4_⟩
         have n5_ : Aside0 (w.heap.size ≤ gb418) := ⟨h5_⟩
         have n6_ : Aside0 (gb399 ≠ gb418) := ⟨h6_⟩
         have n7_ : Aside0 (gb418 ≠ gb399) := ⟨h7_⟩
         have n8_ : Aside0 (gb400 ≠ gb418) := ⟨h8_⟩
         have n9_ : Aside0 (gb418 ≠ gb400) := ⟨h9_⟩
         have n10_ : Aside0 (gb419 ≠ gb418) := ⟨h10_⟩
         have n11_ : Aside0 (gb418 ≠ gb419) := ⟨h11_⟩
         have n12_ : Aside0 (w.heap.size ≤ gb419) := ⟨h12_⟩
         have n13_ : Aside0 (w.heap.size ≤ gb419) := ⟨h13_⟩
         have n14_ : Aside0 (gb399 ≠ gb419) := ⟨h14_⟩
         have n15_ : Aside0 (gb419 ≠ gb399) := ⟨h15_⟩
         have n16_ : Aside0 (gb400 ≠ gb419) := ⟨h16_⟩
         have n17_ : Aside0 (gb419 ≠ gb400) := ⟨h17_⟩
         have n18_ : Aside0 (Below w.heap.size w w18) := ⟨h18_⟩
         clear BK399
         clear BK400
         clear HB
         clear h0_ h1_ h2_ h3_ h4_ h5_ h6_ h7_ h8_ h9_ h10_ h11_ h12_ h13_ h14_ h15_ h16_ h17_ h18_
         have BK399 := n0_
         have BK400 := n1_
         have BK418 := n2_
         have BK419 := n3_
         have GW418 := n4_
         have GE418 := n5_
         have NB399_418 := n6_
         have NB418_399 := n7_
         have NB400_418 := n8_
         have NB418_400 := n9_
         have NB419_418 := n10_
         have NB418_419 := n11_
         have GW419 := n12_
         have GE419 := n13_
         have NB399_419 := n14_
         have NB419_399 := n15_
         have NB400_419 := n16_
         have NB419_400 := n17_
         have HB := n18_
         clear n0_ n1_ n2_ n3_ n4_ n5_ n6_ n7_ n8_ n9_ n10_ n11_ n12_ n13_ n14_ n15_ n16_ n17_ n18_
         have hHeld : w18.cell? ⟨gb399, 0, none⟩ = some (.int .i64 a1_0) ∧ w18.cell? ⟨gb399, 1, none⟩ = some (.int .i64 a1_1) ∧ w18.cell? ⟨gb399, 2, none⟩ = some (.int .i64 a1_2) ∧ w18.cell? ⟨gb399, 3, none⟩ = some (.int .i64 a1_3) ∧ w18.cell? ⟨gb400, 0, none⟩ = some (.int .i64 a2_0) ∧ w18.cell? ⟨gb400, 1, none⟩ = some (.int .i64 a2_1) ∧ w18.cell? ⟨gb400, 2, none⟩ = some (.int .i64 a2_2) ∧ w18.cell? ⟨gb400, 3, none⟩ = some (.int .i64 a2_3) := hS_
         refine norm_ (a' := ?_) ?_ ?_
         rotate_left
         ·simp only [putAll, Act.put, List.setIfInBounds_toArray, List.set_cons_zero, List.set_cons_succ]
          rfl
         refine oz 4 20 fun K hK => ?_
         refine gz Try.func5 #[.agg #[.int .i64 a2_0, .int .i64 a2_1, .int .i64 a2_2, .int .i64 a2_3]] ?_
         with_reducible refine (laws_toRange.calls a2_0 a2_1 a2_2 a2_3 t405 t406 t407 t408 _ A6.out).mono ?_
         rintro e w19 ⟨rfl, hb⟩
         refine ⟨_, rfl, ?_⟩
         replace BK399 := zb BK399 hb rfl
         replace BK400 := zb BK400 hb rfl
         replace BK418 := zb BK418 hb rfl
         replace BK419 := zb BK419 hb rfl
         replace HB := zS hb
         try clear hb
         refine hK.out _ _ ⟨(blk_cell BK399.out 0).trans rfl, (blk_cell BK399.out 1).trans rfl, (blk_cell BK399.out 2).trans rfl, (blk_cell BK399.out 3).trans rfl, (blk_cell BK400.out 0).trans rfl, (blk_cell BK400.out 1).trans rfl, (blk_cell BK400.out 2).trans rfl, (blk_cell BK400.out 3).trans rfl⟩ (fun hHeld => ?_)
         clear hK K
         refine nz ?_
         exact norm_ (by first | (simp only [putAll, Act.put, List.setIfInBounds_toArray, List.set_cons_zero, List.set_cons_succ]; done) | (simp only [putAll, Act.put, List.setIfInBounds_toArray, List.set_cons_zero, List.set_cons_succ]; rfl)) (hJ2_4_11_12 (gb418, gb419) _ ⟨hHeld, (by exact bq BK399.out), (by exact bq BK400.out), (by exact bq BK418.out), (by exact bq BK419.out), GW418.out, GE418.out, NB399_418.out, NB418_399.out, NB400_418.out, NB418_400.out, NB419_418.out, NB418_419.out, GW419.out, GE419.out, NB399_419.out, NB419_399.out, NB400_419.out, NB419_400.out, zB⟩)
       ·skip
        rintro gb419 w18 ⟨hS_, h0_, h1_, h2_, h3_, h4_, h5_, h6_, h7_, h8_, h9_⟩
        have n0_ : Aside0 (w18.heap[gb399]? = some (.cells #[.int .i64 a1_0, .int .i64 a1_1, .int .i64 a1_2, .int .i64 a1_3] 23 (0, 0))) := ⟨h0_⟩
        have n1_ : Aside0 (w18.heap[gb400]? = some (.cells #[.int .i64 a2_0, .int .i64 a2_1, .int .i64 a2_2, .int .i64 a2_3] 23 (0, 0))) := ⟨h1_⟩
        have n2_ : Aside0 (w18.heap[gb419]? = some (.cells #[.int .i64 0, .int .i64 0, .int .i64 0, .int .i64 0] 24 (0, 0))) := ⟨h2_⟩
        have n3_ : Aside0 (w.heap.size ≤ gb419) := ⟨h3_⟩
        have n4_ : Aside0 (w.heap.size ≤ gb419) := ⟨h4_⟩
        have n5_ : Aside0 (gb399 ≠ gb419) := ⟨h5_⟩
        have n6_ : Aside0 (gb419 ≠ gb399) := ⟨h6_⟩
        have n7_ : Aside0 (gb400 ≠ gb419) := ⟨h7_⟩
        have n8_ : Aside0 (gb419 ≠ gb400) := ⟨h8_⟩
        have n9_ : Aside0 (Below w.heap.size w w18) := ⟨h9_⟩
        clear BK399
        clear BK400
        clear HB
        clear h0_ h1_ h2_ h3_ h4_ h5_ h6_ h7_ h8_ h9_
        have BK399 := n0_
        have BK400 := n1_
        have BK419 := n2_
        have GW419 := n3_
        have GE419 := n4_
        have NB399_419 := n5_
        have NB419_399 := n6_
        have NB400_419 := n7_
        have NB419_400 := n8_
        have HB := n9_
        clear n0_ n1_ n2_ n3_ n4_ n5_ n6_ n7_ n8_ n9_
        have hHeld : w18.cell? ⟨gb399, 0, none⟩ = some (.int .i64 a1_0) ∧ w18.cell? ⟨gb399, 1, none⟩ = some (.int .i64 a1_1) ∧ w18.cell? ⟨gb399, 2, none⟩ = some (.int .i64 a1_2) ∧ w18.cell? ⟨gb399, 3, none⟩ = some (.int .i64 a1_3) ∧ w18.cell? ⟨gb400, 0, none⟩ = some (.int .i64 a2_0) ∧ w18.cell? ⟨gb400, 1, none⟩ = some (.int .i64 a2_1) ∧ w18.cell? ⟨gb400, 2, none⟩ = some (.int .i64 a2_2) ∧ w18.cell? ⟨gb400, 3, none⟩ = some (.int .i64 a2_3) := hS_
        refine norm_ (a' := ?_) ?_ ?_
        rotate_left
        ·simp only [putAll, Act.put, List.setIfInBounds_toArray, List.set_cons_zero, List.set_cons_succ]
         rfl
        refine two_ (i := 6) (j := 11) (Ni := some 22) (Nj := some 9) #[true, true, true, true, true, true, true, false, false, false, false, false, true, false, false, false] #[true, true, true, true, true, true, false, false, false, false, false, true, true, false, false, false] rfl rfl rfl rfl (two_of HT_.out (by kernel_rfl)) (by decide) (by decide) (fun K hK => ?_) (fun K hK => ?_)
        ·skip
         refine gz Try.func4 #[.int .i64 a0, .agg #[.int .i64 t401, .int .i64 t402, .int .i64 t403, .int .i64 t404], .agg #[.int .i64 t405, .int .i64 t406, .int .i64 t407, .int .i64 t408], .bool a3] ?_
         with_reducible refine (spec_RangeBranch.calls k a0 t401 t402 t403 t404 t405 t406 t407 t408 a3 t409 t410 t411 t412 t413 t414 t415 t416 t417 _ A7.out).mono ?_
         rintro e w19 ⟨rfl, hb⟩
         refine ⟨_, rfl, ?_⟩
         replace BK399 := zb BK399 hb rfl
         replace BK400 := zb BK400 hb rfl
         replace BK419 := zb BK419 hb rfl
         replace HB := zS hb
         try clear hb
         refine hK.out _ _ ⟨(blk_cell BK399.out 0).trans rfl, (blk_cell BK399.out 1).trans rfl, (blk_cell BK399.out 2).trans rfl, (blk_cell BK399.out 3).trans rfl, (blk_cell BK400.out 0).trans rfl, (blk_cell BK400.out 1).trans rfl, (blk_cell BK400.out 2).trans rfl, (blk_cell BK400.out 3).trans rfl⟩ (fun hHeld => ?_)
         clear hK K
         refine nz ?_
         refine pz 7 15 ?_
         refine pz 8 23 ?_
         refine pz 9 24 ?_
         refine pz 10 25 ?_
         exact norm_ (by first | (simp only [putAll, Act.put, List.setIfInBounds_toArray, List.set_cons_zero, List.set_cons_succ]; done) | (simp only [putAll, Act.put, List.setIfInBounds_toArray, List.set_cons_zero, List.set_cons_succ]; rfl)) (hJ2_4_6_12 (gb419) _ ⟨hHeld, (by exact bq BK399.out), (by exact bq BK400.out), (by exact bq BK419.out), GW419.out, GE419.out, NB399_419.out, NB419_399.out, NB400_419.out, NB419_400.out, zB⟩)
        ·skip
         refine box_step ?hg (N := 9) ?hd (cs := #[.int .i64 0, .int .i64 0, .int .i64 0, .int .i64 0]) (t := 24) ?hr ?_; (case hd => rfl); (case hg => rfl); (case hr => first | (go_simp; done) | (go_simp; rfl))
         intro gb418 hg w19 hbox hb
         have BK418 := Aside0.mk hbox
         have GW418 := zW hg
         have GE418 := zW hg
         replace HB := zS hb
         have NB399_418 := zl BK399 hg rfl
         have NB418_399 := zg BK399 hg rfl
         replace BK399 := zb BK399 hb rfl
         have NB400_418 := zl BK400 hg rfl
         have NB418_400 := zg BK400 hg rfl
         replace BK400 := zb BK400 hb rfl
         have NB419_418 := zl BK419 hg rfl
         have NB418_419 := zg BK419 hg rfl
         replace BK419 := zb BK419 hb rfl
         clear hb hbox hg
         refine hK.out _ _ ⟨(blk_cell BK399.out 0).trans rfl, (blk_cell BK399.out 1).trans rfl, (blk_cell BK399.out 2).trans rfl, (blk_cell BK399.out 3).trans rfl, (blk_cell BK400.out 0).trans rfl, (blk_cell BK400.out 1).trans rfl, (blk_cell BK400.out 2).trans rfl, (blk_cell BK400.out 3).trans rfl⟩ (fun hHeld => ?_)
         clear hK K
         refine nz ?_
         exact norm_ (by first | (simp only [putAll, Act.put, List.setIfInBounds_toArray, List.set_cons_zero, List.set_cons_succ]; done) | (simp only [putAll, Act.put, List.setIfInBounds_toArray, List.set_cons_zero, List.set_cons_succ]; rfl)) (hJ2_4_11_12 (gb418, gb419) _ ⟨hHeld, (by exact bq BK399.out), (by exact bq BK400.out), (by exact bq BK418.out), (by exact bq BK419.out), GW418.out, GE418.out, NB399_418.out, NB418_399.out, NB400_418.out, NB418_400.out, NB419_418.out, NB418_419.out, GW419.out, GE419.out, NB399_419.out, NB419_399.out, NB400_419.out, NB419_400.out, zB⟩)
      ·skip
       rintro gb418 w18 ⟨hS_, h0_, h1_, h2_, h3_, h4_, h5_, h6_, h7_, h8_, h9_⟩
       have n0_ : Aside0 (w18.heap[gb399]? = some (.cells #[.int .i64 a1_0, .int .i64 a1_1, .int .i64 a1_2, .int .i64 a1_3] 23 (0, 0))) := ⟨h0_⟩
       have n1_ : Aside0 (w18.heap[gb400]? = some (.cells #[.int .i64 a2_0, .int .i64 a2_1, .int .i64 a2_2, .int .i64 a2_3] 23 (0, 0))) := ⟨h1_⟩
       have n2_ : Aside0 (w18.heap[gb418]? = some (.cells #[.int .i64 0, .int .i64 0, .int .i64 0, .int .i64 0] 24 (0, 0))) := ⟨h2_⟩
       have n3_ : Aside0 (w.heap.size ≤ gb418) := ⟨h3_⟩
       have n4_ : Aside0 (w.heap.size ≤ gb418) := ⟨h4_⟩
       have n5_ : Aside0 (gb399 ≠ gb418) := ⟨h5_⟩
       have n6_ : Aside0 (gb418 ≠ gb399) := ⟨h6_⟩
       have n7_ : Aside0 (gb400 ≠ gb418) := ⟨h7_⟩
       have n8_ : Aside0 (gb418 ≠ gb400) := ⟨h8_⟩
       have n9_ : Aside0 (Below w.heap.size w w18) := ⟨h9_⟩
       clear BK399
       clear BK400
       clear HB
       clear h0_ h1_ h2_ h3_ h4_ h5_ h6_ h7_ h8_ h9_
       have BK399 := n0_
       have BK400 := n1_
       have BK418 := n2_
       have GW418 := n3_
       have GE418 := n4_
       have NB399_418 := n5_
       have NB418_399 := n6_
       have NB400_418 := n7_
       have NB418_400 := n8_
       have HB := n9_
       clear n0_ n1_ n2_ n3_ n4_ n5_ n6_ n7_ n8_ n9_
       have hHeld : w18.cell? ⟨gb399, 0, none⟩ = some (.int .i64 a1_0) ∧ w18.cell? ⟨gb399, 1, none⟩ = some (.int .i64 a1_1) ∧ w18.cell? ⟨gb399, 2, none⟩ = some (.int .i64 a1_2) ∧ w18.cell? ⟨gb399, 3, none⟩ = some (.int .i64 a1_3) ∧ w18.cell? ⟨gb400, 0, none⟩ = some (.int .i64 a2_0) ∧ w18.cell? ⟨gb400, 1, none⟩ = some (.int .i64 a2_1) ∧ w18.cell? ⟨gb400, 2, none⟩ = some (.int .i64 a2_2) ∧ w18.cell? ⟨gb400, 3, none⟩ = some (.int .i64 a2_3) := hS_
       refine norm_ (a' := ?_) ?_ ?_
       rotate_left
       ·simp only [putAll, Act.put, List.setIfInBounds_toArray, List.set_cons_zero, List.set_cons_succ]
        rfl
       refine two_ (i := 6) (j := 12) (Ni := some 22) (Nj := some 10) #[true, true, true, true, true, true, true, false, false, false, false, true, false, false, false, false] #[true, true, true, true, true, true, false, false, false, false, false, true, true, false, false, false] rfl rfl rfl rfl (two_of HT_.out (by kernel_rfl)) (by decide) (by decide) (fun K hK => ?_) (fun K hK => ?_)
       ·skip
        refine gz Try.func4 #[.int .i64 a0, .agg #[.int .i64 t401, .int .i64 t402, .int .i64 t403, .int .i64 t404], .agg #[.int .i64 t405, .int .i64 t406, .int .i64 t407, .int .i64 t408], .bool a3] ?_
        with_reducible refine (spec_RangeBranch.calls k a0 t401 t402 t403 t404 t405 t406 t407 t408 a3 t409 t410 t411 t412 t413 t414 t415 t416 t417 _ A7.out).mono ?_
        rintro e w19 ⟨rfl, hb⟩
        refine ⟨_, rfl, ?_⟩
        replace BK399 := zb BK399 hb rfl
        replace BK400 := zb BK400 hb rfl
        replace BK418 := zb BK418 hb rfl
        replace HB := zS hb
        try clear hb
        refine hK.out _ _ ⟨(blk_cell BK399.out 0).trans rfl, (blk_cell BK399.out 1).trans rfl, (blk_cell BK399.out 2).trans rfl, (blk_cell BK399.out 3).trans rfl, (blk_cell BK400.out 0).trans rfl, (blk_cell BK400.out 1).trans rfl, (blk_cell BK400.out 2).trans rfl, (blk_cell BK400.out 3).trans rfl⟩ (fun hHeld => ?_)
        clear hK K
        refine nz ?_
        refine pz 7 15 ?_
        refine pz 8 23 ?_
        refine pz 9 24 ?_
        refine pz 10 25 ?_
        exact norm_ (by first | (simp only [putAll, Act.put, List.setIfInBounds_toArray, List.set_cons_zero, List.set_cons_succ]; done) | (simp only [putAll, Act.put, List.setIfInBounds_toArray, List.set_cons_zero, List.set_cons_succ]; rfl)) (hJ2_4_6_11 (gb418) _ ⟨hHeld, (by exact bq BK399.out), (by exact bq BK400.out), (by exact bq BK418.out), GW418.out, GE418.out, NB399_418.out, NB418_399.out, NB400_418.out, NB418_400.out, zB⟩)
       ·skip
        refine box_step ?hg (N := 10) ?hd (cs := #[.int .i64 0, .int .i64 0, .int .i64 0, .int .i64 0]) (t := 24) ?hr ?_; (case hd => rfl); (case hg => rfl); (case hr => first | (go_simp; done) | (go_simp; rfl))
        intro gb419 hg w19 hbox hb
        have BK419 := Aside0.mk hbox
        have GW419 := zW hg
        have GE419 := zW hg
        replace HB := zS hb
        have NB399_419 := zl BK399 hg rfl
        have NB419_399 := zg BK399 hg rfl
        replace BK399 := zb BK399 hb rfl
        have NB400_419 := zl BK400 hg rfl
        have NB419_400 := zg BK400 hg rfl
        replace BK400 := zb BK400 hb rfl
        have NB418_419 := zl BK418 hg rfl
        have NB419_418 := zg BK418 hg rfl
        replace BK418 := zb BK418 hb rfl
        clear hb hbox hg
        refine hK.out _ _ ⟨(blk_cell BK399.out 0).trans rfl, (blk_cell BK399.out 1).trans rfl, (blk_cell BK399.out 2).trans rfl, (blk_cell BK399.out 3).trans rfl, (blk_cell BK400.out 0).trans rfl, (blk_cell BK400.out 1).trans rfl, (blk_cell BK400.out 2).trans rfl, (blk_cell BK400.out 3).trans rfl⟩ (fun hHeld => ?_)
        clear hK K
        refine nz ?_
        exact norm_ (by first | (simp only [putAll, Act.put, List.setIfInBounds_toArray, List.set_cons_zero, List.set_cons_succ]; done) | (simp only [putAll, Act.put, List.setIfInBounds_toArray, List.set_cons_zero, List.set_cons_succ]; rfl)) (hJ2_4_11_12 (gb418, gb419) _ ⟨hHeld, (by exact bq BK399.out), (by exact bq BK400.out), (by exact bq BK418.out), (by exact bq BK419.out), GW418.out, GE418.out, NB399_418.out, NB418_399.out, NB400_418.out, NB418_400.out, NB419_418.out, NB418_419.out, GW419.out, GE419.out, NB399_419.out, NB419_399.out, NB400_419.out, NB419_400.out, zB⟩)
     ·skip
      rintro _ w18 ⟨hS_, h0_, h1_, h2_⟩
      have n0_ : Aside0 (w18.heap[gb399]? = some (.cells #[.int .i64 a1_0, .int .i64 a1_1, .int .i64 a1_2, .int .i64 a1_3] 23 (0, 0))) := ⟨h0_⟩
      have n1_ : Aside0 (w18.heap[gb400]? = some (.cells #[.int .i64 a2_0, .int .i64 a2_1, .int .i64 a2_2, .int .i64 a2_3] 23 (0, 0))) := ⟨h1_⟩
      have n2_ : Aside0 (Below w.heap.size w w18) := ⟨h2_⟩
      clear BK399
      clear BK400
      clear HB
      clear h0_ h1_ h2_
      have BK399 := n0_
      have BK400 := n1_
      have HB := n2_
      clear n0_ n1_ n2_
      have hHeld : w18.cell? ⟨gb399, 0, none⟩ = some (.int .i64 a1_0) ∧ w18.cell? ⟨gb399, 1, none⟩ = some (.int .i64 a1_1) ∧ w18.cell? ⟨gb399, 2, none⟩ = some (.int .i64 a1_2) ∧ w18.cell? ⟨gb399, 3, none⟩ = some (.int .i64 a1_3) ∧ w18.cell? ⟨gb400, 0, none⟩ = some (.int .i64 a2_0) ∧ w18.cell? ⟨gb400, 1, none⟩ = some (.int .i64 a2_1) ∧ w18.cell? ⟨gb400, 2, none⟩ = some (.int .i64 a2_2) ∧ w18.cell? ⟨gb400, 3, none⟩ = some (.int .i64 a2_3) := hS_
      refine norm_ (a' := ?_) ?_ ?_
      rotate_left
      ·simp only [putAll, Act.put, List.setIfInBounds_toArray, List.set_cons_zero, List.set_cons_succ]
       rfl
      refine two_ (i := 11) (j := 12) (Ni := some 9) (Nj := some 10) #[true, true, true, true, true, true, true, true, true, true, true, true, false, false, false, false] #[true, true, true, true, true, true, true, true, true, true, true, false, true, false, false, false] rfl rfl rfl rfl (two_of HT_.out (by kernel_rfl)) (by decide) (by decide) (fun K hK => ?_) (fun K hK => ?_)
      ·skip
       refine box_step ?hg (N := 9) ?hd (cs := #[.int .i64 0, .int .i64 0, .int .i64 0, .int .i64 0]) (t := 24) ?hr ?_; (case hd => rfl); (case hg => rfl); (case hr => first | (go_simp; done) | (go_simp; rfl))
       intro gb418 hg w19 hbox hb
       have BK418 := Aside0.mk hbox
       have GW418 := zW hg
       have GE418 := zW hg
       replace HB := zS hb
       have NB399_418 := zl BK399 hg rfl
       have NB418_399 := zg BK399 hg rfl
       replace BK399 := zb BK399 hb rfl
       have NB400_418 := zl BK400 hg rfl
       have NB418_400 := zg BK400 hg rfl
       replace BK400 := zb BK400 hb rfl
       clear hb hbox hg
       refine hK.out _ _ ⟨(blk_cell BK399.out 0).trans rfl, (blk_cell BK399.out 1).trans rfl, (blk_cell BK399.out 2).trans rfl, (blk_cell BK399.out 3).trans rfl, (blk_cell BK400.out 0).trans rfl, (blk_cell BK400.out 1).trans rfl, (blk_cell BK400.out 2).trans rfl, (blk_cell BK400.out 3).trans rfl⟩ (fun hHeld => ?_)
       clear hK K
       refine nz ?_
       exact norm_ (by first | (simp only [putAll, Act.put, List.setIfInBounds_toArray, List.set_cons_zero, List.set_cons_succ]; done) | (simp only [putAll, Act.put, List.setIfInBounds_toArray, List.set_cons_zero, List.set_cons_succ]; rfl)) (hJ2_4_6_11 (gb418) _ ⟨hHeld, (by exact bq BK399.out), (by exact bq BK400.out), (by exact bq BK418.out), GW418.out, GE418.out, NB399_418.out, NB418_399.out, NB400_418.out, NB418_400.out, zB⟩)
      ·skip
       refine box_step ?hg (N := 10) ?hd (cs := #[.int .i64 0, .int .i64 0, .int .i64 0, .int .i64 0]) (t := 24) ?hr ?_; (case hd => rfl); (case hg => rfl); (case hr => first | (go_simp; done) | (go_simp; rfl))
       intro gb419 hg w19 hbox hb
       have BK419 := Aside0.mk hbox
       have GW419 := zW hg
       have GE419 := zW hg
       replace HB := zS hb
       have NB399_419 := zl BK399 hg rfl
       have NB419_399 := zg BK399 hg rfl
       replace BK399 := zb BK399 hb rfl
       have NB400_419 := zl BK400 hg rfl
       have NB419_400 := zg BK400 hg rfl
       replace BK400 := zb BK400 hb rfl
       clear hb hbox hg
       refine hK.out _ _ ⟨(blk_cell BK399.out 0).trans rfl, (blk_cell BK399.out 1).trans rfl, (blk_cell BK399.out 2).trans rfl, (blk_cell BK399.out 3).trans rfl, (blk_cell BK400.out 0).trans rfl, (blk_cell BK400.out 1).trans rfl, (blk_cell BK400.out 2).trans rfl, (blk_cell BK400.out 3).trans rfl⟩ (fun hHeld => ?_)
       clear hK K
       refine nz ?_
       exact norm_ (by first | (simp only [putAll, Act.put, List.setIfInBounds_toArray, List.set_cons_zero, List.set_cons_succ]; done) | (simp only [putAll, Act.put, List.setIfInBounds_toArray, List.set_cons_zero, List.set_cons_succ]; rfl)) (hJ2_4_6_12 (gb419) _ ⟨hHeld, (by exact bq BK399.out), (by exact bq BK400.out), (by exact bq BK419.out), GW419.out, GE419.out, NB399_419.out, NB419_399.out, NB400_419.out, NB419_400.out, zB⟩)
    ·skip
     rintro ⟨gb418, gb419⟩ w19 ⟨hS_, h0_, h1_, h2_, h3_, h4_, h5_, h6_, h7_, h8_, h9_, h10_, h11_, h12_, h13_, h14_, h15_, h16_, h17_, h18_⟩
     have n0_ : Aside0 (w19.heap[gb399]? = some (.cells #[.int .i64 a1_0, .int .i64 a1_1, .int .i64 a1_2, .int .i64 a1_3] 23 (0, 0))) := ⟨h0_⟩
     have n1_ : Aside0 (w19.heap[gb400]? = some (.cells #[.int .i64 a2_0, .int .i64 a2_1, .int .i64 a2_2, .int .i64 a2_3] 23 (0, 0))) := ⟨h1_⟩
     have n2_ : Aside0 (w19.heap[gb418]? = some (.cells #[.int .i64 0, .int .i64 0, .int .i64 0, .int .i64 0] 24 (0, 0))) := ⟨h2_⟩
     have n3_ : Aside0 (w19.heap[gb419]? = some (.cells #[.int .i64 0, .int .i64 0, .int .i64 0, .int .i64 0] 24 (0, 0))) := ⟨h3_⟩
     have n4_ : Aside0 (w.heap.size ≤ gb418) := ⟨h4_⟩
     have n5_ : Aside0 (w.heap.size ≤ gb418) := ⟨h5_⟩
     have n6_ : Aside0 (gb399 ≠ gb418) := ⟨h6_⟩
     have n7_ : Aside0 (gb418 ≠ gb399) := ⟨h7_⟩
     have n8_ : Aside0 (gb400 ≠ gb418) := ⟨h8_⟩
     have n9_ : Aside0 (gb418 ≠ gb400) := ⟨h9_⟩
     have n10_ : Aside0 (gb419 ≠ gb418) := ⟨h10_⟩
     have n11_ : Aside0 (gb418 ≠ gb419) := ⟨h11_⟩
     have n12_ : Aside0 (w.heap.size ≤ gb419) := ⟨h12_⟩
     have n13_ : Aside0 (w.heap.size ≤ gb419) := ⟨h13_⟩
     have n14_ : Aside0 (gb399 ≠ gb419) := ⟨h14_⟩
     have n15_ : Aside0 (gb419 ≠ gb399) := ⟨h15_⟩
     have n16_ : Aside0 (gb400 ≠ gb419) := ⟨h16_⟩
     have n17_ : Aside0 (gb419 ≠ gb400) := ⟨h17_⟩
     have n18_ : Aside0 (Below w.heap.size w w19) := ⟨h18_⟩
     clear BK399
     clear BK400
     clear HB
     clear h0_ h1_ h2_ h3_ h4_ h5_ h6_ h7_ h8_ h9_ h10_ h11_ h12_ h13_ h14_ h15_ h16_ h17_ h18_
     have BK399 := n0_
     have BK400 := n1_
     have BK418 := n2_
     have BK419 := n3_
     have GW418 := n4_
     have GE418 := n5_
     have NB399_418 := n6_
     have NB418_399 := n7_
     have NB400_418 := n8_
     have NB418_400 := n9_
     have NB419_418 := n10_
     have NB418_419 := n11_
     have GW419 := n12_
     have GE419 := n13_
     have NB399_419 := n14_
     have NB419_399 := n15_
     have NB400_419 := n16_
     have NB419_400 := n17_
     have HB := n18_
     clear n0_ n1_ n2_ n3_ n4_ n5_ n6_ n7_ n8_ n9_ n10_ n11_ n12_ n13_ n14_ n15_ n16_ n17_ n18_
     have hHeld : w19.cell? ⟨gb399, 0, none⟩ = some (.int .i64 a1_0) ∧ w19.cell? ⟨gb399, 1, none⟩ = some (.int .i64 a1_1) ∧ w19.cell? ⟨gb399, 2, none⟩ = some (.int .i64 a1_2) ∧ w19.cell? ⟨gb399, 3, none⟩ = some (.int .i64 a1_3) ∧ w19.cell? ⟨gb400, 0, none⟩ = some (.int .i64 a2_0) ∧ w19.cell? ⟨gb400, 1, none⟩ = some (.int .i64 a2_1) ∧ w19.cell? ⟨gb400, 2, none⟩ = some (.int .i64 a2_2) ∧ w19.cell? ⟨gb400, 3, none⟩ = some (.int .i64 a2_3) := hS_
     refine norm_ (a' := ?_) ?_ ?_
     rotate_left
     ·simp only [putAll, Act.put, List.setIfInBounds_toArray, List.set_cons_zero, List.set_cons_succ]
      rfl
     refine oz 6 22 fun K hK => ?_
     refine gz Try.func4 #[.int .i64 a0, .agg #[.int .i64 t401, .int .i64 t402, .int .i64 t403, .int .i64 t404], .agg #[.int .i64 t405, .int .i64 t406, .int .i64 t407, .int .i64 t408], .bool a3] ?_
     with_reducible refine (spec_RangeBranch.calls k a0 t401 t402 t403 t404 t405 t406 t407 t408 a3 t409 t410 t411 t412 t413 t414 t415 t416 t417 _ A7.out).mono ?_
     rintro e w20 ⟨rfl, hb⟩
     refine ⟨_, rfl, ?_⟩
     replace BK399 := zb BK399 hb rfl
     replace BK400 := zb BK400 hb rfl
     replace BK418 := zb BK418 hb rfl
     replace BK419 := zb BK419 hb rfl
     replace HB := zS hb
     try clear hb
     refine hK.out _ _ ⟨(blk_cell BK399.out 0).trans rfl, (blk_cell BK399.out 1).trans rfl, (blk_cell BK399.out 2).trans rfl, (blk_cell BK399.out 3).trans rfl, (blk_cell BK400.out 0).trans rfl, (blk_cell BK400.out 1).trans rfl, (blk_cell BK400.out 2).trans rfl, (blk_cell BK400.out 3).trans rfl⟩ (fun hHeld => ?_)
     clear hK K
     refine nz ?_
     refine pz 7 15 ?_
     refine pz 8 23 ?_
     refine pz 9 24 ?_
     refine pz 10 25 ?_
     exact norm_ (by first | (simp only [putAll, Act.put, List.setIfInBounds_toArray, List.set_cons_zero, List.set_cons_succ]; done) | (simp only [putAll, Act.put, List.setIfInBounds_toArray, List.set_cons_zero, List.set_cons_succ]; rfl)) (hJ2_4_6_11_12 (gb418, gb419) _ ⟨hHeld, (by exact bq BK399.out), (by exact bq BK400.out), (by exact bq BK418.out), (by exact bq BK419.out), GW418.out, GE418.out, NB399_418.out, NB418_399.out, NB400_418.out, NB418_400.out, NB419_418.out, NB418_419.out, GW419.out, GE419.out, NB399_419.out, NB419_399.out, NB400_419.out, NB419_400.out, zB⟩)
   ·skip
    rintro gb419 w19 ⟨hS_, h0_, h1_, h2_, h3_, h4_, h5_, h6_, h7_, h8_, h9_⟩
    have n0_ : Aside0 (w19.heap[gb399]? = some (.cells #[.int .i64 a1_0, .int .i64 a1_1, .int .i64 a1_2, .int .i64 a1_3] 23 (0, 0))) := ⟨h0_⟩
    have n1_ : Aside0 (w19.heap[gb400]? = some (.cells #[.int .i64 a2_0, .int .i64 a2_1, .int .i64 a2_2, .int .i64 a2_3] 23 (0, 0))) := ⟨h1_⟩
    have n2_ : Aside0 (w19.heap[gb419]? = some (.cells #[.int .i64 0, .int .i64 0, .int .i64 0, .int .i64 0] 24 (0, 0))) := ⟨h2_⟩
    have n3_ : Aside0 (w.heap.size ≤ gb419) := ⟨h3_⟩
    have n4_ : Aside0 (w.heap.size ≤ gb419) := ⟨h4_⟩
    have n5_ : Aside0 (gb399 ≠ gb419) := ⟨h5_⟩
    have n6_ : Aside0 (gb419 ≠ gb399) := ⟨h6_⟩
    have n7_ : Aside0 (gb400 ≠ gb419) := ⟨h7_⟩
    have n8_ : Aside0 (gb419 ≠ gb400) := ⟨h8_⟩
    have n9_ : Aside0 (Below w.heap.size w w19) := ⟨h9_⟩
    clear BK399
    clear BK400
    clear HB
    clear h0_ h1_ h2_ h3_ h4_ h5_ h6_ h7_ h8_ h9_
    have BK399 := n0_
    have BK400 := n1_
    have BK419 := n2_
    have GW419 := n3_
    have GE419 := n4_
    have NB399_419 := n5_
    have NB419_399 := n6_
    have NB400_419 := n7_
    have NB419_400 := n8_
    have HB := n9_
    clear n0_ n1_ n2_ n3_ n4_ n5_ n6_ n7_ n8_ n9_
    have hHeld : w19.cell? ⟨gb399, 0, none⟩ = some (.int .i64 a1_0) ∧ w19.cell? ⟨gb399, 1, none⟩ = some (.int .i64 a1_1) ∧ w19.cell? ⟨gb399, 2, none⟩ = some (.int .i64 a1_2) ∧ w19.cell? ⟨gb399, 3, none⟩ = some (.int .i64 a1_3) ∧ w19.cell? ⟨gb400, 0, none⟩ = some (.int .i64 a2_0) ∧ w19.cell? ⟨gb400, 1, none⟩ = some (.int .i64 a2_1) ∧ w19.cell? ⟨gb400, 2, none⟩ = some (.int .i64 a2_2) ∧ w19.cell? ⟨gb400, 3, none⟩ = some (.int .i64 a2_3) := hS_
    refine norm_ (a' := ?_) ?_ ?_
    rotate_left
    ·simp only [putAll, Act.put, List.setIfInBounds_toArray, List.set_cons_zero, List.set_cons_succ]
     rfl
    refine oz 11 9 fun K hK => ?_
    refine box_step ?hg (N := 9) ?hd (cs := #[.int .i64 0, .int .i64 0, .int .i64 0, .int .i64 0]) (t := 24) ?hr ?_; (case hd => rfl); (case hg => rfl); (case hr => first | (go_simp; done) | (go_simp; rfl))
    intro gb418 hg w20 hbox hb
    have BK418 := Aside0.mk hbox
    have GW418 := zW hg
    have GE418 := zW hg
    replace HB := zS hb
    have NB399_418 := zl BK399 hg rfl
    have NB418_399 := zg BK399 hg rfl
    replace BK399 := zb BK399 hb rfl
    have NB400_418 := zl BK400 hg rfl
    have NB418_400 := zg BK400 hg rfl
    replace BK400 := zb BK400 hb rfl
    have NB419_418 := zl BK419 hg rfl
    have NB418_419 := zg BK419 hg rfl
    replace BK419 := zb BK419 hb rfl
    clear hb hbox hg
    refine hK.out _ _ ⟨(blk_cell BK399.out 0).trans rfl, (blk_cell BK399.out 1).trans rfl, (blk_cell BK399.out 2).trans rfl, (blk_cell BK399.out 3).trans rfl, (blk_cell BK400.out 0).trans rfl, (blk_cell BK400.out 1).trans rfl, (blk_cell BK400.out 2).trans rfl, (blk_cell BK400.out 3).trans rfl⟩ (fun hHeld => ?_)
    clear hK K
    refine nz ?_
    exact norm_ (by first | (simp only [putAll, Act.put, List.setIfInBounds_toArray, List.set_cons_zero, List.set_cons_succ]; done) | (simp only [putAll, Act.put, List.setIfInBounds_toArray, List.set_cons_zero, List.set_cons_succ]; rfl)) (hJ2_4_6_11_12 (gb418, gb419) _ ⟨hHeld, (by exact bq BK399.out), (by exact bq BK400.out), (by exact bq BK418.out), (by exact bq BK419.out), GW418.out, GE418.out, NB399_418.out, NB418_399.out, NB400_418.out, NB418_400.out, NB419_418.out, NB418_419.out, GW419.out, GE419.out, NB399_419.out, NB419_399.out, NB400_419.out, NB419_400.out, zB⟩)
  ·skip
   rintro gb418 w19 ⟨hS_, h0_, h1_, h2_, h3_, h4_, h5_, h6_, h7_, h8_, h9_⟩
   have n0_ : Aside0 (w19.heap[gb399]? = some (.cells #[.int .i64 a1_0, .int .i64 a1_1, .int .i64 a1_2, .int .i64 a1_3] 23 (0, 0))) := ⟨h0_⟩
   have n1_ : Aside0 (w19.heap[gb400]? = some (.cells #[.int .i64 a2_0, .int .i64 a2_1, .int .i64 a2_2, .int .i64 a2_3] 23 (0, 0))) := ⟨h1_⟩
   have n2_ : Aside0 (w19.heap[gb418]? = some (.cells #[.int .i64 0, .int .i64 0, .int .i64 0, .int .i64 0] 24 (0, 0))) := ⟨h2_⟩
   have n3_ : Aside0 (w.heap.size ≤ gb418) := ⟨h3_⟩
   have n4_ : Aside0 (w.heap.size ≤ gb418) := ⟨h4_⟩
   have n5_ : Aside0 (gb399 ≠ gb418) := ⟨h5_⟩
   have n6_ : Aside0 (gb418 ≠ gb399) := ⟨h6_⟩
   have n7_ : Aside0 (gb400 ≠ gb418) := ⟨h7_⟩
   have n8_ : Aside0 (gb418 ≠ gb400) := ⟨h8_⟩
   have n9_ : Aside0 (Below w.heap.size w w19) := ⟨h9_⟩
   clear BK399
   clear BK400
   clear HB
   clear h0_ h1_ h2_ h3_ h4_ h5_ h6_ h7_ h8_ h9_
   have BK399 := n0_
   have BK400 := n1_
   have BK418 := n2_
   have GW418 := n3_
   have GE418 := n4_
   have NB399_418 := n5_
   have NB418_399 := n6_
   have NB400_418 := n7_
   have NB418_400 := n8_
   have HB := n9_
   clear n0_ n1_ n2_ n3_ n4_ n5_ n6_ n7_ n8_ n9_
   have hHeld : w19.cell? ⟨gb399, 0, none⟩ = some (.int .i64 a1_0) ∧ w19.cell? ⟨gb399, 1, none⟩ = some (.int .i64 a1_1) ∧ w19.cell? ⟨gb399, 2, none⟩ = some (.int .i64 a1_2) ∧ w19.cell? ⟨gb399, 3, none⟩ = some (.int .i64 a1_3) ∧ w19.cell? ⟨gb400, 0, none⟩ = some (.int .i64 a2_0) ∧ w19.cell? ⟨gb400, 1, none⟩ = some (.int .i64 a2_1) ∧ w19.cell? ⟨gb400, 2, none⟩ = some (.int .i64 a2_2) ∧ w19.cell? ⟨gb400, 3, none⟩ = some (.int .i64 a2_3) := hS_
   refine norm_ (a' := ?_) ?_ ?_
   rotate_left
   ·simp only [putAll, Act.put, List.setIfInBounds_toArray, List.set_cons_zero, List.set_cons_succ]
    rfl
   refine oz 12 10 fun K hK => ?_
   refine box_step ?hg (N := 10) ?hd (cs := #[.int .i64 0, .int .i64 0, .int .i64 0, .int .i64 0]) (t := 24) ?hr ?_; (case hd => rfl); (case hg => rfl); (case hr => first | (go_simp; done) | (go_simp; rfl))
   intro gb419 hg w20 hbox hb
   have BK419 := Aside0.mk hbox
   have GW419 := zW hg
   have GE419 := zW hg
   replace HB := zS hb
   have NB399_419 := zl BK399 hg rfl
   have NB419_399 := zg BK399 hg rfl
   replace BK399 := zb BK399 hb rfl
   have NB400_419 := zl BK400 hg rfl
   have NB419_400 := zg BK400 hg rfl
   replace BK400 := zb BK400 hb rfl
   have NB418_419 := zl BK418 hg rfl
   have NB419_418 := zg BK418 hg rfl
   replace BK418 := zb BK418 hb rfl
   clear hb hbox hg
   refine hK.out _ _ ⟨(blk_cell BK399.out 0).trans rfl, (blk_cell BK399.out 1).trans rfl, (blk_cell BK399.out 2).trans rfl, (blk_cell BK399.out 3).trans rfl, (blk_cell BK400.out 0).trans rfl, (blk_cell BK400.out 1).trans rfl, (blk_cell BK400.out 2).trans rfl, (blk_cell BK400.out 3).trans rfl⟩ (fun hHeld => ?_)
   clear hK K
   refine nz ?_
   exact norm_ (by first | (simp only [putAll, Act.put, List.setIfInBounds_toArray, List.set_cons_zero, List.set_cons_succ]; done) | (simp only [putAll, Act.put, List.setIfInBounds_toArray, List.set_cons_zero, List.set_cons_succ]; rfl)) (hJ2_4_6_11_12 (gb418, gb419) _ ⟨hHeld, (by exact bq BK399.out), (by exact bq BK400.out), (by exact bq BK418.out), (by exact bq BK419.out), GW418.out, GE418.out, NB399_418.out, NB418_399.out, NB400_418.out, NB418_400.out, NB419_418.out, NB418_419.out, GW419.out, GE419.out, NB399_419.out, NB419_399.out, NB400_419.out, NB419_400.out, zB⟩)
 rintro ⟨gb418, gb419⟩ w20 ⟨hS_, h0_, h1_, h2_, h3_, h4_, h5_, h6_, h7_, h8_, h9_, h10_, h11_, h12_, h13_, h14_, h15_, h16_, h17_, h18_⟩
 have n0_ : Aside0 (w20.heap[gb399]? = some (.cells #[.int .i64 a1_0, .int .i64 a1_1, .int .i64 a1_2, .int .i64 a1_3] 23 (0, 0))) := ⟨h0_⟩
 have n1_ : Aside0 (w20.heap[gb400]? = some (.cells #[.int .i64 a2_0, .int .i64 a2_1, .int .i64 a2_2, .int .i64 a2_3] 23 (0, 0))) := ⟨h1_⟩
 have n2_ : Aside0 (w20.heap[gb418]? = some (.cells #[.int .i64 0, .int .i64 0, .int .i64 0, .int .i64 0] 24 (0, 0))) := ⟨h2_⟩
 have n3_ : Aside0 (w20.heap[gb419]? = some (.cells #[.int .i64 0, .int .i64 0, .int .i64 0, .int .i64 0] 24 (0, 0))) := ⟨h3_⟩
 have n4_ : Aside0 (w.heap.size ≤ gb418) := ⟨h4_⟩
 have n5_ : Aside0 (w.heap.size ≤ gb418) := ⟨h5_⟩
 have n6_ : Aside0 (gb399 ≠ gb418) := ⟨h6_⟩
 have n7_ : Aside0 (gb418 ≠ gb399) := ⟨h7_⟩
 have n8_ : Aside0 (gb400 ≠ gb418) := ⟨h8_⟩
 have n9_ : Aside0 (gb418 ≠ gb400) := ⟨h9_⟩
 have n10_ : Aside0 (gb419 ≠ gb418) := ⟨h10_⟩
 have n11_ : Aside0 (gb418 ≠ gb419) := ⟨h11_⟩
 have n12_ : Aside0 (w.heap.size ≤ gb419) := ⟨h12_⟩
 have n13_ : Aside0 (w.heap.size ≤ gb419) := ⟨h13_⟩
 have n14_ : Aside0 (gb399 ≠ gb419) := ⟨h14_⟩
 have n15_ : Aside0 (gb419 ≠ gb399) := ⟨h15_⟩
 have n16_ : Aside0 (gb400 ≠ gb419) := ⟨h16_⟩
 have n17_ : Aside0 (gb419 ≠ gb400) := ⟨h17_⟩
 have n18_ : Aside0 (Below w.heap.size w w20) := ⟨h18_⟩
 clear BK399
 clear BK400
 clear HB
 clear h0_ h1_ h2_ h3_ h4_ h5_ h6_ h7_ h8_ h9_ h10_ h11_ h12_ h13_ h14_ h15_ h16_ h17_ h18_
 have BK399 := n0_
 have BK400 := n1_
 have BK418 := n2_
 have BK419 := n3_
 have GW418 := n4_
 have GE418 := n5_
 have NB399_418 := n6_
 have NB418_399 := n7_
 have NB400_418 := n8_
 have NB418_400 := n9_
 have NB419_418 := n10_
 have NB418_419 := n11_
 have GW419 := n12_
 have GE419 := n13_
 have NB399_419 := n14_
 have NB419_399 := n15_
 have NB400_419 := n16_
 have NB419_400 := n17_
 have HB := n18_
 clear n0_ n1_ n2_ n3_ n4_ n5_ n6_ n7_ n8_ n9_ n10_ n11_ n12_ n13_ n14_ n15_ n16_ n17_ n18_
 have hHeld : w20.cell? ⟨gb399, 0, none⟩ = some (.int .i64 a1_0) ∧ w20.cell? ⟨gb399, 1, none⟩ = some (.int .i64 a1_1) ∧ w20.cell? ⟨gb399, 2, none⟩ = some (.int .i64 a1_2) ∧ w20.cell? ⟨gb399, 3, none⟩ = some (.int .i64 a1_3) ∧ w20.cell? ⟨gb400, 0, none⟩ = some (.int .i64 a2_0) ∧ w20.cell? ⟨gb400, 1, none⟩ = some (.int .i64 a2_1) ∧ w20.cell? ⟨gb400, 2, none⟩ = some (.int .i64 a2_2) ∧ w20.cell? ⟨gb400, 3, none⟩ = some (.int .i64 a2_3) := hS_
 refine norm_ (a' := ?_) ?_ ?_
 rotate_left
 ·simp only [putAll, Act.put, List.setIfInBounds_toArray, List.set_cons_zero, List.set_cons_succ]
  rfl
 refine oN 13 fun K hK => ?_
 have hs21 : w20.cell? ⟨gb418, 0, none⟩ = some (.int .i64 0) := (blk_cell BK418.out 0).trans rfl
 have hfs21 := blk_frozen BK418.out 0
 have hns21_0 := NB399_418.out
 have hns21_1 := NB400_418.out
 have hns21_3 := NB419_418.out
 have hms21_0 := NB418_399.out
 have hms21_1 := NB418_400.out
 have hms21_3 := NB418_419.out
 have hs22 : w20.cell? ⟨gb418, 1, none⟩ = some (.int .i64 0) := (blk_cell BK418.out 1).trans rfl
 have hfs22 := blk_frozen BK418.out 1
 have hns22_0 := NB399_418.out
 have hns22_1 := NB400_418.out
 have hns22_3 := NB419_418.out
 have hms22_0 := NB418_399.out
 have hms22_1 := NB418_400.out
 have hms22_3 := NB418_419.out
 have hs23 : w20.cell? ⟨gb418, 2, none⟩ = some (.int .i64 0) := (blk_cell BK418.out 2).trans rfl
 have hfs23 := blk_frozen BK418.out 2
 have hns23_0 := NB399_418.out
 have hns23_1 := NB400_418.out
 have hns23_3 := NB419_418.out
 have hms23_0 := NB418_399.out
 have hms23_1 := NB418_400.out
 have hms23_3 := NB418_419.out
 have hs24 : w20.cell? ⟨gb418, 3, none⟩ = some (.int .i64 0) := (blk_cell BK418.out 3).trans rfl
 have hfs24 := blk_frozen BK418.out 3
 have hns24_0 := NB399_418.out
 have hns24_1 := NB400_418.out
 have hns24_3 := NB419_418.out
 have hms24_0 := NB418_399.out
 have hms24_1 := NB418_400.out
 have hms24_3 := NB418_419.out
 refine skip_ (w1 := ?_) (by rfl) rfl ?_ ?_
 rotate_left
 ·go_simp
  rfl
 refine hK.out _ _ ⟨((cell_far (p := ⟨gb418, _, none⟩) NB399_418.out _).trans (((cell_far (p := ⟨gb418, _, none⟩) NB399_418.out _).trans (((cell_far (p := ⟨gb418, _, none⟩) NB399_418.out _).trans (((cell_far (p := ⟨gb418, _, none⟩) NB399_418.out _).trans (hHeld.1)))))))), ((cell_far (p := ⟨gb418, _, none⟩) NB399_418.out _).trans (((cell_far (p := ⟨gb418, _, none⟩) NB399_418.out _).trans (((cell_far (p := ⟨gb418, _, none⟩) NB399_418.out _).trans (((cell_far (p := ⟨gb418, _, none⟩) NB399_418.out _).trans (hHeld.2.1)))))))), ((cell_far (p := ⟨gb418, _, none⟩) NB399_418.out _).trans (((cell_far (p := ⟨gb418, _, none⟩) NB399_418.out _).trans (((cell_far (p := ⟨gb418, _, none⟩) NB399_418.out _).trans (((cell_far (p := ⟨gb418, _, none⟩) NB399_418.out _).trans (hHeld.2.2.1)))))))), ((cell_far (p := ⟨gb418, _, none⟩) NB399_418.out _).trans (((cell_far (p := ⟨gb418, _, none⟩) NB399_418.out _).trans (((cell_far (p := ⟨gb418, _, none⟩) NB399_418.out _).trans (((cell_far (p := ⟨gb418, _, none⟩) NB399_418.out _).trans (hHeld.2.2.2.1)))))))), ((cell_far (p := ⟨gb418, _, none⟩) NB400_418.out _).trans (((cell_far (p := ⟨gb418, _, none⟩) NB400_418.out _).trans (((cell_far (p := ⟨gb418, _, none⟩) NB400_418.out _).trans (((cell_far (p := ⟨gb418, _, none⟩) NB400_418.out _).trans (hHeld.2.2.2.2.1)))))))), ((cell_far (p := ⟨gb418, _, none⟩) NB400_418.out _).trans (((cell_far (p := ⟨gb418, _, none⟩) NB400_418.out _).trans (((cell_far (p := ⟨gb418, _, none⟩) NB400_418.out _).trans (((cell_far (p := ⟨gb418, _, none⟩) NB400_418.out _).trans (hHeld.2.2.2.2.2.1)))))))), ((cell_far (p := ⟨gb418, _, none⟩) NB400_418.out _).trans (((cell_far (p := ⟨gb418, _, none⟩) NB400_418.out _).trans (((cell_far (p := ⟨gb418, _, none⟩) NB400_418.out _).trans (((cell_far (p := ⟨gb418, _, none⟩) NB400_418.out _).trans (hHeld.2.2.2.2.2.2.1)))))))), ((cell_far (p := ⟨gb418, _, none⟩) NB400_418.out _).trans (((cell_far (p := ⟨gb418, _, none⟩) NB400_418.out _).trans (((cell_far (p := ⟨gb418, _, none⟩) NB400_418.out _).trans (((cell_far (p := ⟨gb418, _, none⟩) NB400_418.out _).trans (hHeld.2.2.2.2.2.2.2))))))))⟩ (fun hHeld => ?_)
 clear hK K
 refine oN 14 fun K hK => ?_
 have hs25 : w20.cell? ⟨gb419, 0, none⟩ = some (.int .i64 0) := (blk_cell BK419.out 0).trans rfl
 have hfs25 := blk_frozen BK419.out 0
 have hns25_0 := NB399_419.out
 have hns25_1 := NB400_419.out
 have hns25_2 := NB418_419.out
 have hms25_0 := NB419_399.out
 have hms25_1 := NB419_400.out
 have hms25_2 := NB419_418.out
 have hs26 : w20.cell? ⟨gb419, 1, none⟩ = some (.int .i64 0) := (blk_cell BK419.out 1).trans rfl
 have hfs26 := blk_frozen BK419.out 1
 have hns26_0 := NB399_419.out
 have hns26_1 := NB400_419.out
 have hns26_2 := NB418_419.out
 have hms26_0 := NB419_399.out
 have hms26_1 := NB419_400.out
 have hms26_2 := NB419_418.out
 have hs27 : w20.cell? ⟨gb419, 2, none⟩ = some (.int .i64 0) := (blk_cell BK419.out 2).trans rfl
 have hfs27 := blk_frozen BK419.out 2
 have hns27_0 := NB399_419.out
 have hns27_1 := NB400_419.out
 have hns27_2 := NB418_419.out
 have hms27_0 := NB419_399.out
 have hms27_1 := NB419_400.out
 have hms27_2 := NB419_418.out
 have hs28 : w20.cell? ⟨gb419, 3, none⟩ = some (.int .i64 0) := (blk_cell BK419.out 3).trans rfl
 have hfs28 := blk_frozen BK419.out 3
 have hns28_0 := NB399_419.out
 have hns28_1 := NB400_419.out
 have hns28_2 := NB418_419.out
 have hms28_0 := NB419_399.out
 have hms28_1 := NB419_400.out
 have hms28_2 := NB419_418.out
 refine skip_ (w1 := ?_) (by rfl) rfl ?_ ?_
 rotate_left
 ·go_simp
  rfl
 refine hK.out _ _ ⟨((cell_far (p := ⟨gb419, _, none⟩) NB399_419.out _).trans (((cell_far (p := ⟨gb419, _, none⟩) NB399_419.out _).trans (((cell_far (p := ⟨gb419, _, none⟩) NB399_419.out _).trans (((cell_far (p := ⟨gb419, _, none⟩) NB399_419.out _).trans (hHeld.1)))))))), ((cell_far (p := ⟨gb419, _, none⟩) NB399_419.out _).trans (((cell_far (p := ⟨gb419, _, none⟩) NB399_419.out _).trans (((cell_far (p := ⟨gb419, _, none⟩) NB399_419.out _).trans (((cell_far (p := ⟨gb419, _, none⟩) NB399_419.out _).trans (hHeld.2.1)))))))), ((cell_far (p := ⟨gb419, _, none⟩) NB399_419.out _).trans (((cell_far (p := ⟨gb419, _, none⟩) NB399_419.out _).trans (((cell_far (p := ⟨gb419, _, none⟩) NB399_419.out _).trans (((cell_far (p := ⟨gb419, _, none⟩) NB399_419.out _).trans (hHeld.2.2.1)))))))), ((cell_far (p := ⟨gb419, _, none⟩) NB399_419.out _).trans (((cell_far (p := ⟨gb419, _, none⟩) NB399_419.out _).trans (((cell_far (p := ⟨gb419, _, none⟩) NB399_419.out _).trans (((cell_far (p := ⟨gb419, _, none⟩) NB399_419.out _).trans (hHeld.2.2.2.1)))))))), ((cell_far (p := ⟨gb419, _, none⟩) NB400_419.out _).trans (((cell_far (p := ⟨gb419, _, none⟩) NB400_419.out _).trans (((cell_far (p := ⟨gb419, _, none⟩) NB400_419.out _).trans (((cell_far (p := ⟨gb419, _, none⟩) NB400_419.out _).trans (hHeld.2.2.2.2.1)))))))), ((cell_far (p := ⟨gb419, _, none⟩) NB400_419.out _).trans (((cell_far (p := ⟨gb419, _, none⟩) NB400_419.out _).trans (((cell_far (p := ⟨gb419, _, none⟩) NB400_419.out _).trans (((cell_far (p := ⟨gb419, _, none⟩) NB400_419.out _).trans (hHeld.2.2.2.2.2.1)))))))), ((cell_far (p := ⟨gb419, _, none⟩) NB400_419.out _).trans (((cell_far (p := ⟨gb419, _, none⟩) NB400_419.out _).trans (((cell_far (p := ⟨gb419, _, none⟩) NB400_419.out _).trans (((cell_far (p := ⟨gb419, _, none⟩) NB400_419.out _).trans (hHeld.2.2.2.2.2.2.1)))))))), ((cell_far (p := ⟨gb419, _, none⟩) NB400_419.out _).trans (((cell_far (p := ⟨gb419, _, none⟩) NB400_419.out _).trans (((cell_far (p := ⟨gb419, _, none⟩) NB400_419.out _).trans (((cell_far (p := ⟨gb419, _, none⟩) NB400_419.out _).trans (hHeld.2.2.2.2.2.2.2))))))))⟩ (fun hHeld => ?_)
 clear hK K
 refine pz 15 11 ?_
 refine done_ (done_of HT_.out (by kernel_rfl)) ?_
 try go_wp2
 have n0_ : Aside0 (((((((((w20.setCell ⟨gb418, 0, none⟩ (.int .i64 t409)).setCell ⟨gb418, 1, none⟩ (.int .i64 t410)).setCell ⟨gb418, 2, none⟩ (.int .i64 t411)).setCell ⟨gb418, 3, none⟩ (.int .i64 t412)).setCell ⟨gb419, 0, none⟩ (.int .i64 t413)).setCell ⟨gb419, 1, none⟩ (.int .i64 t414)).setCell ⟨gb419, 2, none⟩ (.int .i64 t415)).setCell ⟨gb419, 3, none⟩ (.int .i64 t416)).heap[gb399]? = some (.cells #[.int .i64 a1_0, .int .i64 a1_1, .int .i64 a1_2, .int .i64 a1_3] 23 (0, 0))) := ⟨by refine fq ?_ NB399_419.out; refine fq ?_ NB399_419.out; refine fq ?_ NB399_419.out; refine fq ?_ NB399_419.out; refine fq ?_ NB399_418.out; refine fq ?_ NB399_418.out; refine fq ?_ NB399_418.out; refine fq ?_ NB399_418.out; exact bq BK399.out⟩
 have n1_ : Aside0 (((((((((w20.setCell ⟨gb418, 0, none⟩ (.int .i64 t409)).setCell ⟨gb418, 1, none⟩ (.int .i64 t410)).setCell ⟨gb418, 2, none⟩ (.int .i64 t411)).setCell ⟨gb418, 3, none⟩ (.int .i64 t412)).setCell ⟨gb419, 0, none⟩ (.int .i64 t413)).setCell ⟨gb419, 1, none⟩ (.int .i64 t414)).setCell ⟨gb419, 2, none⟩ (.int .i64 t415)).setCell ⟨gb419, 3, none⟩ (.int .i64 t416)).heap[gb400]? = some (.cells #[.int .i64 a2_0, .int .i64 a2_1, .int .i64 a2_2, .int .i64 a2_3] 23 (0, 0))) := ⟨by refine fq ?_ NB400_419.out; refine fq ?_ NB400_419.out; refine fq ?_ NB400_419.out; refine fq ?_ NB400_419.out; refine fq ?_ NB400_418.out; refine fq ?_ NB400_418.out; refine fq ?_ NB400_418.out; refine fq ?_ NB400_418.out; exact bq BK400.out⟩
 have n2_ : Aside0 (((((((((w20.setCell ⟨gb418, 0, none⟩ (.int .i64 t409)).setCell ⟨gb418, 1, none⟩ (.int .i64 t410)).setCell ⟨gb418, 2, none⟩ (.int .i64 t411)).setCell ⟨gb418, 3, none⟩ (.int .i64 t412)).setCell ⟨gb419, 0, none⟩ (.int .i64 t413)).setCell ⟨gb419, 1, none⟩ (.int .i64 t414)).setCell ⟨gb419, 2, none⟩ (.int .i64 t415)).setCell ⟨gb419, 3, none⟩ (.int .i64 t416)).heap[gb418]? = some (.cells #[.int .i64 t409, .int .i64 t410, .int .i64 t411, .int .i64 t412] 24 (0, 0))) := ⟨by refine fq ?_ NB418_419.out; refine fq ?_ NB418_419.out; refine fq ?_ NB418_419.out; refine fq ?_ NB418_419.out; refine bq ?_; refine blk_put (cs := #[.int .i64 t409, .int .i64 t410, .int .i64 t411, .int .i64 0]) ?_ 3 _ rfl; refine bq ?_; refine blk_put (cs := #[.int .i64 t409, .int .i64 t410, .int .i64 0, .int .i64 0]) ?_ 2 _ rfl; refine bq ?_; refine blk_put (cs := #[.int .i64 t409, .int .i64 0, .int .i64 0, .int .i64 0]) ?_ 1 _ rfl; refine bq ?_; refine blk_put (cs := #[.int .i64 0, .int .i64 0, .int .i64 0, .int .i64 0]) ?_ 0 _ rfl; exact bq BK418.out⟩
 have n3_ : Aside0 (((((((((w20.setCell ⟨gb418, 0, none⟩ (.int .i64 t409)).setCell ⟨gb418, 1, none⟩ (.int .i64 t410)).setCell ⟨gb418, 2, none⟩ (.int .i64 t411)).setCell ⟨gb418, 3, none⟩ (.int .i64 t412)).setCell ⟨gb419, 0, none⟩ (.int .i64 t413)).setCell ⟨gb419, 1, none⟩ (.int .i64 t414)).setCell ⟨gb419, 2, none⟩ (.int .i64 t415)).setCell ⟨gb419, 3, none⟩ (.int .i64 t416)).heap[gb419]? = some (.cells #[.int .i64 t413, .int .i64 t414, .int .i64 t415, .int .i64 t416] 24 (0, 0))) := ⟨by refine bq ?_; refine blk_put (cs := #[.int .i64 t413, .int .i64 t414, .int .i64 t415, .int .i64 0]) ?_ 3 _ rfl; refine bq ?_; refine blk_put (cs := #[.int .i64 t413, .int .i64 t414, .int .i64 0, .int .i64 0]) ?_ 2 _ rfl; refine bq ?_; refine blk_put (cs := #[.int .i64 t413, .int .i64 0, .int .i64 0, .int .i64 0]) ?_ 1 _ rfl; refine bq ?_; refine blk_put (cs := #[.int .i64 0, .int .i64 0, .int .i64 0, .int .i64 0]) ?_ 0 _ rfl; refine fq ?_ NB419_418.out; refine fq ?_ NB419_418.out; refine fq ?_ NB419_418.out; refine fq ?_ NB419_418.out; exact bq BK419.out⟩
 have n4_ : Aside0 (Below w.heap.size w ((((((((w20.setCell ⟨gb418, 0, none⟩ (.int .i64 t409)).setCell ⟨gb418, 1, none⟩ (.int .i64 t410)).setCell ⟨gb418, 2, none⟩ (.int .i64 t411)).setCell ⟨gb418, 3, none⟩ (.int .i64 t412)).setCell ⟨gb419, 0, none⟩ (.int .i64 t413)).setCell ⟨gb419, 1, none⟩ (.int .i64 t414)).setCell ⟨gb419, 2, none⟩ (.int .i64 t415)).setCell ⟨gb419, 3, none⟩ (.int .i64 t416))) := ⟨zB⟩
 (try clear BK399)
 (try clear BK400)
 (try clear BK418)
 (try clear BK419)
 (try clear HB)
 generalize ((((((((w20.setCell ⟨gb418, 0, none⟩ (.int .i64 t409)).setCell ⟨gb418, 1, none⟩ (.int .i64 t410)).setCell ⟨gb418, 2, none⟩ (.int .i64 t411)).setCell ⟨gb418, 3, none⟩ (.int .i64 t412)).setCell ⟨gb419, 0, none⟩ (.int .i64 t413)).setCell ⟨gb419, 1, none⟩ (.int .i64 t414)).setCell ⟨gb419, 2, none⟩ (.int .i64 t415)).setCell ⟨gb419, 3, none⟩ (.int .i64 t416)) = w29 at n0_ n1_ n2_ n3_ n4_ ⊢
 have BK399 := n0_
 have BK400 := n1_
 have BK418 := n2_
 have BK419 := n3_
 have HB := n4_
 clear n0_ n1_ n2_ n3_ n4_
 replace BK399 := Aside0.mk (blk_drew BK399.out)
 replace BK400 := Aside0.mk (blk_drew BK400.out)
 replace BK418 := Aside0.mk (blk_drew BK418.out)
 replace BK419 := Aside0.mk (blk_drew BK419.out)
 replace HB := Aside0.mk (below_drew1 HB.out)
 refine start_ (n := 16) (S := fun w' => w'.cell? ⟨gb399, 0, none⟩ = some (.int .i64 a1_0) ∧ w'.cell? ⟨gb399, 1, none⟩ = some (.int .i64 a1_1) ∧ w'.cell? ⟨gb399, 2, none⟩ = some (.int .i64 a1_2) ∧ w'.cell? ⟨gb399, 3, none⟩ = some (.int .i64 a1_3) ∧ w'.cell? ⟨gb400, 0, none⟩ = some (.int .i64 a2_0) ∧ w'.cell? ⟨gb400, 1, none⟩ = some (.int .i64 a2_1) ∧ w'.cell? ⟨gb400, 2, none⟩ = some (.int .i64 a2_2) ∧ w'.cell? ⟨gb400, 3, none⟩ = some (.int .i64 a2_3)) (ds := []) #[false, false, false, false, false, false, false, false, false, false, false, false, false, false, false, false] (by kernel_rfl) rfl rfl ⟨(blk_cell BK399.out 0).trans rfl, (blk_cell BK399.out 1).trans rfl, (blk_cell BK399.out 2).trans rfl, (blk_cell BK399.out 3).trans rfl, (blk_cell BK400.out 0).trans rfl, (blk_cell BK400.out 1).trans rfl, (blk_cell BK400.out 2).trans rfl, (blk_cell BK400.out 3).trans rfl⟩ (fun hHeld => ?_); refine with_tabW laws_FnExactRangeBranch.tab2 laws_FnExactRangeBranch.bits2 (fun HT_ HW_ => ?_)
 generalize w29.drew = w30 at BK399 BK400 BK418 BK419 HB hHeld ⊢
 refine pz 0 27 ?_
 refine pz 5 32 ?_
 refine tz 1 28 ?_
 refine tz 3 30 ?_
 refine join_ (σ := Nat × Nat) 3 #[true, true, true, true, true, true, true, true, true, true, true, true, true, false, false, false] (fun s_ => [(29, .agg #[.int .i64 t420, .int .i64 t421, .int .i64 t422, .int .i64 t423]), (31, .agg #[.int .i64 t424, .int .i64 t425, .int .i64 t426, .int .i64 t427]), (33, .tuple #[.agg #[.int .i64 t428, .int .i64 t429, .int .i64 t430, .int .i64 t431], .agg #[.int .i64 t432, .int .i64 t433, .int .i64 t434, .int .i64 t435], .bool t436]), (12, .pointer (some ⟨s_.1, 0, none⟩)), (13, .pointer (some ⟨s_.2, 0, none⟩)), (26, .tuple #[.agg #[.int .i64 t428, .int .i64 t429, .int .i64 t430, .int .i64 t431], .agg #[.int .i64 t432, .int .i64 t433, .int .i64 t434, .int .i64 t435], .bool t436]), (34, .agg #[.int .i64 t428, .int .i64 t429, .int .i64 t430, .int .i64 t431]), (35, .agg #[.int .i64 t432, .int .i64 t433, .int .i64 t434, .int .i64 t435]), (36, .bool t436)]) (fun s_ w' => (w'.cell? ⟨gb399, 0, none⟩ = some (.int .i64 a1_0) ∧ w'.cell? ⟨gb399, 1, none⟩ = some (.int .i64 a1_1) ∧ w'.cell? ⟨gb399, 2, none⟩ = some (.int .i64 a1_2) ∧ w'.cell? ⟨gb399, 3, none⟩ = some (.int .i64 a1_3) ∧ w'.cell? ⟨gb400, 0, none⟩ = some (.int .i64 a2_0) ∧ w'.cell? ⟨gb400, 1, none⟩ = some (.int .i64 a2_1) ∧ w'.cell? ⟨gb400, 2, none⟩ = some (.int .i64 a2_2) ∧ w'.cell? ⟨gb400, 3, none⟩ = some (.int .i64 a2_3)) ∧ (w'.heap[gb399]? = some (.cells #[.int .i64 a1_0, .int .i64 a1_1, .int .i64 a1_2, .int .i64 a1_3] 23 (0, 0))) ∧ (w'.heap[gb400]? = some (.cells #[.int .i64 a2_0, .int .i64 a2_1, .int .i64 a2_2, .int .i64 a2_3] 23 (0, 0))) ∧ (w'.heap[gb418]? = some (.cells #[.int .i64 t409, .int .i64 t410, .int .i64 t411, .int .i64 t412] 24 (0, 0))) ∧ (w'.heap[gb419]? = some (.cells #[.int .i64 t413, .int .i64 t414, .int .i64 t415, .int .i64 t416] 24 (0, 0))) ∧ (w'.heap[s_.1]? = some (.cells #[.int .i64 0, .int .i64 0, .int .i64 0, .int .i64 0] 24 (0, 0))) ∧ (w'.heap[s_.2]? = some (.cells #[.int .i64 0, .int .i64 0, .int .i64 0, .int .i64 0] 24 (0, 0))) ∧ (w.heap.size ≤ s_.1) ∧ (w.heap.size ≤ s_.1) ∧ (gb399 ≠ s_.1) ∧ (s_.1 ≠ gb399) ∧ (gb400 ≠ s_.1) ∧ (s_.1 ≠ gb400) ∧ (gb418 ≠ s_.1) ∧ (s_.1 ≠ gb418) ∧ (gb419 ≠ s_.1) ∧ (s_.1 ≠ gb419) ∧ (s_.2 ≠ s_.1) ∧ (s_.1 ≠ s_.2) ∧ (w.heap.size ≤ s_.2) ∧ (w.heap.size ≤ s_.2) ∧ (gb399 ≠ s_.2) ∧ (s_.2 ≠ gb399) ∧ (gb400 ≠ s_.2) ∧ (s_.2 ≠ gb400) ∧ (gb418 ≠ s_.2) ∧ (s_.2 ≠ gb418) ∧ (gb419 ≠ s_.2) ∧ (s_.2 ≠ gb419) ∧ (Below w.heap.size w w')) ?_ ?_
 rotate_left
 ·intro hJ2_4_6_11_12
  refine join_ (σ := Nat) 4 #[true, true, true, true, true, true, true, true, true, true, true, true, false, false, false, false] (fun s_ => [(29, .agg #[.int .i64 t420, .int .i64 t421, .int .i64 t422, .int .i64 t423]), (31, .agg #[.int .i64 t424, .int .i64 t425, .int .i64 t426, .int .i64 t427]), (33, .tuple #[.agg #[.int .i64 t428, .int .i64 t429, .int .i64 t430, .int .i64 t431], .agg #[.int .i64 t432, .int .i64 t433, .int .i64 t434, .int .i64 t435], .bool t436]), (12, .pointer (some ⟨s_, 0, none⟩)), (26, .tuple #[.agg #[.int .i64 t428, .int .i64 t429, .int .i64 t430, .int .i64 t431], .agg #[.int .i64 t432, .int .i64 t433, .int .i64 t434, .int .i64 t435], .bool t436]), (34, .agg #[.int .i64 t428, .int .i64 t429, .int .i64 t430, .int .i64 t431]), (35, .agg #[.int .i64 t432, .int .i64 t433, .int .i64 t434, .int .i64 t435]), (36, .bool t436)]) (fun s_ w' => (w'.cell? ⟨gb399, 0, none⟩ = some (.int .i64 a1_0) ∧ w'.cell? ⟨gb399, 1, none⟩ = some (.int .i64 a1_1) ∧ w'.cell? ⟨gb399, 2, none⟩ = some (.int .i64 a1_2) ∧ w'.cell? ⟨gb399, 3, none⟩ = some (.int .i64 a1_3) ∧ w'.cell? ⟨gb400, 0, none⟩ = some (.int .i64 a2_0) ∧ w'.cell? ⟨gb400, 1, none⟩ = some (.int .i64 a2_1) ∧ w'.cell? ⟨gb400, 2, none⟩ = some (.int .i64 a2_2) ∧ w'.cell? ⟨gb400, 3, none⟩ = some (.int .i64 a2_3)) ∧ (w'.heap[gb399]? = some (.cells #[.int .i64 a1_0, .int .i64 a1_1, .int .i64 a1_2, .int .i64 a1_3] 23 (0, 0))) ∧ (w'.heap[gb400]? = some (.cells #[.int .i64 a2_0, .int .i64 a2_1, .int .i64 a2_2, .int .i64 a2_3] 23 (0, 0))) ∧ (w'.heap[gb418]? = some (.cells #[.int .i64 t409, .int .i64 t410, .int .i64 t411, .int .i64 t412] 24 (0, 0))) ∧ (w'.heap[gb419]? = some (.cells #[.int .i64 t413, .int .i64 t414, .int .i64 t415, .int .i64 t416] 24 (0, 0))) ∧ (w'.heap[s_]? = some (.cells #[.int .i64 0, .int .i64 0, .int .i64 0, .int .i64 0] 24 (0, 0))) ∧ (w.heap.size ≤ s_) ∧ (w.heap.size ≤ s_) ∧ (gb399 ≠ s_) ∧ (s_ ≠ gb399) ∧ (gb400 ≠ s_) ∧ (s_ ≠ gb400) ∧ (gb418 ≠ s_) ∧ (s_ ≠ gb418) ∧ (gb419 ≠ s_) ∧ (s_ ≠ gb419) ∧ (Below w.heap.size w w')) ?_ ?_
  rotate_left
  ·intro hJ2_4_6_11
   refine join_ (σ := Nat) 4 #[true, true, true, true, true, true, true, true, true, true, true, false, true, false, false, false] (fun s_ => [(29, .agg #[.int .i64 t420, .int .i64 t421, .int .i64 t422, .int .i64 t423]), (31, .agg #[.int .i64 t424, .int .i64 t425, .int .i64 t426, .int .i64 t427]), (33, .tuple #[.agg #[.int .i64 t428, .int .i64 t429, .int .i64 t430, .int .i64 t431], .agg #[.int .i64 t432, .int .i64 t433, .int .i64 t434, .int .i64 t435], .bool t436]), (13, .pointer (some ⟨s_, 0, none⟩)), (26, .tuple #[.agg #[.int .i64 t428, .int .i64 t429, .int .i64 t430, .int .i64 t431], .agg #[.int .i64 t432, .int .i64 t433, .int .i64 t434, .int .i64 t435], .bool t436]), (34, .agg #[.int .i64 t428, .int .i64 t429, .int .i64 t430, .int .i64 t431]), (35, .agg #[.int .i64 t432, .int .i64 t433, .int .i64 t434, .int .i64 t435]), (36, .bool t436)]) (fun s_ w' => (w'.cell? ⟨gb399, 0, none⟩ = some (.int .i64 a1_0) ∧ w'.cell? ⟨gb399, 1, none⟩ = some (.int .i64 a1_1) ∧ w'.cell? ⟨gb399, 2, none⟩ = some (.int .i64 a1_2) ∧ w'.cell? ⟨gb399, 3, none⟩ = some (.int .i64 a1_3) ∧ w'.cell? ⟨gb400, 0, none⟩ = some (.int .i64 a2_0) ∧ w'.cell? ⟨gb400, 1, none⟩ = some (.int .i64 a2_1) ∧ w'.cell? ⟨gb400, 2, none⟩ = some (.int .i64 a2_2) ∧ w'.cell? ⟨gb400, 3, none⟩ = some (.int .i64 a2_3)) ∧ (w'.heap[gb399]? = some (.cells #[.int .i64 a1_0, .int .i64 a1_1, .int .i64 a1_2, .int .i64 a1_3] 23 (0, 0))) ∧ (w'.heap[gb400]? = some (.cells #[.int .i64 a2_0, .int .i64 a2_1, .int .i64 a2_2, .int .i64 a2_3] 23 (0, 0))) ∧ (w'.heap[gb418]? = some (.cells #[.int .i64 t409, .int .i64 t410, .int .i64 t411, .int .i64 t412] 24 (0, 0))) ∧ (w'.heap[gb419]? = some (.cells #[.int .i64 t413, .int .i64 t414, .int .i64 t415, .int .i64 t416] 24 (0, 0))) ∧ (w'.heap[s_]? = some (.cells #[.int .i64 0, .int .i64 0, .int .i64 0, .int .i64 0] 24 (0, 0))) ∧ (w.heap.size ≤ s_) ∧ (w.heap.size ≤ s_) ∧ (gb399 ≠ s_) ∧ (s_ ≠ gb399) ∧ (gb400 ≠ s_) ∧ (s_ ≠ gb400) ∧ (gb418 ≠ s_) ∧ (s_ ≠ gb418) ∧ (gb419 ≠ s_) ∧ (s_ ≠ gb419) ∧ (Below w.heap.size w w')) ?_ ?_
   rotate_left
   ·intro hJ2_4_6_12
    refine join_ (σ := Nat × Nat) 8 #[true, true, true, true, true, true, false, false, false, false, false, true, true, false, false, false] (fun s_ => [(29, .agg #[.int .i64 t420, .int .i64 t421, .int .i64 t422, .int .i64 t423]), (31, .agg #[.int .i64 t424, .int .i64 t425, .int .i64 t426, .int .i64 t427]), (12, .pointer (some ⟨s_.1, 0, none⟩)), (13, .pointer (some ⟨s_.2, 0, none⟩))]) (fun s_ w' => (w'.cell? ⟨gb399, 0, none⟩ = some (.int .i64 a1_0) ∧ w'.cell? ⟨gb399, 1, none⟩ = some (.int .i64 a1_1) ∧ w'.cell? ⟨gb399, 2, none⟩ = some (.int .i64 a1_2) ∧ w'.cell? ⟨gb399, 3, none⟩ = some (.int .i64 a1_3) ∧ w'.cell? ⟨gb400, 0, none⟩ = some (.int .i64 a2_0) ∧ w'.cell? ⟨gb400, 1, none⟩ = some (.int .i64 a2_1) ∧ w'.cell? ⟨gb400, 2, none⟩ = some (.int .i64 a2_2) ∧ w'.cell? ⟨gb400, 3, none⟩ = some (.int .i64 a2_3)) ∧ (w'.heap[gb399]? = some (.cells #[.int .i64 a1_0, .int .i64 a1_1, .int .i64 a1_2, .int .i64 a1_3] 23 (0, 0))) ∧ (w'.heap[gb400]? = some (.cells #[.int .i64 a2_0, .int .i64 a2_1, .int .i64 a2_2, .int .i64 a2_3] 23 (0, 0))) ∧ (w'.heap[gb418]? = some (.cells #[.int .i64 t409, .int .i64 t410, .int .i64 t411, .int .i64 t412] 24 (0, 0))) ∧ (w'.heap[gb419]? = some (.cells #[.int .i64 t413, .int .i64 t414, .int .i64 t415, .int .i64 t416] 24 (0, 0))) ∧ (w'.heap[s_.1]? = some (.cells #[.int .i64 0, .int .i64 0, .int .i64 0, .int .i64 0] 24 (0, 0))) ∧ (w'.heap[s_.2]? = some (.cells #[.int .i64 0, .int .i64 0, .int .i64 0, .int .i64 0] 24 (0, 0))) ∧ (w.heap.size ≤ s_.1) ∧ (w.heap.size ≤ s_.1) ∧ (gb399 ≠ s_.1) ∧ (s_.1 ≠ gb399) ∧ (gb400 ≠ s_.1) ∧ (s_.1 ≠ gb400) ∧ (gb418 ≠ s_.1) ∧ (s_.1 ≠ gb418) ∧ (gb419 ≠ s_.1) ∧ (s_.1 ≠ gb419) ∧ (s_.2 ≠ s_.1) ∧ (s_.1 ≠ s_.2) ∧ (w.heap.size ≤ s_.2) ∧ (w.heap.size ≤ s_.2) ∧ (gb399 ≠ s_.2) ∧ (s_.2 ≠ gb399) ∧ (gb400 ≠ s_.2) ∧ (s_.2 ≠ gb400) ∧ (gb418 ≠ s_.2) ∧ (s_.2 ≠ gb418) ∧ (gb419 ≠ s_.2) ∧ (s_.2 ≠ gb419) ∧ (Below w.heap.size w w')) ?_ ?_
    rotate_left
    ·intro hJ2_4_11_12
     refine join_ (σ := Unit) 5 #[true, true, true, true, true, true, true, true, true, true, true, false, false, false, false, false] (fun s_ => [(29, .agg #[.int .i64 t420, .int .i64 t421, .int .i64 t422, .int .i64 t423]), (31, .agg #[.int .i64 t424, .int .i64 t425, .int .i64 t426, .int .i64 t427]), (33, .tuple #[.agg #[.int .i64 t428, .int .i64 t429, .int .i64 t430, .int .i64 t431], .agg #[.int .i64 t432, .int .i64 t433, .int .i64 t434, .int .i64 t435], .bool t436]), (26, .tuple #[.agg #[.int .i64 t428, .int .i64 t429, .int .i64 t430, .int .i64 t431], .agg #[.int .i64 t432, .int .i64 t433, .int .i64 t434, .int .i64 t435], .bool t436]), (34, .agg #[.int .i64 t428, .int .i64 t429, .int .i64 t430, .int .i64 t431]), (35, .agg #[.int .i64 t432, .int .i64 t433, .int .i64 t434, .int .i64 t435]), (36, .bool t436)]) (fun s_ w' => (w'.cell? ⟨gb399, 0, none⟩ = some (.int .i64 a1_0) ∧ w'.cell? ⟨gb399, 1, none⟩ = some (.int .i64 a1_1) ∧ w'.cell? ⟨gb399, 2, none⟩ = some (.int .i64 a1_2) ∧ w'.cell? ⟨gb399, 3, none⟩ = some (.int .i64 a1_3) ∧ w'.cell? ⟨gb400, 0, none⟩ = some (.int .i64 a2_0) ∧ w'.cell? ⟨gb400, 1, none⟩ = some (.int .i64 a2_1) ∧ w'.cell? ⟨gb400, 2, none⟩ = some (.int .i64 a2_2) ∧ w'.cell? ⟨gb400, 3, none⟩ = some (.int .i64 a2_3)) ∧ (w'.heap[gb399]? = some (.cells #[.int .i64 a1_0, .int .i64 a1_1, .int .i64 a1_2, .int .i64 a1_3] 23 (0, 0))) ∧ (w'.heap[gb400]? = some (.cells #[.int .i64 a2_0, .int .i64 a2_1, .int .i64 a2_2, .int .i64 a2_3] 23 (0, 0))) ∧ (w'.heap[gb418]? = some (.cells #[.int .i64 t409, .int .i64 t410, .int .i64 t411, .int .i64 t412] 24 (0, 0))) ∧ (w'.heap[gb419]? = some (.cells #[.int .i64 t413, .int .i64 t414, .int .i64 t415, .int .i64 t416] 24 (0, 0))) ∧ (Below w.heap.size w w')) ?_ ?_
     rotate_left
     ·intro hJ2_4_6
      refine join_ (σ := Nat) 9 #[true, true, true, true, true, true, false, false, false, false, false, true, false, false, false, false] (fun s_ => [(29, .agg #[.int .i64 t420, .int .i64 t421, .int .i64 t422, .int .i64 t423]), (31, .agg #[.int .i64 t424, .int .i64 t425, .int .i64 t426, .int .i64 t427]), (12, .pointer (some ⟨s_, 0, none⟩))]) (fun s_ w' => (w'.cell? ⟨gb399, 0, none⟩ = some (.int .i64 a1_0) ∧ w'.cell? ⟨gb399, 1, none⟩ = some (.int .i64 a1_1) ∧ w'.cell? ⟨gb399, 2, none⟩ = some (.int .i64 a1_2) ∧ w'.cell? ⟨gb399, 3, none⟩ = some (.int .i64 a1_3) ∧ w'.cell? ⟨gb400, 0, none⟩ = some (.int .i64 a2_0) ∧ w'.cell? ⟨gb400, 1, none⟩ = some (.int .i64 a2_1) ∧ w'.cell? ⟨gb400, 2, none⟩ = some (.int .i64 a2_2) ∧ w'.cell? ⟨gb400, 3, none⟩ = some (.int .i64 a2_3)) ∧ (w'.heap[gb399]? = some (.cells #[.int .i64 a1_0, .int .i64 a1_1, .int .i64 a1_2, .int .i64 a1_3] 23 (0, 0))) ∧ (w'.heap[gb400]? = some (.cells #[.int .i64 a2_0, .int .i64 a2_1, .int .i64 a2_2, .int .i64 a2_3] 23 (0, 0))) ∧ (w'.heap[gb418]? = some (.cells #[.int .i64 t409, .int .i64 t410, .int .i64 t411, .int .i64 t412] 24 (0, 0))) ∧ (w'.heap[gb419]? = some (.cells #[.int .i64 t413, .int .i64 t414, .int .i64 t415, .int .i64 t416] 24 (0, 0))) ∧ (w'.heap[s_]? = some (.cells #[.int .i64 0, .int .i64 0, .int .i64 0, .int .i64 0] 24 (0, 0))) ∧ (w.heap.size ≤ s_) ∧ (w.heap.size ≤ s_) ∧ (gb399 ≠ s_) ∧ (s_ ≠ gb399) ∧ (gb400 ≠ s_) ∧ (s_ ≠ gb400) ∧ (gb418 ≠ s_) ∧ (s_ ≠ gb418) ∧ (gb419 ≠ s_) ∧ (s_ ≠ gb419) ∧ (Below w.heap.size w w')) ?_ ?_
      rotate_left
      ·intro hJ2_4_11
       refine join_ (σ := Nat) 9 #[true, true, true, true, true, true, false, false, false, false, false, false, true, false, false, false] (fun s_ => [(29, .agg #[.int .i64 t420, .int .i64 t421, .int .i64 t422, .int .i64 t423]), (31, .agg #[.int .i64 t424, .int .i64 t425, .int .i64 t426, .int .i64 t427]), (13, .pointer (some ⟨s_, 0, none⟩))]) (fun s_ w' => (w'.cell? ⟨gb399, 0, none⟩ = some (.int .i64 a1_0) ∧ w'.cell? ⟨gb399, 1, none⟩ = some (.int .i64 a1_1) ∧ w'.cell? ⟨gb399, 2, none⟩ = some (.int .i64 a1_2) ∧ w'.cell? ⟨gb399, 3, none⟩ = some (.int .i64 a1_3) ∧ w'.cell? ⟨gb400, 0, none⟩ = some (.int .i64 a2_0) ∧ w'.cell? ⟨gb400, 1, none⟩ = some (.int .i64 a2_1) ∧ w'.cell? ⟨gb400, 2, none⟩ = some (.int .i64 a2_2) ∧ w'.cell? ⟨gb400, 3, none⟩ = some (.int .i64 a2_3)) ∧ (w'.heap[gb399]? = some (.cells #[.int .i64 a1_0, .int .i64 a1_1, .int .i64 a1_2, .int .i64 a1_3] 23 (0, 0))) ∧ (w'.heap[gb400]? = some (.cells #[.int .i64 a2_0, .int .i64 a2_1, .int .i64 a2_2, .int .i64 a2_3] 23 (0, 0))) ∧ (w'.heap[gb418]? = some (.cells #[.int .i64 t409, .int .i64 t410, .int .i64 t411, .int .i64 t412] 24 (0, 0))) ∧ (w'.heap[gb419]? = some (.cells #[.int .i64 t413, .int .i64 t414, .int .i64 t415, .int .i64 t416] 24 (0, 0))) ∧ (w'.heap[s_]? = some (.cells #[.int .i64 0, .int .i64 0, .int .i64 0, .int .i64 0] 24 (0, 0))) ∧ (w.heap.size ≤ s_) ∧ (w.heap.size ≤ s_) ∧ (gb399 ≠ s_) ∧ (s_ ≠ gb399) ∧ (gb400 ≠ s_) ∧ (s_ ≠ gb400) ∧ (gb418 ≠ s_) ∧ (s_ ≠ gb418) ∧ (gb419 ≠ s_) ∧ (s_ ≠ gb419) ∧ (Below w.heap.size w w')) ?_ ?_
       rotate_left
       ·intro hJ2_4_12
        refine join_ (σ := Nat × Nat) 9 #[true, true, true, true, false, true, false, false, false, false, false, true, true, false, false, false] (fun s_ => [(29, .agg #[.int .i64 t420, .int .i64 t421, .int .i64 t422, .int .i64 t423]), (12, .pointer (some ⟨s_.1, 0, none⟩)), (13, .pointer (some ⟨s_.2, 0, none⟩))]) (fun s_ w' => (w'.cell? ⟨gb399, 0, none⟩ = some (.int .i64 a1_0) ∧ w'.cell? ⟨gb399, 1, none⟩ = some (.int .i64 a1_1) ∧ w'.cell? ⟨gb399, 2, none⟩ = some (.int .i64 a1_2) ∧ w'.cell? ⟨gb399, 3, none⟩ = some (.int .i64 a1_3) ∧ w'.cell? ⟨gb400, 0, none⟩ = some (.int .i64 a2_0) ∧ w'.cell? ⟨gb400, 1, none⟩ = some (.int .i64 a2_1) ∧ w'.cell? ⟨gb400, 2, none⟩ = some (.int .i64 a2_2) ∧ w'.cell? ⟨gb400, 3, none⟩ = some (.int .i64 a2_3)) ∧ (w'.heap[gb399]? = some (.cells #[.int .i64 a1_0, .int .i64 a1_1, .int .i64 a1_2, .int .i64 a1_3] 23 (0, 0))) ∧ (w'.heap[gb400]? = some (.cells #[.int .i64 a2_0, .int .i64 a2_1, .int .i64 a2_2, .int .i64 a2_3] 23 (0, 0))) ∧ (w'.heap[gb418]? = some (.cells #[.int .i64 t409, .int .i64 t410, .int .i64 t411, .int .i64 t412] 24 (0, 0))) ∧ (w'.heap[gb419]? = some (.cells #[.int .i64 t413, .int .i64 t414, .int .i64 t415, .int .i64 t416] 24 (0, 0))) ∧ (w'.heap[s_.1]? = some (.cells #[.int .i64 0, .int .i64 0, .int .i64 0, .int .i64 0] 24 (0, 0))) ∧ (w'.heap[s_.2]? = some (.cells #[.int .i64 0, .int .i64 0, .int .i64 0, .int .i64 0] 24 (0, 0))) ∧ (w.heap.size ≤ s_.1) ∧ (w.heap.size ≤ s_.1) ∧ (gb399 ≠ s_.1) ∧ (s_.1 ≠ gb399) ∧ (gb400 ≠ s_.1) ∧ (s_.1 ≠ gb400) ∧ (gb418 ≠ s_.1) ∧ (s_.1 ≠ gb418) ∧ (gb419 ≠ s_.1) ∧ (s_.1 ≠ gb419) ∧ (s_.2 ≠ s_.1) ∧ (s_.1 ≠ s_.2) ∧ (w.heap.size ≤ s_.2) ∧ (w.heap.size ≤ s_.2) ∧ (gb399 ≠ s_.2) ∧ (s_.2 ≠ gb399) ∧ (gb400 ≠ s_.2) ∧ (s_.2 ≠ gb400) ∧ (gb418 ≠ s_.2) ∧ (s_.2 ≠ gb418) ∧ (gb419 ≠ s_.2) ∧ (s_.2 ≠ gb419) ∧ (Below w.heap.size w w')) ?_ ?_
        rotate_left
        ·intro hJ2_11_12
         refine join_ (σ := Unit) 10 #[true, true, true, true, true, true, false, false, false, false, false, false, false, false, false, false] (fun s_ => [(29, .agg #[.int .i64 t420, .int .i64 t421, .int .i64 t422, .int .i64 t423]), (31, .agg #[.int .i64 t424, .int .i64 t425, .int .i64 t426, .int .i64 t427])]) (fun s_ w' => (w'.cell? ⟨gb399, 0, none⟩ = some (.int .i64 a1_0) ∧ w'.cell? ⟨gb399, 1, none⟩ = some (.int .i64 a1_1) ∧ w'.cell? ⟨gb399, 2, none⟩ = some (.int .i64 a1_2) ∧ w'.cell? ⟨gb399, 3, none⟩ = some (.int .i64 a1_3) ∧ w'.cell? ⟨gb400, 0, none⟩ = some (.int .i64 a2_0) ∧ w'.cell? ⟨gb400, 1, none⟩ = some (.int .i64 a2_1) ∧ w'.cell? ⟨gb400, 2, none⟩ = some (.int .i64 a2_2) ∧ w'.cell? ⟨gb400, 3, none⟩ = some (.int .i64 a2_3)) ∧ (w'.heap[gb399]? = some (.cells #[.int .i64 a1_0, .int .i64 a1_1, .int .i64 a1_2, .int .i64 a1_3] 23 (0, 0))) ∧ (w'.heap[gb400]? = some (.cells #[.int .i64 a2_0, .int .i64 a2_1, .int .i64 a2_2, .int .i64 a2_3] 23 (0, 0))) ∧ (w'.heap[gb418]? = some (.cells #[.int .i64 t409, .int .i64 t410, .int .i64 t411, .int .i64 t412] 24 (0, 0))) ∧ (w'.heap[gb419]? = some (.cells #[.int .i64 t413, .int .i64 t414, .int .i64 t415, .int .i64 t416] 24 (0, 0))) ∧ (Below w.heap.size w w')) ?_ ?_
         rotate_left
         ·intro hJ2_4
          refine join_ (σ := Nat) 10 #[true, true, true, true, false, true, false, false, false, false, false, true, false, false, false, false] (fun s_ => [(29, .agg #[.int .i64 t420, .int .i64 t421, .int .i64 t422, .int .i64 t423]), (12, .pointer (some ⟨s_, 0, none⟩))]) (fun s_ w' => (w'.cell? ⟨gb399, 0, none⟩ = some (.int .i64 a1_0) ∧ w'.cell? ⟨gb399, 1, none⟩ = some (.int .i64 a1_1) ∧ w'.cell? ⟨gb399, 2, none⟩ = some (.int .i64 a1_2) ∧ w'.cell? ⟨gb399, 3, none⟩ = some (.int .i64 a1_3) ∧ w'.cell? ⟨gb400, 0, none⟩ = some (.int .i64 a2_0) ∧ w'.cell? ⟨gb400, 1, none⟩ = some (.int .i64 a2_1) ∧ w'.cell? ⟨gb400, 2, none⟩ = some (.int .i64 a2_2) ∧ w'.cell? ⟨gb400, 3, none⟩ = some (.int .i64 a2_3)) ∧ (w'.heap[gb399]? = some (.cells #[.int .i64 a1_0, .int .i64 a1_1, .int .i64 a1_2, .int .i64 a1_3] 23 (0, 0))) ∧ (w'.heap[gb400]? = some (.cells #[.int .i64 a2_0, .int .i64 a2_1, .int .i64 a2_2, .int .i64 a2_3] 23 (0, 0))) ∧ (w'.heap[gb418]? = some (.cells #[.int .i64 t409, .int .i64 t410, .int .i64 t411, .int .i64 t412] 24 (0, 0))) ∧ (w'.heap[gb419]? = some (.cells #[.int .i64 t413, .int .i64 t414, .int .i64 t415, .int .i64 t416] 24 (0, 0))) ∧ (w'.heap[s_]? = some (.cells #[.int .i64 0, .int .i64 0, .int .i64 0, .int .i64 0] 24 (0, 0))) ∧ (w.heap.size ≤ s_) ∧ (w.heap.size ≤ s_) ∧ (gb399 ≠ s_) ∧ (s_ ≠ gb399) ∧ (gb400 ≠ s_) ∧ (s_ ≠ gb400) ∧ (gb418 ≠ s_) ∧ (s_ ≠ gb418) ∧ (gb419 ≠ s_) ∧ (s_ ≠ gb419) ∧ (Below w.heap.size w w')) ?_ ?_
          rotate_left
          ·intro hJ2_11
           refine join_ (σ := Nat) 10 #[true, true, true, true, false, true, false, false, false, false, false, false, true, false, false, false] (fun s_ => [(29, .agg #[.int .i64 t420, .int .i64 t421, .int .i64 t422, .int .i64 t423]), (13, .pointer (some ⟨s_, 0, none⟩))]) (fun s_ w' => (w'.cell? ⟨gb399, 0, none⟩ = some (.int .i64 a1_0) ∧ w'.cell? ⟨gb399, 1, none⟩ = some (.int .i64 a1_1) ∧ w'.cell? ⟨gb399, 2, none⟩ = some (.int .i64 a1_2) ∧ w'.cell? ⟨gb399, 3, none⟩ = some (.int .i64 a1_3) ∧ w'.cell? ⟨gb400, 0, none⟩ = some (.int .i64 a2_0) ∧ w'.cell? ⟨gb400, 1, none⟩ = some (.int .i64 a2_1) ∧ w'.cell? ⟨gb400, 2, none⟩ = some (.int .i64 a2_2) ∧ w'.cell? ⟨gb400, 3, none⟩ = some (.int .i64 a2_3)) ∧ (w'.heap[gb399]? = some (.cells #[.int .i64 a1_0, .int .i64 a1_1, .int .i64 a1_2, .int .i64 a1_3] 23 (0, 0))) ∧ (w'.heap[gb400]? = some (.cells #[.int .i64 a2_0, .int .i64 a2_1, .int .i64 a2_2, .int .i64 a2_3] 23 (0, 0))) ∧ (w'.heap[gb418]? = some (.cells #[.int .i64 t409, .int .i64 t410, .int .i64 t411, .int .i64 t412] 24 (0, 0))) ∧ (w'.heap[gb419]? = some (.cells #[.int .i64 t413, .int .i64 t414, .int .i64 t415, .int .i64 t416] 24 (0, 0))) ∧ (w'.heap[s_]? = some (.cells #[.int .i64 0, .int .i64 0, .int .i64 0, .int .i64 0] 24 (0, 0))) ∧ (w.heap.size ≤ s_) ∧ (w.heap.size ≤ s_) ∧ (gb399 ≠ s_) ∧ (s_ ≠ gb399) ∧ (gb400 ≠ s_) ∧ (s_ ≠ gb400) ∧ (gb418 ≠ s_) ∧ (s_ ≠ gb418) ∧ (gb419 ≠ s_) ∧ (s_ ≠ gb419) ∧ (Below w.heap.size w w')) ?_ ?_
           rotate_left
           ·intro hJ2_12
            refine join_ (σ := Nat × Nat) 10 #[true, true, false, true, false, true, false, false, false, false, false, true, true, false, false, false] (fun s_ => [(12, .pointer (some ⟨s_.1, 0, none⟩)), (13, .pointer (some ⟨s_.2, 0, none⟩))]) (fun s_ w' => (w'.cell? ⟨gb399, 0, none⟩ = some (.int .i64 a1_0) ∧ w'.cell? ⟨gb399, 1, none⟩ = some (.int .i64 a1_1) ∧ w'.cell? ⟨gb399, 2, none⟩ = some (.int .i64 a1_2) ∧ w'.cell? ⟨gb399, 3, none⟩ = some (.int .i64 a1_3) ∧ w'.cell? ⟨gb400, 0, none⟩ = some (.int .i64 a2_0) ∧ w'.cell? ⟨gb400, 1, none⟩ = some (.int .i64 a2_1) ∧ w'.cell? ⟨gb400, 2, none⟩ = some (.int .i64 a2_2) ∧ w'.cell? ⟨gb400, 3, none⟩ = some (.int .i64 a2_3)) ∧ (w'.heap[gb399]? = some (.cells #[.int .i64 a1_0, .int .i64 a1_1, .int .i64 a1_2, .int .i64 a1_3] 23 (0, 0))) ∧ (w'.heap[gb400]? = some (.cells #[.int .i64 a2_0, .int .i64 a2_1, .int .i64 a2_2, .int .i64 a2_3] 23 (0, 0))) ∧ (w'.heap[gb418]? = some (.cells #[.int .i64 t409, .int .i64 t410, .int .i64 t411, .int .i64 t412] 24 (0, 0))) ∧ (w'.heap[gb419]? = some (.cells #[.int .i64 t413, .int .i64 t414, .int .i64 t415, .int .i64 t416] 24 (0, 0))) ∧ (w'.heap[s_.1]? = some (.cells #[.int .i64 0, .int .i64 0, .int .i64 0, .int .i64 0] 24 (0, 0))) ∧ (w'.heap[s_.2]? = some (.cells #[.int .i64 0, .int .i64 0, .int .i64 0, .int .i64 0] 24 (0, 0))) ∧ (w.heap.size ≤ s_.1) ∧ (w.heap.size ≤ s_.1) ∧ (gb399 ≠ s_.1) ∧ (s_.1 ≠ gb399) ∧ (gb400 ≠ s_.1) ∧ (s_.1 ≠ gb400) ∧ (gb418 ≠ s_.1) ∧ (s_.1 ≠ gb418) ∧ (gb419 ≠ s_.1) ∧ (s_.1 ≠ gb419) ∧ (s_.2 ≠ s_.1) ∧ (s_.1 ≠ s_.2) ∧ (w.heap.size ≤ s_.2) ∧ (w.heap.size ≤ s_.2) ∧ (gb399 ≠ s_.2) ∧ (s_.2 ≠ gb399) ∧ (gb400 ≠ s_.2) ∧ (s_.2 ≠ gb400) ∧ (gb418 ≠ s_.2) ∧ (s_.2 ≠ gb418) ∧ (gb419 ≠ s_.2) ∧ (s_.2 ≠ gb419) ∧ (Below w.heap.size w w')) ?_ ?_
            rotate_left
            ·intro hJ11_12
             refine join_ (σ := Unit) 11 #[true, true, true, true, false, true, false, false, false, false, false, false, false, false, false, false] (fun s_ => [(29, .agg #[.int .i64 t420, .int .i64 t421, .int .i64 t422, .int .i64 t423])]) (fun s_ w' => (w'.cell? ⟨gb399, 0, none⟩ = some (.int .i64 a1_0) ∧ w'.cell? ⟨gb399, 1, none⟩ = some (.int .i64 a1_1) ∧ w'.cell? ⟨gb399, 2, none⟩ = some (.int .i64 a1_2) ∧ w'.cell? ⟨gb399, 3, none⟩ = some (.int .i64 a1_3) ∧ w'.cell? ⟨gb400, 0, none⟩ = some (.int .i64 a2_0) ∧ w'.cell? ⟨gb400, 1, none⟩ = some (.int .i64 a2_1) ∧ w'.cell? ⟨gb400, 2, none⟩ = some (.int .i64 a2_2) ∧ w'.cell? ⟨gb400, 3, none⟩ = some (.int .i64 a2_3)) ∧ (w'.heap[gb399]? = some (.cells #[.int .i64 a1_0, .int .i64 a1_1, .int .i64 a1_2, .int .i64 a1_3] 23 (0, 0))) ∧ (w'.heap[gb400]? = some (.cells #[.int .i64 a2_0, .int .i64 a2_1, .int .i64 a2_2, .int .i64 a2_3] 23 (0, 0))) ∧ (w'.heap[gb418]? = some (.cells #[.int .i64 t409, .int .i64 t410, .int .i64 t411, .int .i64 t412] 24 (0, 0))) ∧ (w'.heap[gb419]? = some (.cells #[.int .i64 t413, .int .i64 t414, .int .i64 t415, .int .i64 t416] 24 (0, 0))) ∧ (Below w.heap.size w w')) ?_ ?_
             rotate_left
             ·intro hJ2
              refine join_ (σ := Nat) 11 #[true, true, false, true, false, true, false, false, false, false, false, true, false, false, false, false] (fun s_ => [(12, .pointer (some ⟨s_, 0, none⟩))]) (fun s_ w' => (w'.cell? ⟨gb399, 0, none⟩ = some (.int .i64 a1_0) ∧ w'.cell? ⟨gb399, 1, none⟩ = some (.int .i64 a1_1) ∧ w'.cell? ⟨gb399, 2, none⟩ = some (.int .i64 a1_2) ∧ w'.cell? ⟨gb399, 3, none⟩ = some (.int .i64 a1_3) ∧ w'.cell? ⟨gb400, 0, none⟩ = some (.int .i64 a2_0) ∧ w'.cell? ⟨gb400, 1, none⟩ = some (.int .i64 a2_1) ∧ w'.cell? ⟨gb400, 2, none⟩ = some (.int .i64 a2_2) ∧ w'.cell? ⟨gb400, 3, none⟩ = some (.int .i64 a2_3)) ∧ (w'.heap[gb399]? = some (.cells #[.int .i64 a1_0, .int .i64 a1_1, .int .i64 a1_2, .int .i64 a1_3] 23 (0, 0))) ∧ (w'.heap[gb400]? = some (.cells #[.int .i64 a2_0, .int .i64 a2_1, .int .i64 a2_2, .int .i64 a2_3] 23 (0, 0))) ∧ (w'.heap[gb418]? = some (.cells #[.int .i64 t409, .int .i64 t410, .int .i64 t411, .int .i64 t412] 24 (0, 0))) ∧ (w'.heap[gb419]? = some (.cells #[.int .i64 t413, .int .i64 t414, .int .i64 t415, .int .i64 t416] 24 (0, 0))) ∧ (w'.heap[s_]? = some (.cells #[.int .i64 0, .int .i64 0, .int .i64 0, .int .i64 0] 24 (0, 0))) ∧ (w.heap.size ≤ s_) ∧ (w.heap.size ≤ s_) ∧ (gb399 ≠ s_) ∧ (s_ ≠ gb399) ∧ (gb400 ≠ s_) ∧ (s_ ≠ gb400) ∧ (gb418 ≠ s_) ∧ (s_ ≠ gb418) ∧ (gb419 ≠ s_) ∧ (s_ ≠ gb419) ∧ (Below w.heap.size w w')) ?_ ?_
              rotate_left
              ·intro hJ11
               refine join_ (σ := Nat) 11 #[true, true, false, true, false, true, false, false, false, false, false, false, true, false, false, false] (fun s_ => [(13, .pointer (some ⟨s_, 0, none⟩))]) (fun s_ w' => (w'.cell? ⟨gb399, 0, none⟩ = some (.int .i64 a1_0) ∧ w'.cell? ⟨gb399, 1, none⟩ = some (.int .i64 a1_1) ∧ w'.cell? ⟨gb399, 2, none⟩ = some (.int .i64 a1_2) ∧ w'.cell? ⟨gb399, 3, none⟩ = some (.int .i64 a1_3) ∧ w'.cell? ⟨gb400, 0, none⟩ = some (.int .i64 a2_0) ∧ w'.cell? ⟨gb400, 1, none⟩ = some (.int .i64 a2_1) ∧ w'.cell? ⟨gb400, 2, none⟩ = some (.int .i64 a2_2) ∧ w'.cell? ⟨gb400, 3, none⟩ = some (.int .i64 a2_3)) ∧ (w'.heap[gb399]? = some (.cells #[.int .i64 a1_0, .int .i64 a1_1, .int .i64 a1_2, .int .i64 a1_3] 23 (0, 0))) ∧ (w'.heap[gb400]? = some (.cells #[.int .i64 a2_0, .int .i64 a2_1, .int .i64 a2_2, .int .i64 a2_3] 23 (0, 0))) ∧ (w'.heap[gb418]? = some (.cells #[.int .i64 t409, .int .i64 t410, .int .i64 t411, .int .i64 t412] 24 (0, 0))) ∧ (w'.heap[gb419]? = some (.cells #[.int .i64 t413, .int .i64 t414, .int .i64 t415, .int .i64 t416] 24 (0, 0))) ∧ (w'.heap[s_]? = some (.cells #[.int .i64 0, .int .i64 0, .int .i64 0, .int .i64 0] 24 (0, 0))) ∧ (w.heap.size ≤ s_) ∧ (w.heap.size ≤ s_) ∧ (gb399 ≠ s_) ∧ (s_ ≠ gb399) ∧ (gb400 ≠ s_) ∧ (s_ ≠ gb400) ∧ (gb418 ≠ s_) ∧ (s_ ≠ gb418) ∧ (gb419 ≠ s_) ∧ (s_ ≠ gb419) ∧ (Below w.heap.size w w')) ?_ ?_
               rotate_left
               ·intro hJ12
                refine three_ (i := 2) (j := 11) (k := 12) (Ni := some 29) (Nj := some 12) (Nk := some 13) #[true, true, true, true, false, true, false, false, false, false, false, false, false, false, false, false] #[true, true, false, true, false, true, false, false, false, false, false, true, false, false, false, false] #[true, true, false, true, false, true, false, false, false, false, false, false, true, false, false, false] rfl rfl rfl rfl rfl rfl (three_of HT_.out (by kernel_rfl)) (by decide) (by decide) (by decide) (fun K hK => ?_) (fun K hK => ?_) (fun K hK => ?_)
                ·skip
                 refine gz Try.func5 #[.agg #[.int .i64 a1_0, .int .i64 a1_1, .int .i64 a1_2, .int .i64 a1_3]] ?_
                 with_reducible refine (laws_toRange.calls a1_0 a1_1 a1_2 a1_3 t420 t421 t422 t423 _ A8.out).mono ?_
                 rintro e w31 ⟨rfl, hb⟩
                 refine ⟨_, rfl, ?_⟩
                 replace BK399 := zb BK399 hb rfl
                 replace BK400 := zb BK400 hb rfl
                 replace BK418 := zb BK418 hb rfl
                 replace BK419 := zb BK419 hb rfl
                 replace HB := zS hb
                 try clear hb
                 refine hK.out _ _ ⟨(blk_cell BK399.out 0).trans rfl, (blk_cell BK399.out 1).trans rfl, (blk_cell BK399.out 2).trans rfl, (blk_cell BK399.out 3).trans rfl, (blk_cell BK400.out 0).trans rfl, (blk_cell BK400.out 1).trans rfl, (blk_cell BK400.out 2).trans rfl, (blk_cell BK400.out 3).trans rfl⟩ (fun hHeld => ?_)
                 clear hK K
                 refine nz ?_
                 exact norm_ (by first | (simp only [putAll, Act.put, List.setIfInBounds_toArray, List.set_cons_zero, List.set_cons_succ]; done) | (simp only [putAll, Act.put, List.setIfInBounds_toArray, List.set_cons_zero, List.set_cons_succ]; rfl)) (hJ2 () _ ⟨hHeld, (by exact bq BK399.out), (by exact bq BK400.out), (by exact bq BK418.out), (by exact bq BK419.out), zB⟩)
                ·skip
                 refine box_step ?hg (N := 12) ?hd (cs := #[.int .i64 0, .int .i64 0, .int .i64 0, .int .i64 0]) (t := 24) ?hr ?_; (case hd => rfl); (case hg => rfl); (case hr => first | (go_simp; done) | (go_simp; rfl))
                 intro gb437 hg w31 hbox hb
                 have BK437 := Aside0.mk hbox
                 have GW437 := zW hg
                 have GE437 := zW hg
                 replace HB := zS hb
                 have NB399_437 := zl BK399 hg rfl
                 have NB437_399 := zg BK399 hg rfl
                 replace BK399 := zb BK399 hb rfl
                 have NB400_437 := zl BK400 hg rfl
                 have NB437_400 := zg BK400 hg rfl
                 replace BK400 := zb BK400 hb rfl
                 have NB418_437 := zl BK418 hg rfl
                 have NB437_418 := zg BK418 hg rfl
                 replace BK418 := zb BK418 hb rfl
                 have NB419_437 := zl BK419 hg rfl
                 have NB437_419 := zg BK419 hg rfl
                 replace BK419 := zb BK419 hb rfl
                 clear hb hbox hg
                 refine hK.out _ _ ⟨(blk_cell BK399.out 0).trans rfl, (blk_cell BK399.out 1).trans rfl, (blk_cell BK399.out 2).trans rfl, (blk_cell BK399.out 3).trans rfl, (blk_cell BK400.out 0).trans rfl, (blk_cell BK400.out 1).trans rfl, (blk_cell BK400.out 2).trans rfl, (blk_cell BK400.out 3).trans rfl⟩ (fun hHeld => ?_)
                 clear hK K
                 refine nz ?_
                 exact norm_ (by first | (simp only [putAll, Act.put, List.setIfInBounds_toArray, List.set_cons_zero, List.set_cons_succ]; done) | (simp only [putAll, Act.put, List.setIfInBounds_toArray, List.set_cons_zero, List.set_cons_succ]; rfl)) (hJ11 (gb437) _ ⟨hHeld, (by exact bq BK399.out), (by exact bq BK400.out), (by exact bq BK418.out), (by exact bq BK419.out), (by exact bq BK437.out), GW437.out, GE437.out, NB399_437.out, NB437_399.out, NB400_437.out, NB437_400.out, NB418_437.out, NB437_418.out, NB419_437.out, NB437_419.out, zB⟩)
                ·skip
                 refine box_step ?hg (N := 13) ?hd (cs := #[.int .i64 0, .int .i64 0, .int .i64 0, .int .i64 0]) (t := 24) ?hr ?_; (case hd => rfl); (case hg => rfl); (case hr => first | (go_simp; done) | (go_simp; rfl))
                 intro gb438 hg w31 hbox hb
                 have BK438 := Aside0.mk hbox
                 have GW438 := zW hg
                 have GE438 := zW hg
                 replace HB := zS hb
                 have NB399_438 := zl BK399 hg rfl
                 have NB438_399 := zg BK399 hg rfl
                 replace BK399 := zb BK399 hb rfl
                 have NB400_438 := zl BK400 hg rfl
                 have NB438_400 := zg BK400 hg rfl
                 replace BK400 := zb BK400 hb rfl
                 have NB418_438 := zl BK418 hg rfl
                 have NB438_418 := zg BK418 hg rfl
                 replace BK418 := zb BK418 hb rfl
                 have NB419_438 := zl BK419 hg rfl
                 have NB438_419 := zg BK419 hg rfl
                 replace BK419 := zb BK419 hb rfl
                 clear hb hbox hg
                 refine hK.out _ _ ⟨(blk_cell BK399.out 0).trans rfl, (blk_cell BK399.out 1).trans rfl, (blk_cell BK399.out 2).trans rfl, (blk_cell BK399.out 3).trans rfl, (blk_cell BK400.out 0).trans rfl, (blk_cell BK400.out 1).trans rfl, (blk_cell BK400.out 2).trans rfl, (blk_cell BK400.out 3).trans rfl⟩ (fun hHeld => ?_)
                 clear hK K
                 refine nz ?_
                 exact norm_ (by first | (simp only [putAll, Act.put, List.setIfInBounds_toArray, List.set_cons_zero, List.set_cons_succ]; done) | (simp only [putAll, Act.put, List.setIfInBounds_toArray, List.set_cons_zero, List.set_cons_succ]; rfl)) (hJ12 (gb438) _ ⟨hHeld, (by exact bq BK399.out), (by exact bq BK400.out), (by exact bq BK418.out), (by exact bq BK419.out), (by exact bq BK438.out), GW438.out, GE438.out, NB399_438.out, NB438_399.out, NB400_438.out, NB438_400.out, NB418_438.out, NB438_418.out, NB419_438.out, NB438_419.out, zB⟩)
               ·skip
                rintro gb438 w32 ⟨hS_, h0_, h1_, h2_, h3_, h4_, h5_, h6_, h7_, h8_, h9_, h10_, h11_, h12_, h13_, h14_, h15_⟩
                have n0_ : Aside0 (w32.heap[gb399]? = some (.cells #[.int .i64 a1_0, .int .i64 a1_1, .int .i64 a1_2, .int .i64 a1_3] 23 (0, 0))) := ⟨h0_⟩
                have n1_ : Aside0 (w32.heap[gb400]? = some (.cells #[.int .i64 a2_0, .int .i64 a2_1, .int .i64 a2_2, .int .i64 a2_3] 23 (0, 0))) := ⟨h1_⟩
                have n2_ : Aside0 (w32.heap[gb418]? = some (.cells #[.int .i64 t409, .int .i64 t410, .int .i64 t411, .int .i64 t412] 24 (0, 0))) := ⟨h2_⟩
                have n3_ : Aside0 (w32.heap[gb419]? = some (.cells #[.int .i64 t413, .int .i64 t414, .int .i64 t415, .int .i64 t416] 24 (0, 0))) := ⟨h3_⟩
                have n4_ : Aside0 (w32.heap[gb438]? = some (.cells #[.int .i64 0, .int .i64 0, .int .i64 0, .int .i64 0] 24 (0, 0))) := ⟨h4_⟩
                have n5_ : Aside0 (w.heap.size ≤ gb438) := ⟨h5_⟩
                have n6_ : Aside0 (w.heap.size ≤ gb438) := ⟨h6_⟩
                have n7_ : Aside0 (gb399 ≠ gb438) := ⟨h7_⟩
                have n8_ : Aside0 (gb438 ≠ gb399) := ⟨h8_⟩
                have n9_ : Aside0 (gb400 ≠ gb438) := ⟨h9_⟩
                have n10_ : Aside0 (gb438 ≠ gb400) := ⟨h10_⟩
                have n11_ : Aside0 (gb418 ≠ gb438) := ⟨h11_⟩
                have n12_ : Aside0 (gb438 ≠ gb418) := ⟨h12_⟩
                have n13_ : Aside0 (gb419 ≠ gb438) := ⟨h13_⟩
                have n14_ : Aside0 (gb438 ≠ gb419) := ⟨h14_⟩
                have n15_ : Aside0 (Below w.heap.size w w32) := ⟨h15_⟩
                clear BK399
                clear BK400
                clear BK418
                clear BK419
                clear HB
                clear h0_ h1_ h2_ h3_ h4_ h5_ h6_ h7_ h8_ h9_ h10_ h11_ h12_ h13_ h14_ h15_
                have BK399 := n0_
                have BK400 := n1_
                have BK418 := n2_
                have BK419 := n3_
                have BK438 := n4_
                have GW438 := n5_
                have GE438 := n6_
                have NB399_438 := n7_
                have NB438_399 := n8_
                have NB400_438 := n9_
                have NB438_400 := n10_
                have NB418_438 := n11_
                have NB438_418 := n12_
                have NB419_438 := n13_
                have NB438_419 := n14_
                have HB := n15_
                clear n0_ n1_ n2_ n3_ n4_ n5_ n6_ n7_ n8_ n9_ n10_ n11_ n12_ n13_ n14_ n15_
                have hHeld : w32.cell? ⟨gb399, 0, none⟩ = some (.int .i64 a1_0) ∧ w32.cell? ⟨gb399, 1, none⟩ = some (.int .i64 a1_1) ∧ w32.cell? ⟨gb399, 2, none⟩ = some (.int .i64 a1_2) ∧ w32.cell? ⟨gb399, 3, none⟩ = some (.int .i64 a1_3) ∧ w32.cell? ⟨gb400, 0, none⟩ = some (.int .i64 a2_0) ∧ w32.cell? ⟨gb400, 1, none⟩ = some (.int .i64 a2_1) ∧ w32.cell? ⟨gb400, 2, none⟩ = some (.int .i64 a2_2) ∧ w32.cell? ⟨gb400, 3, none⟩ = some (.int .i64 a2_3) := hS_
                refine norm_ (a' := ?_) ?_ ?_
                rotate_left
                ·simp only [putAll, Act.put, List.setIfInBounds_toArray, List.set_cons_zero, List.set_cons_succ]
                 rfl
                refine two_ (i := 2) (j := 11) (Ni := some 29) (Nj := some 12) #[true, true, true, true, false, true, false, false, false, false, false, false, true, false, false, false] #[true, true, false, true, false, true, false, false, false, false, false, true, true, false, false, false] rfl rfl rfl rfl (two_of HT_.out (by kernel_rfl)) (by decide) (by decide) (fun K hK => ?_) (fun K hK => ?_)
                ·skip
                 refine gz Try.func5 #[.agg #[.int .i64 a1_0, .int .i64 a1_1, .int .i64 a1_2, .int .i64 a1_3]] ?_
                 with_reducible refine (laws_toRange.calls a1_0 a1_1 a1_2 a1_3 t420 t421 t422 t423 _ A8.out).mono ?_
                 rintro e w33 ⟨rfl, hb⟩
                 refine ⟨_, rfl, ?_⟩
                 replace BK399 := zb BK399 hb rfl
                 replace BK400 := zb BK400 hb rfl
                 replace BK418 := zb BK418 hb rfl
                 replace BK419 := zb BK419 hb rfl
                 replace BK438 := zb BK438 hb rfl
                 replace HB := zS hb
                 try clear hb
                 refine hK.out _ _ ⟨(blk_cell BK399.out 0).trans rfl, (blk_cell BK399.out 1).trans rfl, (blk_cell BK399.out 2).trans rfl, (blk_cell BK399.out 3).trans rfl, (blk_cell BK400.out 0).trans rfl, (blk_cell BK400.out 1).trans rfl, (blk_cell BK400.out 2).trans rfl, (blk_cell BK400.out 3).trans rfl⟩ (fun hHeld => ?_)
                 clear hK K
                 refine nz ?_
                 exact norm_ (by first | (simp only [putAll, Act.put, List.setIfInBounds_toArray, List.set_cons_zero, List.set_cons_succ]; done) | (simp only [putAll, Act.put, List.setIfInBounds_toArray, List.set_cons_zero, List.set_cons_succ]; rfl)) (hJ2_12 (gb438) _ ⟨hHeld, (by exact bq BK399.out), (by exact bq BK400.out), (by exact bq BK418.out), (by exact bq BK419.out), (by exact bq BK438.out), GW438.out, GE438.out, NB399_438.out, NB438_399.out, NB400_438.out, NB438_400.out, NB418_438.out, NB438_418.out, NB419_438.out, NB438_419.out, zB⟩)
                ·skip
                 refine box_step ?hg (N := 12) ?hd (cs := #[.int .i64 0, .int .i64 0, .int .i64 0, .int .i64 0]) (t := 24) ?hr ?_; (case hd => rfl); (case hg => rfl); (case hr => first | (go_simp; done) | (go_simp; rfl))
                 intro gb437 hg w33 hbox hb
                 have BK437 := Aside0.mk hbox
                 have GW437 := zW hg
                 have GE437 := zW hg
                 replace HB := zS hb
                 have NB399_437 := zl BK399 hg rfl
                 have NB437_399 := zg BK399 hg rfl
                 replace BK399 := zb BK399 hb rfl
                 have NB400_437 := zl BK400 hg rfl
                 have NB437_400 := zg BK400 hg rfl
                 replace BK400 := zb BK400 hb rfl
                 have NB418_437 := zl BK418 hg rfl
                 have NB437_418 := zg BK418 hg rfl
                 replace BK418 := zb BK418 hb rfl
                 have NB419_437 := zl BK419 hg rfl
                 have NB437_419 := zg BK419 hg rfl
                 replace BK419 := zb BK419 hb rfl
                 have NB438_437 := zl BK438 hg rfl
                 have NB437_438 := zg BK438 hg rfl
                 replace BK438 := zb BK438 hb rfl
                 clear hb hbox hg
                 refine hK.out _ _ ⟨(blk_cell BK399.out 0).trans rfl, (blk_cell BK399.out 1).trans rfl, (blk_cell BK399.out 2).trans rfl, (blk_cell BK399.out 3).trans rfl, (blk_cell BK400.out 0).trans rfl, (blk_cell BK400.out 1).trans rfl, (blk_cell BK400.out 2).trans rfl, (blk_cell BK400.out 3).trans rfl⟩ (fun hHeld => ?_)
                 clear hK K
                 refine nz ?_
                 exact norm_ (by first | (simp only [putAll, Act.put, List.setIfInBounds_toArray, List.set_cons_zero, List.set_cons_succ]; done) | (simp only [putAll, Act.put, List.setIfInBounds_toArray, List.set_cons_zero, List.set_cons_succ]; rfl)) (hJ11_12 (gb437, gb438) _ ⟨hHeld, (by exact bq BK399.out), (by exact bq BK400.out), (by exact bq BK418.out), (by exact bq BK419.out), (by exact bq BK437.out), (by exact bq BK438.out), GW437.out, GE437.out, NB399_437.out, NB437_399.out, NB400_437.out, NB437_400.out, NB418_437.out, NB437_418.out, NB419_437.out, NB437_419.out, NB438_437.out, NB437_438.out, GW438.out, GE438.out, NB399_438.out, NB438_399.out, NB400_438.out, NB438_400.out, NB418_438.out, NB438_418.out, NB419_438.out, NB438_419.out, zB⟩)
              ·skip
               rintro gb437 w32 ⟨hS_, h0_, h1_, h2_, h3_, h4_, h5_, h6_, h7_, h8_, h9_, h10_, h11_, h12_, h13_, h14_, h15_⟩
               have n0_ : Aside0 (w32.heap[gb399]? = some (.cells #[.int .i64 a1_0, .int .i64 a1_1, .int .i64 a1_2, .int .i64 a1_3] 23 (0, 0))) := ⟨h0_⟩
               have n1_ : Aside0 (w32.heap[gb400]? = some (.cells #[.int .i64 a2_0, .int .i64 a2_1, .int .i64 a2_2, .int .i64 a2_3] 23 (0, 0))) := ⟨h1_⟩
               have n2_ : Aside0 (w32.heap[gb418]? = some (.cells #[.int .i64 t409, .int .i64 t410, .int .i64 t411, .int .i64 t412] 24 (0, 0))) := ⟨h2_⟩
               have n3_ : Aside0 (w32.heap[gb419]? = some (.cells #[.int .i64 t413, .int .i64 t414, .int .i64 t415, .int .i64 t416] 24 (0, 0))) := ⟨h3_⟩
               have n4_ : Aside0 (w32.heap[gb437]? = some (.cells #[.int .i64 0, .int .i64 0, .int .i64 0, .int .i64 0] 24 (0, 0))) := ⟨h4_⟩
               have n5_ : Aside0 (w.heap.size ≤ gb437) := ⟨h5_⟩
               have n6_ : Aside0 (w.heap.size ≤ gb437) := ⟨h6_⟩
               have n7_ : Aside0 (gb399 ≠ gb437) := ⟨h7_⟩
               have n8_ : Aside0 (gb437 ≠ gb399) := ⟨h8_⟩
               have n9_ : Aside0 (gb400 ≠ gb437) := ⟨h9_⟩
               have n10_ : Aside0 (gb437 ≠ gb400) := ⟨h10_⟩
               have n11_ : Aside0 (gb418 ≠ gb437) := ⟨h11_⟩
               have n12_ : Aside0 (gb437 ≠ gb418) := ⟨h12_⟩
               have n13_ : Aside0 (gb419 ≠ gb437) := ⟨h13_⟩
               have n14_ : Aside0 (gb437 ≠ gb419) := ⟨h14_⟩
               have n15_ : Aside0 (Below w.heap.size w w32) := ⟨h15_⟩
               clear BK399
               clear BK400
               clear BK418
               clear BK419
               clear HB
               clear h0_ h1_ h2_ h3_ h4_ h5_ h6_ h7_ h8_ h9_ h10_ h11_ h12_ h13_ h14_ h15_
               have BK399 := n0_
               have BK400 := n1_
               have BK418 := n2_
               have BK419 := n3_
               have BK437 := n4_
               have GW437 := n5_
               have GE437 := n6_
               have NB399_437 := n7_
               have NB437_399 := n8_
               have NB400_437 := n9_
               have NB437_400 := n10_
               have NB418_437 := n11_
               have NB437_418 := n12_
               have NB419_437 := n13_
               have NB437_419 := n14_
               have HB := n15_
               clear n0_ n1_ n2_ n3_ n4_ n5_ n6_ n7_ n8_ n9_ n10_ n11_ n12_ n13_ n14_ n15_
               have hHeld : w32.cell? ⟨gb399, 0, none⟩ = some (.int .i64 a1_0) ∧ w32.cell? ⟨gb399, 1, none⟩ = some (.int .i64 a1_1) ∧ w32.cell? ⟨gb399, 2, none⟩ = some (.int .i64 a1_2) ∧ w32.cell? ⟨gb399, 3, none⟩ = some (.int .i64 a1_3) ∧ w32.cell? ⟨gb400, 0, none⟩ = some (.int .i64 a2_0) ∧ w32.cell? ⟨gb400, 1, none⟩ = some (.int .i64 a2_1) ∧ w32.cell? ⟨gb400, 2, none⟩ = some (.int .i64 a2_2) ∧ w32.cell? ⟨gb400, 3, none⟩ = some (.int .i64 a2_3) := hS_
               refine norm_ (a' := ?_) ?_ ?_
               rotate_left
               ·simp only [putAll, Act.put, List.setIfInBounds_toArray, List.set_cons_zero, List.set_cons_succ]
                rfl
               refine two_ (i := 2) (j := 12) (Ni := some 29) (Nj := some 13) #[true, true, true, true, false, true, false, false, false, false, false, true, false, false, false, false] #[true, true, false, true, false, true, false, false, false, false, false, true, true, false, false, false] rfl rfl rfl rfl (two_of HT_.out (by kernel_rfl)) (by decide) (by decide) (fun K hK => ?_) (fun K hK => ?_)
               ·skip
                refine gz Try.func5 #[.agg #[.int .i64 a1_0, .int .i64 a1_1, .int .i64 a1_2, .int .i64 a1_3]] ?_
                with_reducible refine (laws_toRange.calls a1_0 a1_1 a1_2 a1_3 t420 t421 t422 t423 _ A8.out).mono ?_
                rintro e w33 ⟨rfl, hb⟩
                refine ⟨_, rfl, ?_⟩
                replace BK399 := zb BK399 hb rfl
                replace BK400 := zb BK400 hb rfl
                replace BK418 := zb BK418 hb rfl
                replace BK419 := zb BK419 hb rfl
                replace BK437 := zb BK437 hb rfl
                replace HB := zS hb
                try clear hb
                refine hK.out _ _ ⟨(blk_cell BK399.out 0).trans rfl, (blk_cell BK399.out 1).trans rfl, (blk_cell BK399.out 2).trans rfl, (blk_cell BK399.out 3).trans rfl, (blk_cell BK400.out 0).trans rfl, (blk_cell BK400.out 1).trans rfl, (blk_cell BK400.out 2).trans rfl, (blk_cell BK400.out 3).trans rfl⟩ (fun hHeld => ?_)
                clear hK K
                refine nz ?_
                exact norm_ (by first | (simp only [putAll, Act.put, List.setIfInBounds_toArray, List.set_cons_zero, List.set_cons_succ]; done) | (simp only [putAll, Act.put, List.setIfInBounds_toArray, List.set_cons_zero, List.set_cons_succ]; rfl)) (hJ2_11 (gb437) _ ⟨hHeld, (by exact bq BK399.out), (by exact bq BK400.out), (by exact bq BK418.out), (by exact bq BK419.out), (by exact bq BK437.out), GW437.out, GE437.out, NB399_437.out, NB437_399.out, NB400_437.out, NB437_400.out, NB418_437.out, NB437_418.out, NB419_437.out, NB437_419.out, zB⟩)
               ·skip
                refine box_step ?hg (N := 13) ?hd (cs := #[.int .i64 0, .int .i64 0, .int .i64 0, .int .i64 0]) (t := 24) ?hr ?_; (case hd => rfl); (case hg => rfl); (case hr => first | (go_simp; done) | (go_simp; rfl))
                intro gb438 hg w33 hbox hb
                have BK438 := Aside0.mk hbox
                have GW438 := zW hg
                have GE438 := zW hg
                replace HB := zS hb
                have NB399_438 := zl BK399 hg rfl
                have NB438_399 := zg BK399 hg rfl
                replace BK399 := zb BK399 hb rfl
                have NB400_438 := zl BK400 hg rfl
                have NB438_400 := zg BK400 hg rfl
                replace BK400 := zb BK400 hb rfl
                have NB418_438 := zl BK418 hg rfl
                have NB438_418 := zg BK418 hg rfl
                replace BK418 := zb BK418 hb rfl
                have NB419_438 := zl BK419 hg rfl
                have NB438_419 := zg BK419 hg rfl
                replace BK419 := zb BK419 hb rfl
                have NB437_438 := zl BK437 hg rfl
                have NB438_437 := zg BK437 hg rfl
                replace BK437 := zb BK437 hb rfl
                clear hb hbox hg
                refine hK.out _ _ ⟨(blk_cell BK399.out 0).trans rfl, (blk_cell BK399.out 1).trans rfl, (blk_cell BK399.out 2).trans rfl, (blk_cell BK399.out 3).trans rfl, (blk_cell BK400.out 0).trans rfl, (blk_cell BK400.out 1).trans rfl, (blk_cell BK400.out 2).trans rfl, (blk_cell BK400.out 3).trans rfl⟩ (fun hHeld => ?_)
                clear hK K
                refine nz ?_
                exact norm_ (by first | (simp only [putAll, Act.put, List.setIfInBounds_toArray, List.set_cons_zero, List.set_cons_succ]; done) | (simp only [putAll, Act.put, List.setIfInBounds_toArray, List.set_cons_zero, List.set_cons_succ]; rfl)) (hJ11_12 (gb437, gb438) _ ⟨hHeld, (by exact bq BK399.out), (by exact bq BK400.out), (by exact bq BK418.out), (by exact bq BK419.out), (by exact bq BK437.out), (by exact bq BK438.out), GW437.out, GE437.out, NB399_437.out, NB437_399.out, NB400_437.out, NB437_400.out, NB418_437.out, NB437_418.out, NB419_437.out, NB437_419.out, NB438_437.out, NB437_438.out, GW438.out, GE438.out, NB399_438.out, NB438_399.out, NB400_438.out, NB438_400.out, NB418_438.out, NB438_418.out, NB419_438.out, NB438_419.out, zB⟩)
             ·skip
              rintro _ w32 ⟨hS_, h0_, h1_, h2_, h3_, h4_⟩
              have n0_ : Aside0 (w32.heap[gb399]? = some (.cells #[.int .i64 a1_0, .int .i64 a1_1, .int .i64 a1_2, .int .i64 a1_3] 23 (0, 0))) := ⟨h0_⟩
              have n1_ : Aside0 (w32.heap[gb400]? = some (.cells #[.int .i64 a2_0, .int .i64 a2_1, .int .i64 a2_2, .int .i64 a2_3] 23 (0, 0))) := ⟨h1_⟩
              have n2_ : Aside0 (w32.heap[gb418]? = some (.cells #[.int .i64 t409, .int .i64 t410, .int .i64 t411, .int .i64 t412] 24 (0, 0))) := ⟨h2_⟩
              have n3_ : Aside0 (w32.heap[gb419]? = some (.cells #[.int .i64 t413, .int .i64 t414, .int .i64 t415, .int .i64 t416] 24 (0, 0))) := ⟨h3_⟩
              have n4_ : Aside0 (Below w.heap.size w w32) := ⟨h4_⟩
              clear BK399
              clear BK400
              clear BK418
              clear BK419
              clear HB
              clear h0_ h1_ h2_ h3_ h4_
              have BK399 := n0_
              have BK400 := n1_
              have BK418 := n2_
              have BK419 := n3_
              have HB := n4_
              clear n0_ n1_ n2_ n3_ n4_
              have hHeld : w32.cell? ⟨gb399, 0, none⟩ = some (.int .i64 a1_0) ∧ w32.cell? ⟨gb399, 1, none⟩ = some (.int .i64 a1_1) ∧ w32.cell? ⟨gb399, 2, none⟩ = some (.int .i64 a1_2) ∧ w32.cell? ⟨gb399, 3, none⟩ = some (.int .i64 a1_3) ∧ w32.cell? ⟨gb400, 0, none⟩ = some (.int .i64 a2_0) ∧ w32.cell? ⟨gb400, 1, none⟩ = some (.int .i64 a2_1) ∧ w32.cell? ⟨gb400, 2, none⟩ = some (.int .i64 a2_2) ∧ w32.cell? ⟨gb400, 3, none⟩ = some (.int .i64 a2_3) := hS_
              refine norm_ (a' := ?_) ?_ ?_
              rotate_left
              ·simp only [putAll, Act.put, List.setIfInBounds_toArray, List.set_cons_zero, List.set_cons_succ]
               rfl
              refine three_ (i := 4) (j := 11) (k := 12) (Ni := some 31) (Nj := some 12) (Nk := some 13) #[true, true, true, true, true, true, false, false, false, false, false, false, false, false, false, false] #[true, true, true, true, false, true, false, false, false, false, false, true, false, false, false, false] #[true, true, true, true, false, true, false, false, false, false, false, false, true, false, false, false] rfl rfl rfl rfl rfl rfl (three_of HT_.out (by kernel_rfl)) (by decide) (by decide) (by decide) (fun K hK => ?_) (fun K hK => ?_) (fun K hK => ?_)
              ·skip
               refine gz Try.func5 #[.agg #[.int .i64 a2_0, .int .i64 a2_1, .int .i64 a2_2, .int .i64 a2_3]] ?_
               with_reducible refine (laws_toRange.calls a2_0 a2_1 a2_2 a2_3 t424 t425 t426 t427 _ A9.out).mono ?_
               rintro e w33 ⟨rfl, hb⟩
               refine ⟨_, rfl, ?_⟩
               replace BK399 := zb BK399 hb rfl
               replace BK400 := zb BK400 hb rfl
               replace BK418 := zb BK418 hb rfl
               replace BK419 := zb BK419 hb rfl
               replace HB := zS hb
               try clear hb
               refine hK.out _ _ ⟨(blk_cell BK399.out 0).trans rfl, (blk_cell BK399.out 1).trans rfl, (blk_cell BK399.out 2).trans rfl, (blk_cell BK399.out 3).trans rfl, (blk_cell BK400.out 0).trans rfl, (blk_cell BK400.out 1).trans rfl, (blk_cell BK400.out 2).trans rfl, (blk_cell BK400.out 3).trans rfl⟩ (fun hHeld => ?_)
               clear hK K
               refine nz ?_
               exact norm_ (by first | (simp only [putAll, Act.put, List.setIfInBounds_toArray, List.set_cons_zero, List.set_cons_succ]; done) | (simp only [putAll, Act.put, List.setIfInBounds_toArray, List.set_cons_zero, List.set_cons_succ]; rfl)) (hJ2_4 () _ ⟨hHeld, (by exact bq BK399.out), (by exact bq BK400.out), (by exact bq BK418.out), (by exact bq BK419.out), zB⟩)
              ·skip
               refine box_step ?hg (N := 12) ?hd (cs := #[.int .i64 0, .int .i64 0, .int .i64 0, .int .i64 0]) (t := 24) ?hr ?_; (case hd => rfl); (case hg => rfl); (case hr => first | (go_simp; done) | (go_simp; rfl))
               intro gb437 hg w33 hbox hb
               have BK437 := Aside0.mk hbox
               have GW437 := zW hg
               have GE437 := zW hg
               replace HB := zS hb
               have NB399_437 := zl BK399 hg rfl
               have NB437_399 := zg BK399 hg rfl
               replace BK399 := zb BK399 hb rfl
               have NB400_437 := zl BK400 hg rfl
               have NB437_400 := zg BK400 hg rfl
               replace BK400 := zb BK400 hb rfl
               have NB418_437 := zl BK418 hg rfl
               have NB437_418 := zg BK418 hg rfl
               replace BK418 := zb BK418 hb rfl
               have NB419_437 := zl BK419 hg rfl
               have NB437_419 := zg BK419 hg rfl
               replace BK419 := zb BK419 hb rfl
               clear hb hbox hg
               refine hK.out _ _ ⟨(blk_cell BK399.out 0).trans rfl, (blk_cell BK399.out 1).trans rfl, (blk_cell BK399.out 2).trans rfl, (blk_cell BK399.out 3).trans rfl, (blk_cell BK400.out 0).trans rfl, (blk_cell BK400.out 1).trans rfl, (blk_cell BK400.out 2).trans rfl, (blk_cell BK400.out 3).trans rfl⟩ (fun hHeld => ?_)
               clear hK K
               refine nz ?_
               exact norm_ (by first | (simp only [putAll, Act.put, List.setIfInBounds_toArray, List.set_cons_zero, List.set_cons_succ]; done) | (simp only [putAll, Act.put, List.setIfInBounds_toArray, List.set_cons_zero, List.set_cons_succ]; rfl)) (hJ2_11 (gb437) _ ⟨hHeld, (by exact bq BK399.out), (by exact bq BK400.out), (by exact bq BK418.out), (by exact bq BK419.out), (by exact bq BK437.out), GW437.out, GE437.out, NB399_437.out, NB437_399.out, NB400_437.out, NB437_400.out, NB418_437.out, NB437_418.out, NB419_437.out, NB437_419.out, zB⟩)
              ·skip
               refine box_step ?hg (N := 13) ?hd (cs := #[.int .i64 0, .int .i64 0, .int .i64 0, .int .i64 0]) (t := 24) ?hr ?_; (case hd => rfl); (case hg => rfl); (case hr => first | (go_simp; done) | (go_simp; rfl))
               intro gb438 hg w33 hbox hb
               have BK438 := Aside0.mk hbox
               have GW438 := zW hg
               have GE438 := zW hg
               replace HB := zS hb
               have NB399_438 := zl BK399 hg rfl
               have NB438_399 := zg BK399 hg rfl
               replace BK399 := zb BK399 hb rfl
               have NB400_438 := zl BK400 hg rfl
               have NB438_400 := zg BK400 hg rfl
               replace BK400 := zb BK400 hb rfl
               have NB418_438 := zl BK418 hg rfl
               have NB438_418 := zg BK418 hg rfl
               replace BK418 := zb BK418 hb rfl
               have NB419_438 := zl BK419 hg rfl
               have NB438_419 := zg BK419 hg rfl
               replace BK419 := zb BK419 hb rfl
               clear hb hbox hg
               refine hK.out _ _ ⟨(blk_cell BK399.out 0).trans rfl, (blk_cell BK399.out 1).trans rfl, (blk_cell BK399.out 2).trans rfl, (blk_cell BK399.out 3).trans rfl, (blk_cell BK400.out 0).trans rfl, (blk_cell BK400.out 1).trans rfl, (blk_cell BK400.out 2).trans rfl, (blk_cell BK400.out 3).trans rfl⟩ (fun hHeld => ?_)
               clear hK K
               refine nz ?_
               exact norm_ (by first | (simp only [putAll, Act.put, List.setIfInBounds_toArray, List.set_cons_zero, List.set_cons_succ]; done) | (simp only [putAll, Act.put, List.setIfInBounds_toArray, List.set_cons_zero, List.set_cons_succ]; rfl)) (hJ2_12 (gb438) _ ⟨hHeld, (by exact bq BK399.out), (by exact bq BK400.out), (by exact bq BK418.out), (by exact bq BK419.out), (by exact bq BK438.out), GW438.out, GE438.out, NB399_438.out, NB438_399.out, NB400_438.out, NB438_400.out, NB418_438.out, NB438_418.out, NB419_438.out, NB438_419.out, zB⟩)
            ·skip
             rintro ⟨gb437, gb438⟩ w33 ⟨hS_, h0_, h1_, h2_, h3_, h4_, h5_, h6_, h7_, h8_, h9_, h10_, h11_, h12_, h13_, h14_, h15_, h16_, h17_, h18_, h19_, h20_, h21_, h22_, h23_, h24_, h25_, h26_, h27_, h28_⟩
             have n0_ : Aside0 (w33.heap[gb399]? = some (.cells #[.int .i64 a1_0, .int .i64 a1_1, .int .i64 a1_2, .int .i64 a1_3] 23 (0, 0))) := ⟨h0_⟩
             have n1_ : Aside0 (w33.heap[gb400]? = some (.cells #[.int .i64 a2_0, .int .i64 a2_1, .int .i64 a2_2, .int .i64 a2_3] 23 (0, 0))) := ⟨h1_⟩
             have n2_ : Aside0 (w33.heap[gb418]? = some (.cells #[.int .i64 t409, .int .i64 t410, .int .i64 t411, .int .i64 t412] 24 (0, 0))) := ⟨h2_⟩
             have n3_ : Aside0 (w33.heap[gb419]? = some (.cells #[.int .i64 t413, .int .i64 t414, .int .i64 t415, .int .i64 t416] 24 (0, 0))) := ⟨h3_⟩
             have n4_ : Aside0 (w33.heap[gb437]? = some (.cells #[.int .i64 0, .int .i64 0, .int .i64 0, .int .i64 0] 24 (0, 0))) := ⟨h4_⟩
             have n5_ : Aside0 (w33.heap[gb438]? = some (.cells #[.int .i64 0, .int .i64 0, .int .i64 0, .int .i64 0] 24 (0, 0))) := ⟨h5_⟩
             have n6_ : Aside0 (w.heap.size ≤ gb437) := ⟨h6_⟩
             have n7_ : Aside0 (w.heap.size ≤ gb437) := ⟨h7_⟩
             have n8_ : Aside0 (gb399 ≠ gb437) := ⟨h8_⟩
             have n9_ : Aside0 (gb437 ≠ gb399) := ⟨h9_⟩
             have n10_ : Aside0 (gb400 ≠ gb437) := ⟨h10_⟩
             have n11_ : Aside0 (gb437 ≠ gb400) := ⟨h11_⟩
             have n12_ : Aside0 (gb418 ≠ gb437) := ⟨h12_⟩
             have n13_ : Aside0 (gb437 ≠ gb418) := ⟨h13_⟩
             have n14_ : Aside0 (gb419 ≠ gb437) := ⟨h14_⟩
             have n15_ : Aside0 (gb437 ≠ gb419) := ⟨h15_⟩
             have n16_ : Aside0 (gb438 ≠ gb437) := ⟨h16_⟩
             have n17_ : Aside0 (gb437 ≠ gb438) := ⟨h17_⟩
             have n18_ : Aside0 (w.heap.size ≤ gb438) := ⟨h18_⟩
             have n19_ : Aside0 (w.heap.size ≤ gb438) := ⟨h19_⟩
             have n20_ : Aside0 (gb399 ≠ gb438) := ⟨h20_⟩
             have n21_ : Aside0 (gb438 ≠ gb399) := ⟨h21_⟩
             have n22_ : Aside0 (gb400 ≠ gb438) := ⟨h22_⟩
             have n23_ : Aside0 (gb438 ≠ gb400) := ⟨h23_⟩
             have n24_ : Aside0 (gb418 ≠ gb438) := ⟨h24_⟩
             have n25_ : Aside0 (gb438 ≠ gb418) := ⟨h25_⟩
             have n26_ : Aside0 (gb419 ≠ gb438) := ⟨h26_⟩
             have n27_ : Aside0 (gb438 ≠ gb419) := ⟨h27_⟩
             have n28_ : Aside0 (Below w.heap.size w w33) := ⟨h28_⟩
             clear BK399
             clear BK400
             clear BK418
             clear BK419
             clear HB
             clear h0_ h1_ h2_ h3_ h4_ h5_ h6_ h7_ h8_ h9_ h10_ h11_ h12_ h13_ h14_ h15_ h16_ h17_ h18_ h19_ h20_ h21_ h22_ h23_ h24_ h25_ h26_ h27_ h28_
             have BK399 := n0_
             have BK400 := n1_
             have BK418 := n2_
             have BK419 := n3_
             have BK437 := n4_
             have BK438 := n5_
             have GW437 := n6_
             have GE437 := n7_
             have NB399_437 := n8_
             have NB437_399 := n9_
             have NB400_437 := n10_
             have NB437_400 := n11_
             have NB418_437 := n12_
             have NB437_418 := n13_
             have NB419_437 := n14_
             have NB437_419 := n15_
             have NB438_437 := n16_
             have NB437_438 := n17_
             have GW438 := n18_
             have GE438 := n19_
             have NB399_438 := n20_
             have NB438_399 := n21_
             have NB400_438 := n22_
             have NB438_400 := n23_
             have NB418_438 := n24_
             have NB438_418 := n25_
             have NB419_438 := n26_
             have NB438_419 := n27_
             have HB := n28_
             clear n0_ n1_ n2_ n3_ n4_ n5_ n6_ n7_ n8_ n9_ n10_ n11_ n12_ n13_ n14_ n15_ n16_ n17_ n18_ n19_ n20_ n21_ n22_ n23_ n24_ n25_ n26_ n27_ n28_
             have hHeld : w33.cell? ⟨gb399, 0, none⟩ = some (.int .i64 a1_0) ∧ w33.cell? ⟨gb399, 1, none⟩ = some (.int .i64 a1_1) ∧ w33.cell? ⟨gb399, 2, none⟩ = some (.int .i64 a1_2) ∧ w33.cell? ⟨gb399, 3, none⟩ = some (.int .i64 a1_3) ∧ w33.cell? ⟨gb400, 0, none⟩ = some (.int .i64 a2_0) ∧ w33.cell? ⟨gb400, 1, none⟩ = some (.int .i64 a2_1) ∧ w33.cell? ⟨gb400, 2, none⟩ = some (.int .i64 a2_2) ∧ w33.cell? ⟨gb400, 3, none⟩ = some (.int .i64 a2_3) := hS_
             refine norm_ (a' := ?_) ?_ ?_
             rotate_left
             ·simp only [putAll, Act.put, List.setIfInBounds_toArray, List.set_cons_zero, List.set_cons_succ]
              rfl
             refine oz 2 29 fun K hK => ?_
             refine gz Try.func5 #[.agg #[.int .i64 a1_0, .int .i64 a1_1, .int .i64 a1_2, .int .i64 a1_3]] ?_
             with_reducible refine (laws_toRange.calls a1_0 a1_1 a1_2 a1_3 t420 t421 t422 t423 _ A8.out).mono ?_
             rintro e w34 ⟨rfl, hb⟩
             refine ⟨_, rfl, ?_⟩
             replace BK399 := zb BK399 hb rfl
             replace BK400 := zb BK400 hb rfl
             replace BK418 := zb BK418 hb rfl
             replace BK419 := zb BK419 hb rfl
             replace BK437 := zb BK437 hb rfl
             replace BK438 := zb BK438 hb rfl
             replace HB := zS hb
             try clear hb
             refine hK.out _ _ ⟨(blk_cell BK399.out 0).trans rfl, (blk_cell BK399.out 1).trans rfl, (blk_cell BK399.out 2).trans rfl, (blk_cell BK399.out 3).trans rfl, (blk_cell BK400.out 0).trans rfl, (blk_cell BK400.out 1).trans rfl, (blk_cell BK400.out 2).trans rfl, (blk_cell BK400.out 3).trans rfl⟩ (fun hHeld => ?_)
             clear hK K
             refine nz ?_
             exact norm_ (by first | (simp only [putAll, Act.put, List.setIfInBounds_toArray, List.set_cons_zero, List.set_cons_succ]; done) | (simp only [putAll, Act.put, List.setIfInBounds_toArray, List.set_cons_zero, List.set_cons_succ]; rfl)) (hJ2_11_12 (gb437, gb438) _ ⟨hHeld, (by exact bq BK399.out), (by exact bq BK400.out), (by exact bq BK418.out), (by exact bq BK419.out), (by exact bq BK437.out), (by exact bq BK438.out), GW437.out, GE437.out, NB399_437.out, NB437_399.out, NB400_437.out, NB437_400.out, NB418_437.out, NB437_418.out, NB419_437.out, NB437_419.out, NB438_437.out, NB437_438.out, GW438.out, GE438.out, NB399_438.out, NB438_399.out, NB400_438.out, NB438_400.out, NB418_438.out, NB438_418.out, NB419_438.out, NB438_419.out, zB⟩)
           ·skip
            rintro gb438 w33 ⟨hS_, h0_, h1_, h2_, h3_, h4_, h5_, h6_, h7_, h8_, h9_, h10_, h11_, h12_, h13_, h14_, h15_⟩
            have n0_ : Aside0 (w33.heap[gb399]? = some (.cells #[.int .i64 a1_0, .int .i64 a1_1, .int .i64 a1_2, .int .i64 a1_3] 23 (0, 0))) := ⟨h0_⟩
            have n1_ : Aside0 (w33.heap[gb400]? = some (.cells #[.int .i64 a2_0, .int .i64 a2_1, .int .i64 a2_2, .int .i64 a2_3] 23 (0, 0))) := ⟨h1_⟩
            have n2_ : Aside0 (w33.heap[gb418]? = some (.cells #[.int .i64 t409, .int .i64 t410, .int .i64 t411, .int .i64 t412] 24 (0, 0))) := ⟨h2_⟩
            have n3_ : Aside0 (w33.heap[gb419]? = some (.cells #[.int .i64 t413, .int .i64 t414, .int .i64 t415, .int .i64 t416] 24 (0, 0))) := ⟨h3_⟩
            have n4_ : Aside0 (w33.heap[gb438]? = some (.cells #[.int .i64 0, .int .i64 0, .int .i64 0, .int .i64 0] 24 (0, 0))) := ⟨h4_⟩
            have n5_ : Aside0 (w.heap.size ≤ gb438) := ⟨h5_⟩
            have n6_ : Aside0 (w.heap.size ≤ gb438) := ⟨h6_⟩
            have n7_ : Aside0 (gb399 ≠ gb438) := ⟨h7_⟩
            have n8_ : Aside0 (gb438 ≠ gb399) := ⟨h8_⟩
            have n9_ : Aside0 (gb400 ≠ gb438) := ⟨h9_⟩
            have n10_ : Aside0 (gb438 ≠ gb400) := ⟨h10_⟩
            have n11_ : Aside0 (gb418 ≠ gb438) := ⟨h11_⟩
            have n12_ : Aside0 (gb438 ≠ gb418) := ⟨h12_⟩
            have n13_ : Aside0 (gb419 ≠ gb438) := ⟨h13_⟩
            have n14_ : Aside0 (gb438 ≠ gb419) := ⟨h14_⟩
            have n15_ : Aside0 (Below w.heap.size w w33) := ⟨h15_⟩
            clear BK399
            clear BK400
            clear BK418
            clear BK419
            clear HB
            clear h0_ h1_ h2_ h3_ h4_ h5_ h6_ h7_ h8_ h9_ h10_ h11_ h12_ h13_ h14_ h15_
            have BK399 := n0_
            have BK400 := n1_
            have BK418 := n2_
            have BK419 := n3_
            have BK438 := n4_
            have GW438 := n5_
            have GE438 := n6_
            have NB399_438 := n7_
            have NB438_399 := n8_
            have NB400_438 := n9_
            have NB438_400 := n10_
            have NB418_438 := n11_
            have NB438_418 := n12_
            have NB419_438 := n13_
            have NB438_419 := n14_
            have HB := n15_
            clear n0_ n1_ n2_ n3_ n4_ n5_ n6_ n7_ n8_ n9_ n10_ n11_ n12_ n13_ n14_ n15_
            have hHeld : w33.cell? ⟨gb399, 0, none⟩ = some (.int .i64 a1_0) ∧ w33.cell? ⟨gb399, 1, none⟩ = some (.int .i64 a1_1) ∧ w33.cell? ⟨gb399, 2, none⟩ = some (.int .i64 a1_2) ∧ w33.cell? ⟨gb399, 3, none⟩ = some (.int .i64 a1_3) ∧ w33.cell? ⟨gb400, 0, none⟩ = some (.int .i64 a2_0) ∧ w33.cell? ⟨gb400, 1, none⟩ = some (.int .i64 a2_1) ∧ w33.cell? ⟨gb400, 2, none⟩ = some (.int .i64 a2_2) ∧ w33.cell? ⟨gb400, 3, none⟩ = some (.int .i64 a2_3) := hS_
            refine norm_ (a' := ?_) ?_ ?_
            rotate_left
            ·simp only [putAll, Act.put, List.setIfInBounds_toArray, List.set_cons_zero, List.set_cons_succ]
             rfl
            refine two_ (i := 4) (j := 11) (Ni := some 31) (Nj := some 12) #[true, true, true, true, true, true, false, false, false, false, false, false, true, false, false, false] #[true, true, true, true, false, true, false, false, false, false, false, true, true, false, false, false] rfl rfl rfl rfl (two_of HT_.out (by kernel_rfl)) (by decide) (by decide) (fun K hK => ?_) (fun K hK => ?_)
            ·skip
             refine gz Try.func5 #[.agg #[.int .i64 a2_0, .int .i64 a2_1, .int .i64 a2_2, .int .i64 a2_3]] ?_
             with_reducible refine (laws_toRange.calls a2_0 a2_1 a2_2 a2_3 t424 t425 t426 t427 _ A9.out).mono ?_
             rintro e w34 ⟨rfl, hb⟩
             refine ⟨_, rfl, ?_⟩
             replace BK399 := zb BK399 hb rfl
             replace BK400 := zb BK400 hb rfl
             replace BK418 := zb BK418 hb rfl
             replace BK419 := zb BK419 hb rfl
             replace BK438 := zb BK438 hb rfl
             replace HB := zS hb
             try clear hb
             refine hK.out _ _ ⟨(blk_cell BK399.out 0).trans rfl, (blk_cell BK399.out 1).trans rfl, (blk_cell BK399.out 2).trans rfl, (blk_cell BK399.out 3).trans rfl, (blk_cell BK400.out 0).trans rfl, (blk_cell BK400.out 1).trans rfl, (blk_cell BK400.out 2).trans rfl, (blk_cell BK400.out 3).trans rfl⟩ (fun hHeld => ?_)
             clear hK K
             refine nz ?_
             exact norm_ (by first | (simp only [putAll, Act.put, List.setIfInBounds_toArray, List.set_cons_zero, List.set_cons_succ]; done) | (simp only [putAll, Act.put, List.setIfInBounds_toArray, List.set_cons_zero, List.set_cons_succ]; rfl)) (hJ2_4_12 (gb438) _ ⟨hHeld, (by exact bq BK399.out), (by exact bq BK400.out), (by exact bq BK418.out), (by exact bq BK419.out), (by exact bq BK438.out), GW438.out, GE438.out, NB399_438.out, NB438_399.out, NB400_438.out, NB438_400.out, NB418_438.out, NB438_418.out, NB419_438.out, NB438_419.out, zB⟩)
            ·skip
             refine box_step ?hg (N := 12) ?hd (cs := #[.int .i64 0, .int .i64 0, .int .i64 0, .int .i64 0]) (t := 24) ?hr ?_; (case hd => rfl); (case hg => rfl); (case hr => first | (go_simp; done) | (go_simp; rfl))
             intro gb437 hg w34 hbox hb
             have BK437 := Aside0.mk hbox
             have GW437 := zW hg
             have GE437 := zW hg
             replace HB := zS hb
             have NB399_437 := zl BK399 hg rfl
             have NB437_399 := zg BK399 hg rfl
             replace BK399 := zb BK399 hb rfl
             have NB400_437 := zl BK400 hg rfl
             have NB437_400 := zg BK400 hg rfl
             replace BK400 := zb BK400 hb rfl
             have NB418_437 := zl BK418 hg rfl
             have NB437_418 := zg BK418 hg rfl
             replace BK418 := zb BK418 hb rfl
             have NB419_437 := zl BK419 hg rfl
             have NB437_419 := zg BK419 hg rfl
             replace BK419 := zb BK419 hb rfl
             have NB438_437 := zl BK438 hg rfl
             have NB437_438 := zg BK438 hg rfl
             replace BK438 := zb BK438 hb rfl
             clear hb hbox hg
             refine hK.out _ _ ⟨(blk_cell BK399.out 0).trans rfl, (blk_cell BK399.out 1).trans rfl, (blk_cell BK399.out 2).trans rfl, (blk_cell BK399.out 3).trans rfl, (blk_cell BK400.out 0).trans rfl, (blk_cell BK400.out 1).trans rfl, (blk_cell BK400.out 2).trans rfl, (blk_cell BK400.out 3).trans rfl⟩ (fun hHeld => ?_)
             clear hK K
             refine nz ?_
             exact norm_ (by first | (simp only [putAll, Act.put, List.setIfInBounds_toArray, List.set_cons_zero, List.set_cons_succ]; done) | (simp only [putAll, Act.put, List.setIfInBounds_toArray, List.set_cons_zero, List.set_cons_succ]; rfl)) (hJ2_11_12 (gb437, gb438) _ ⟨hHeld, (by exact bq BK399.out), (by exact bq BK400.out), (by exact bq BK418.out), (by exact bq BK419.out), (by exact bq BK437.out), (by exact bq BK438.out), GW437.out, GE437.out, NB399_437.out, NB437_399.out, NB400_437.out, NB437_400.out, NB418_437.out, NB437_418.out, NB419_437.out, NB437_419.out, NB438_437.out, NB437_438.out, GW438.out, GE438.out, NB399_438.out, NB438_399.out, NB400_438.out, NB438_400.out, NB418_438.out, NB438_418.out, NB419_438.out, NB438_419.out, zB⟩)
          ·skip
           rintro gb437 w33 ⟨hS_, h0_, h1_, h2_, h3_, h4_, h5_, h6_, h7_, h8_, h9_, h10_, h11_, h12_, h13_, h14_, h15_⟩
           have n0_ : Aside0 (w33.heap[gb399]? = some (.cells #[.int .i64 a1_0, .int .i64 a1_1, .int .i64 a1_2, .int .i64 a1_3] 23 (0, 0))) := ⟨h0_⟩
           have n1_ : Aside0 (w33.heap[gb400]? = some (.cells #[.int .i64 a2_0, .int .i64 a2_1, .int .i64 a2_2, .int .i64 a2_3] 23 (0, 0))) := ⟨h1_⟩
           have n2_ : Aside0 (w33.heap[gb418]? = some (.cells #[.int .i64 t409, .int .i64 t410, .int .i64 t411, .int .i64 t412] 24 (0, 0))) := ⟨h2_⟩
           have n3_ : Aside0 (w33.heap[gb419]? = some (.cells #[.int .i64 t413, .int .i64 t414, .int .i64 t415, .int .i64 t416] 24 (0, 0))) := ⟨h3_⟩
           have n4_ : Aside0 (w33.heap[gb437]? = some (.cells #[.int .i64 0, .int .i64 0, .int .i64 0, .int .i64 0] 24 (0, 0))) := ⟨h4_⟩
           have n5_ : Aside0 (w.heap.size ≤ gb437) := ⟨h5_⟩
           have n6_ : Aside0 (w.heap.size ≤ gb437) := ⟨h6_⟩
           have n7_ : Aside0 (gb399 ≠ gb437) := ⟨h7_⟩
           have n8_ : Aside0 (gb437 ≠ gb399) := ⟨h8_⟩
           have n9_ : Aside0 (gb400 ≠ gb437) := ⟨h9_⟩
           have n10_ : Aside0 (gb437 ≠ gb400) := ⟨h10_⟩
           have n11_ : Aside0 (gb418 ≠ gb437) := ⟨h11_⟩
           have n12_ : Aside0 (gb437 ≠ gb418) := ⟨h12_⟩
           have n13_ : Aside0 (gb419 ≠ gb437) := ⟨h13_⟩
           have n14_ : Aside0 (gb437 ≠ gb419) := ⟨h14_⟩
           have n15_ : Aside0 (Below w.heap.size w w33) := ⟨h15_⟩
           clear BK399
           clear BK400
           clear BK418
           clear BK419
           clear HB
           clear h0_ h1_ h2_ h3_ h4_ h5_ h6_ h7_ h8_ h9_ h10_ h11_ h12_ h13_ h14_ h15_
           have BK399 := n0_
           have BK400 := n1_
           have BK418 := n2_
           have BK419 := n3_
           have BK437 := n4_
           have GW437 := n5_
           have GE437 := n6_
           have NB399_437 := n7_
           have NB437_399 := n8_
           have NB400_437 := n9_
           have NB437_400 := n10_
           have NB418_437 := n11_
           have NB437_418 := n12_
           have NB419_437 := n13_
           have NB437_419 := n14_
           have HB := n15_
           clear n0_ n1_ n2_ n3_ n4_ n5_ n6_ n7_ n8_ n9_ n10_ n11_ n12_ n13_ n14_ n15_
           have hHeld : w33.cell? ⟨gb399, 0, none⟩ = some (.int .i64 a1_0) ∧ w33.cell? ⟨gb399, 1, none⟩ = some (.int .i64 a1_1) ∧ w33.cell? ⟨gb399, 2, none⟩ = some (.int .i64 a1_2) ∧ w33.cell? ⟨gb399, 3, none⟩ = some (.int .i64 a1_3) ∧ w33.cell? ⟨gb400, 0, none⟩ = some (.int .i64 a2_0) ∧ w33.cell? ⟨gb400, 1, none⟩ = some (.int .i64 a2_1) ∧ w33.cell? ⟨gb400, 2, none⟩ = some (.int .i64 a2_2) ∧ w33.cell? ⟨gb400, 3, none⟩ = some (.int .i64 a2_3) := hS_
           refine norm_ (a' := ?_) ?_ ?_
           rotate_left
           ·simp only [putAll, Act.put, List.setIfInBounds_toArray, List.set_cons_zero, List.set_cons_succ]
            rfl
           refine two_ (i := 4) (j := 12) (Ni := some 31) (Nj := some 13) #[true, true, true, true, true, true, false, false, false, false, false, true, false, false, false, false] #[true, true, true, true, false, true, false, false, false, false, false, true, true, false, false, false] rfl rfl rfl rfl (two_of HT_.out (by kernel_rfl)) (by decide) (by decide) (fun K hK => ?_) (fun K hK => ?_)
           ·skip
            refine gz Try.func5 #[.agg #[.int .i64 a2_0, .int .i64 a2_1, .int .i64 a2_2, .int .i64 a2_3]] ?_
            with_reducible refine (laws_toRange.calls a2_0 a2_1 a2_2 a2_3 t424 t425 t426 t427 _ A9.out).mono ?_
            rintro e w34 ⟨rfl, hb⟩
            refine ⟨_, rfl, ?_⟩
            replace BK399 := zb BK399 hb rfl
            replace BK400 := zb BK400 hb rfl
            replace BK418 := zb BK418 hb rfl
            replace BK419 := zb BK419 hb rfl
            replace BK437 := zb BK437 hb rfl
            replace HB := zS hb
            try clear hb
            refine hK.out _ _ ⟨(blk_cell BK399.out 0).trans rfl, (blk_cell BK399.out 1).trans rfl, (blk_cell BK399.out 2).trans rfl, (blk_cell BK399.out 3).trans rfl, (blk_cell BK400.out 0).trans rfl, (blk_cell BK400.out 1).trans rfl, (blk_cell BK400.out 2).trans rfl, (blk_cell BK400.out 3).trans rfl⟩ (fun hHeld => ?_)
            clear hK K
            refine nz ?_
            exact norm_ (by first | (simp only [putAll, Act.put, List.setIfInBounds_toArray, List.set_cons_zero, List.set_cons_succ]; done) | (simp only [putAll, Act.put, List.setIfInBounds_toArray, List.set_cons_zero, List.set_cons_succ]; rfl)) (hJ2_4_11 (gb437) _ ⟨hHeld, (by exact bq BK399.out), (by exact bq BK400.out), (by exact bq BK418.out), (by exact bq BK419.out), (by exact bq BK437.out), GW437.out, GE437.out, NB399_437.out, NB437_399.out, NB400_437.out, NB437_400.out, NB418_437.out, NB437_418.out, NB419_437.out, NB437_419.out, zB⟩)
           ·skip
            refine box_step ?hg (N := 13) ?hd (cs := #[.int .i64 0, .int .i64 0, .int .i64 0, .int .i64 0]) (t := 24) ?hr ?_; (case hd => rfl); (case hg => rfl); (case hr => first | (go_simp; done) | (go_simp; rfl))
            intro gb438 hg w34 hbox hb
            have BK438 := Aside0.mk hbox
            have GW438 := zW hg
            have GE438 := zW hg
            replace HB := zS hb
            have NB399_438 := zl BK399 hg rfl
            have NB438_399 := zg BK399 hg rfl
            replace BK399 := zb BK399 hb rfl
            have NB400_438 := zl BK400 hg rfl
            have NB438_400 := zg BK400 hg rfl
            replace BK400 := zb BK400 hb rfl
            have NB418_438 := zl BK418 hg rfl
            have NB438_418 := zg BK418 hg rfl
            replace BK418 := zb BK418 hb rfl
            have NB419_438 := zl BK419 hg rfl
            have NB438_419 := zg BK419 hg rfl
            replace BK419 := zb BK419 hb rfl
            have NB437_438 := zl BK437 hg rfl
            have NB438_437 := zg BK437 hg rfl
            replace BK437 := zb BK437 hb rfl
            clear hb hbox hg
            refine hK.out _ _ ⟨(blk_cell BK399.out 0).trans rfl, (blk_cell BK399.out 1).trans rfl, (blk_cell BK399.out 2).trans rfl, (blk_cell BK399.out 3).trans rfl, (blk_cell BK400.out 0).trans rfl, (blk_cell BK400.out 1).trans rfl, (blk_cell BK400.out 2).trans rfl, (blk_cell BK400.out 3).trans rfl⟩ (fun hHeld => ?_)
            clear hK K
            refine nz ?_
            exact norm_ (by first | (simp only [putAll, Act.put, List.setIfInBounds_toArray, List.set_cons_zero, List.set_cons_succ]; done) | (simp only [putAll, Act.put, List.setIfInBounds_toArray, List.set_cons_zero, List.set_cons_succ]; rfl)) (hJ2_11_12 (gb437, gb438) _ ⟨hHeld, (by exact bq BK399.out), (by exact bq BK400.out), (by exact bq BK418.out), (by exact bq BK419.out), (by exact bq BK437.out), (by exact bq BK438.out), GW437.out, GE437.out, NB399_437.out, NB437_399.out, NB400_437.out, NB437_400.out, NB418_437.out, NB437_418.out, NB419_437.out, NB437_419.out, NB438_437.out, NB437_438.out, GW438.out, GE438.out, NB399_438.out, NB438_399.out, NB400_438.out, NB438_400.out, NB418_438.out, NB438_418.out, NB419_438.out, NB438_419.out, zB⟩)
         ·skip
          rintro _ w33 ⟨hS_, h0_, h1_, h2_, h3_, h4_⟩
          have n0_ : Aside0 (w33.heap[gb399]? = some (.cells #[.int .i64 a1_0, .int .i64 a1_1, .int .i64 a1_2, .int .i64 a1_3] 23 (0, 0))) := ⟨h0_⟩
          have n1_ : Aside0 (w33.heap[gb400]? = some (.cells #[.int .i64 a2_0, .int .i64 a2_1, .int .i64 a2_2, .int .i64 a2_3] 23 (0, 0))) := ⟨h1_⟩
          have n2_ : Aside0 (w33.heap[gb418]? = some (.cells #[.int .i64 t409, .int .i64 t410, .int .i64 t411, .int .i64 t412] 24 (0, 0))) := ⟨h2_⟩
          have n3_ : Aside0 (w33.heap[gb419]? = some (.cells #[.int .i64 t413, .int .i64 t414, .int .i64 t415, .int .i64 t416] 24 (0, 0))) := ⟨h3_⟩
          have n4_ : Aside0 (Below w.heap.size w w33) := ⟨h4_⟩
          clear BK399
          clear BK400
          clear BK418
          clear BK419
          clear HB
          clear h0_ h1_ h2_ h3_ h4_
          have BK399 := n0_
          have BK400 := n1_
          have BK418 := n2_
          have BK419 := n3_
          have HB := n4_
          clear n0_ n1_ n2_ n3_ n4_
          have hHeld : w33.cell? ⟨gb399, 0, none⟩ = some (.int .i64 a1_0) ∧ w33.cell? ⟨gb399, 1, none⟩ = some (.int .i64 a1_1) ∧ w33.cell? ⟨gb399, 2, none⟩ = some (.int .i64 a1_2) ∧ w33.cell? ⟨gb399, 3, none⟩ = some (.int .i64 a1_3) ∧ w33.cell? ⟨gb400, 0, none⟩ = some (.int .i64 a2_0) ∧ w33.cell? ⟨gb400, 1, none⟩ = some (.int .i64 a2_1) ∧ w33.cell? ⟨gb400, 2, none⟩ = some (.int .i64 a2_2) ∧ w33.cell? ⟨gb400, 3, none⟩ = some (.int .i64 a2_3) := hS_
          refine norm_ (a' := ?_) ?_ ?_
          rotate_left
          ·simp only [putAll, Act.put, List.setIfInBounds_toArray, List.set_cons_zero, List.set_cons_succ]
           rfl
          refine three_ (i := 6) (j := 11) (k := 12) (Ni := some 33) (Nj := some 12) (Nk := some 13) #[true, true, true, true, true, true, true, false, false, false, false, false, false, false, false, false] #[true, true, true, true, true, true, false, false, false, false, false, true, false, false, false, false] #[true, true, true, true, true, true, false, false, false, false, false, false, true, false, false, false] rfl rfl rfl rfl rfl rfl (three_of HT_.out (by kernel_rfl)) (by decide) (by decide) (by decide) (fun K hK => ?_) (fun K hK => ?_) (fun K hK => ?_)
          ·skip
           refine gz Try.func6 #[.int .i64 a0, .agg #[.int .i64 t420, .int .i64 t421, .int .i64 t422, .int .i64 t423], .agg #[.int .i64 t424, .int .i64 t425, .int .i64 t426, .int .i64 t427], .bool a3] ?_
           with_reducible refine (impl_RangeBranch.calls k a0 t420 t421 t422 t423 t424 t425 t426 t427 a3 t428 t429 t430 t431 t432 t433 t434 t435 t436 _ A10.out).mono ?_
           rintro e w34 ⟨rfl, hb⟩
           refine ⟨_, rfl, ?_⟩
           replace BK399 := zb BK399 hb rfl
           replace BK400 := zb BK400 hb rfl
           replace BK418 := zb BK418 hb rfl
           replace BK419 := zb BK419 hb rfl
           replace HB := zS hb
           try clear hb
           refine hK.out _ _ ⟨(blk_cell BK399.out 0).trans rfl, (blk_cell BK399.out 1).trans rfl, (blk_cell BK399.out 2).trans rfl, (blk_cell BK399.out 3).trans rfl, (blk_cell BK400.out 0).trans rfl, (blk_cell BK400.out 1).trans rfl, (blk_cell BK400.out 2).trans rfl, (blk_cell BK400.out 3).trans rfl⟩ (fun hHeld => ?_)
           clear hK K
           refine nz ?_
           refine pz 7 26 ?_
           refine pz 8 34 ?_
           refine pz 9 35 ?_
           refine pz 10 36 ?_
           exact norm_ (by first | (simp only [putAll, Act.put, List.setIfInBounds_toArray, List.set_cons_zero, List.set_cons_succ]; done) | (simp only [putAll, Act.put, List.setIfInBounds_toArray, List.set_cons_zero, List.set_cons_succ]; rfl)) (hJ2_4_6 () _ ⟨hHeld, (by exact bq BK399.out), (by exact bq BK400.out), (by exact bq BK418.out), (by exact bq BK419.out), zB⟩)
          ·skip
           refine box_step ?hg (N := 12) ?hd (cs := #[.int .i64 0, .int .i64 0, .int .i64 0, .int .i64 0]) (t := 24) ?hr ?_; (case hd => rfl); (case hg => rfl); (case hr => first | (go_simp; done) | (go_simp; rfl))
           intro gb437 hg w34 hbox hb
           have BK437 := Aside0.mk hbox
           have GW437 := zW hg
           have GE437 := zW hg
           replace HB := zS hb
           have NB399_437 := zl BK399 hg rfl
           have NB437_399 := zg BK399 hg rfl
           replace BK399 := zb BK399 hb rfl
           have NB400_437 := zl BK400 hg rfl
           have NB437_400 := zg BK400 hg rfl
           replace BK400 := zb BK400 hb rfl
           have NB418_437 := zl BK418 hg rfl
           have NB437_418 := zg BK418 hg rfl
           replace BK418 := zb BK418 hb rfl
           have NB419_437 := zl BK419 hg rfl
           have NB437_419 := zg BK419 hg rfl
           replace BK419 := zb BK419 hb rfl
           clear hb hbox hg
           refine hK.out _ _ ⟨(blk_cell BK399.out 0).trans rfl, (blk_cell BK399.out 1).trans rfl, (blk_cell BK399.out 2).trans rfl, (blk_cell BK399.out 3).trans rfl, (blk_cell BK400.out 0).trans rfl, (blk_cell BK400.out 1).trans rfl, (blk_cell BK400.out 2).trans rfl, (blk_cell BK400.out 3).trans rfl⟩ (fun hHeld => ?_)
           clear hK K
           refine nz ?_
           exact norm_ (by first | (simp only [putAll, Act.put, List.setIfInBounds_toArray, List.set_cons_zero, List.set_cons_succ]; done) | (simp only [putAll, Act.put, List.setIfInBounds_toArray, List.set_cons_zero, List.set_cons_succ]; rfl)) (hJ2_4_11 (gb437) _ ⟨hHeld, (by exact bq BK399.out), (by exact bq BK400.out), (by exact bq BK418.out), (by exact bq BK419.out), (by exact bq BK437.out), GW437.out, GE437.out, NB399_437.out, NB437_399.out, NB400_437.out, NB437_400.out, NB418_437.out, NB437_418.out, NB419_437.out, NB437_419.out, zB⟩)
          ·skip
           refine box_step ?hg (N := 13) ?hd (cs := #[.int .i64 0, .int .i64 0, .int .i64 0, .int .i64 0]) (t := 24) ?hr ?_; (case hd => rfl); (case hg => rfl); (case hr => first | (go_simp; done) | (go_simp; rfl))
           intro gb438 hg w34 hbox hb
           have BK438 := Aside0.mk hbox
           have GW438 := zW hg
           have GE438 := zW hg
           replace HB := zS hb
           have NB399_438 := zl BK399 hg rfl
           have NB438_399 := zg BK399 hg rfl
           replace BK399 := zb BK399 hb rfl
           have NB400_438 := zl BK400 hg rfl
           have NB438_400 := zg BK400 hg rfl
           replace BK400 := zb BK400 hb rfl
           have NB418_438 := zl BK418 hg rfl
           have NB438_418 := zg BK418 hg rfl
           replace BK418 := zb BK418 hb rfl
           have NB419_438 := zl BK419 hg rfl
           have NB438_419 := zg BK419 hg rfl
           replace BK419 := zb BK419 hb rfl
           clear hb hbox hg
           refine hK.out _ _ ⟨(blk_cell BK399.out 0).trans rfl, (blk_cell BK399.out 1).trans rfl, (blk_cell BK399.out 2).trans rfl, (blk_cell BK399.out 3).trans rfl, (blk_cell BK400.out 0).trans rfl, (blk_cell BK400.out 1).trans rfl, (blk_cell BK400.out 2).trans rfl, (blk_cell BK400.out 3).trans rfl⟩ (fun hHeld => ?_)
           clear hK K
           refine nz ?_
           exact norm_ (by first | (simp only [putAll, Act.put, List.setIfInBounds_toArray, List.set_cons_zero, List.set_cons_succ]; done) | (simp only [putAll, Act.put, List.setIfInBounds_toArray, List.set_cons_zero, List.set_cons_succ]; rfl)) (hJ2_4_12 (gb438) _ ⟨hHeld, (by exact bq BK399.out), (by exact bq BK400.out), (by exact bq BK418.out), (by exact bq BK419.out), (by exact bq BK438.out), GW438.out, GE438.out, NB399_438.out, NB438_399.out, NB400_438.out, NB438_400.out, NB418_438.out, NB438_418.out, NB419_438.out, NB438_419.out, zB⟩)
        ·skip
         rintro ⟨gb437, gb438⟩ w34 ⟨hS_, h0_, h1_, h2_, h3_, h4_, h5_, h6_, h7_, h8_, h9_, h10_, h11_, h12_, h13_, h14_, h15_, h16_, h17_, h18_, h19_, h20_, h21_, h22_, h23_, h24_, h25_, h26_, h27_, h28_⟩
         have n0_ : Aside0 (w34.heap[gb399]? = some (.cells #[.int .i64 a1_0, .int .i64 a1_1, .int .i64 a1_2, .int .i64 a1_3] 23 (0, 0))) := ⟨h0_⟩
         have n1_ : Aside0 (w34.heap[gb400]? = some (.cells #[.int .i64 a2_0, .int .i64 a2_1, .int .i64 a2_2, .int .i64 a2_3] 23 (0, 0))) := ⟨h1_⟩
         have n2_ : Aside0 (w34.heap[gb418]? = some (.cells #[.int .i64 t409, .int .i64 t410, .int .i64 t411, .int .i64 t412] 24 (0, 0))) := ⟨h2_⟩
         have n3_ : Aside0 (w34.heap[gb419]? = some (.cells #[.int .i64 t413, .int .i64 t414, .int .i64 t415, .int .i64 t416] 24 (0, 0))) := ⟨h3_⟩
         have n4_ : Aside0 (w34.heap[gb437]? = some (.cells #[.int .i64 0, .int .i64 0, .int .i64 0, .int .i64 0] 24 (0, 0))) := ⟨h4_⟩
         have n5_ : Aside0 (w34.heap[gb438]? = some (.cells #[.int .i64 0, .int .i64 0, .int .i64 0, .int .i64 0] 24 (0, 0))) := ⟨h5_⟩
         have n6_ : Aside0 (w.heap.size ≤ gb437) := ⟨h6_⟩
         have n7_ : Aside0 (w.heap.size ≤ gb437) := ⟨h7_⟩
         have n8_ : Aside0 (gb399 ≠ gb437) := ⟨h8_⟩
         have n9_ : Aside0 (gb437 ≠ gb399) := ⟨h9_⟩
         have n10_ : Aside0 (gb400 ≠ gb437) := ⟨h10_⟩
         have n11_ : Aside0 (gb437 ≠ gb400) := ⟨h11_⟩
         have n12_ : Aside0 (gb418 ≠ gb437) := ⟨h12_⟩
         have n13_ : Aside0 (gb437 ≠ gb418) := ⟨h13_⟩
         have n14_ : Aside0 (gb419 ≠ gb437) := ⟨h14_⟩
         have n15_ : Aside0 (gb437 ≠ gb419) := ⟨h15_⟩
         have n16_ : Aside0 (gb438 ≠ gb437) := ⟨h16_⟩
         have n17_ : Aside0 (gb437 ≠ gb438) := ⟨h17_⟩
         have n18_ : Aside0 (w.heap.size ≤ gb438) := ⟨h18_⟩
         have n19_ : Aside0 (w.heap.size ≤ gb438) := ⟨h19_⟩
         have n20_ : Aside0 (gb399 ≠ gb438) := ⟨h20_⟩
         have n21_ : Aside0 (gb438 ≠ gb399) := ⟨h21_⟩
         have n22_ : Aside0 (gb400 ≠ gb438) := ⟨h22_⟩
         have n23_ : Aside0 (gb438 ≠ gb400) := ⟨h23_⟩
         have n24_ : Aside0 (gb418 ≠ gb438) := ⟨h24_⟩
         have n25_ : Aside0 (gb438 ≠ gb418) := ⟨h25_⟩
         have n26_ : Aside0 (gb419 ≠ gb438) := ⟨h26_⟩
         have n27_ : Aside0 (gb438 ≠ gb419) := ⟨h27_⟩
         have n28_ : Aside0 (Below w.heap.size w w34) := ⟨h28_⟩
         clear BK399
         clear BK400
         clear BK418
         clear BK419
         clear HB
         clear h0_ h1_ h2_ h3_ h4_ h5_ h6_ h7_ h8_ h9_ h10_ h11_ h12_ h13_ h14_ h15_ h16_ h17_ h18_ h19_ h20_ h21_ h22_ h23_ h24_ h25_ h26_ h27_ h28_
         have BK399 := n0_
         have BK400 := n1_
         have BK418 := n2_
         have BK419 := n3_
         have BK437 := n4_
         have BK438 := n5_
         have GW437 := n6_
         have GE437 := n7_
         have NB399_437 := n8_
         have NB437_399 := n9_
         have NB400_437 := n10_
         have NB437_400 := n11_
         have NB418_437 := n12_
         have NB437_418 := n13_
         have NB419_437 := n14_
         have NB437_419 := n15_
         have NB438_437 := n16_
         have NB437_438 := n17_
         have GW438 := n18_
         have GE438 := n19_
         have NB399_438 := n20_
         have NB438_399 := n21_
         have NB400_438 := n22_
         have NB438_400 := n23_
         have NB418_438 := n24_
         have NB438_418 := n25_
         have NB419_438 := n26_
         have NB438_419 := n27_
         have HB := n28_
         clear n0_ n1_ n2_ n3_ n4_ n5_ n6_ n7_ n8_ n9_ n10_ n11_ n12_ n13_ n14_ n15_ n16_ n17_ n18_ n19_ n20_ n21_ n22_ n23_ n24_ n25_ n26_ n27_ n28_
         have hHeld : w34.cell? ⟨gb399, 0, none⟩ = some (.int .i64 a1_0) ∧ w34.cell? ⟨gb399, 1, none⟩ = some (.int .i64 a1_1) ∧ w34.cell? ⟨gb399, 2, none⟩ = some (.int .i64 a1_2) ∧ w34.cell? ⟨gb399, 3, none⟩ = some (.int .i64 a1_3) ∧ w34.cell? ⟨gb400, 0, none⟩ = some (.int .i64 a2_0) ∧ w34.cell? ⟨gb400, 1, none⟩ = some (.int .i64 a2_1) ∧ w34.cell? ⟨gb400, 2, none⟩ = some (.int .i64 a2_2) ∧ w34.cell? ⟨gb400, 3, none⟩ = some (.int .i64 a2_3) := hS_
         refine norm_ (a' := ?_) ?_ ?_
         rotate_left
         ·simp only [putAll, Act.put, List.setIfInBounds_toArray, List.set_cons_zero, List.set_cons_succ]
          rfl
         refine oz 4 31 fun K hK => ?_
         refine gz Try.func5 #[.agg #[.int .i64 a2_0, .int .i64 a2_1, .int .i64 a2_2, .int .i64 a2_3]] ?_
         with_reducible refine (laws_toRange.calls a2_0 a2_1 a2_2 a2_3 t424 t425 t426 t427 _ A9.out).mono ?_
         rintro e w35 ⟨rfl, hb⟩
         refine ⟨_, rfl, ?_⟩
         replace BK399 := zb BK399 hb rfl
         replace BK400 := zb BK400 hb rfl
         replace BK418 := zb BK418 hb rfl
         replace BK419 := zb BK419 hb rfl
         replace BK437 := zb BK437 hb rfl
         replace BK438 := zb BK438 hb rfl
         replace HB := zS hb
         try clear hb
         refine hK.out _ _ ⟨(blk_cell BK399.out 0).trans rfl, (blk_cell BK399.out 1).trans rfl, (blk_cell BK399.out 2).trans rfl, (blk_cell BK399.out 3).trans rfl, (blk_cell BK400.out 0).trans rfl, (blk_cell BK400.out 1).trans rfl, (blk_cell BK400.out 2).trans rfl, (blk_cell BK400.out 3).trans rfl⟩ (fun hHeld => ?_)
         clear hK K
         refine nz ?_
         exact norm_ (by first | (simp only [putAll, Act.put, List.setIfInBounds_toArray, List.set_cons_zero, List.set_cons_succ]; done) | (simp only [putAll, Act.put, List.setIfInBounds_toArray, List.set_cons_zero, List.set_cons_succ]; rfl)) (hJ2_4_11_12 (gb437, gb438) _ ⟨hHeld, (by exact bq BK399.out), (by exact bq BK400.out), (by exact bq BK418.out), (by exact bq BK419.out), (by exact bq BK437.out), (by exact bq BK438.out), GW437.out, GE437.out, NB399_437.out, NB437_399.out, NB400_437.out, NB437_400.out, NB418_437.out, NB437_418.out, NB419_437.out, NB437_419.out, NB438_437.out, NB437_438.out, GW438.out, GE438.out, NB399_438.out, NB438_399.out, NB400_438.out, NB438_400.out, NB418_438.out, NB438_418.out, NB419_438.out, NB438_419.out, zB⟩)
       ·skip
        rintro gb438 w34 ⟨hS_, h0_, h1_, h2_, h3_, h4_, h5_, h6_, h7_, h8_, h9_, h10_, h11_, h12_, h13_, h14_, h15_⟩
        have n0_ : Aside0 (w34.heap[gb399]? = some (.cells #[.int .i64 a1_0, .int .i64 a1_1, .int .i64 a1_2, .int .i64 a1_3] 23 (0, 0))) := ⟨h0_⟩
        have n1_ : Aside0 (w34.heap[gb400]? = some (.cells #[.int .i64 a2_0, .int .i64 a2_1, .int .i64 a2_2, .int .i64 a2_3] 23 (0, 0))) := ⟨h1_⟩
        have n2_ : Aside0 (w34.heap[gb418]? = some (.cells #[.int .i64 t409, .int .i64 t410, .int .i64 t411, .int .i64 t412] 24 (0, 0))) := ⟨h2_⟩
        have n3_ : Aside0 (w34.heap[gb419]? = some (.cells #[.int .i64 t413, .int .i64 t414, .int .i64 t415, .int .i64 t416] 24 (0, 0))) := ⟨h3_⟩
        have n4_ : Aside0 (w34.heap[gb438]? = some (.cells #[.int .i64 0, .int .i64 0, .int .i64 0, .int .i64 0] 24 (0, 0))) := ⟨h4_⟩
        have n5_ : Aside0 (w.heap.size ≤ gb438) := ⟨h5_⟩
        have n6_ : Aside0 (w.heap.size ≤ gb438) := ⟨h6_⟩
        have n7_ : Aside0 (gb399 ≠ gb438) := ⟨h7_⟩
        have n8_ : Aside0 (gb438 ≠ gb399) := ⟨h8_⟩
        have n9_ : Aside0 (gb400 ≠ gb438) := ⟨h9_⟩
        have n10_ : Aside0 (gb438 ≠ gb400) := ⟨h10_⟩
        have n11_ : Aside0 (gb418 ≠ gb438) := ⟨h11_⟩
        have n12_ : Aside0 (gb438 ≠ gb418) := ⟨h12_⟩
        have n13_ : Aside0 (gb419 ≠ gb438) := ⟨h13_⟩
        have n14_ : Aside0 (gb438 ≠ gb419) := ⟨h14_⟩
        have n15_ : Aside0 (Below w.heap.size w w34) := ⟨h15_⟩
        clear BK399
        clear BK400
        clear BK418
        clear BK419
        clear HB
        clear h0_ h1_ h2_ h3_ h4_ h5_ h6_ h7_ h8_ h9_ h10_ h11_ h12_ h13_ h14_ h15_
        have BK399 := n0_
        have BK400 := n1_
        have BK418 := n2_
        have BK419 := n3_
        have BK438 := n4_
        have GW438 := n5_
        have GE438 := n6_
        have NB399_438 := n7_
        have NB438_399 := n8_
        have NB400_438 := n9_
        have NB438_400 := n10_
        have NB418_438 := n11_
        have NB438_418 := n12_
        have NB419_438 := n13_
        have NB438_419 := n14_
        have HB := n15_
        clear n0_ n1_ n2_ n3_ n4_ n5_ n6_ n7_ n8_ n9_ n10_ n11_ n12_ n13_ n14_ n15_
        have hHeld : w34.cell? ⟨gb399, 0, none⟩ = some (.int .i64 a1_0) ∧ w34.cell? ⟨gb399, 1, none⟩ = some (.int .i64 a1_1) ∧ w34.cell? ⟨gb399, 2, none⟩ = some (.int .i64 a1_2) ∧ w34.cell? ⟨gb399, 3, none⟩ = some (.int .i64 a1_3) ∧ w34.cell? ⟨gb400, 0, none⟩ = some (.int .i64 a2_0) ∧ w34.cell? ⟨gb400, 1, none⟩ = some (.int .i64 a2_1) ∧ w34.cell? ⟨gb400, 2, none⟩ = some (.int .i64 a2_2) ∧ w34.cell? ⟨gb400, 3, none⟩ = some (.int .i64 a2_3) := hS_
        refine norm_ (a' := ?_) ?_ ?_
        rotate_left
        ·simp only [putAll, Act.put, List.setIfInBounds_toArray, List.set_cons_zero, List.set_cons_succ]
         rfl
        refine two_ (i := 6) (j := 11) (Ni := some 33) (Nj := some 12) #[true, true, true, true, true, true, true, false, false, false, false, false, true, false, false, false] #[true, true, true, true, true, true, false, false, false, false, false, true, true, false, false, false] rfl rfl rfl rfl (two_of HT_.out (by kernel_rfl)) (by decide) (by decide) (fun K hK => ?_) (fun K hK => ?_)
        ·skip
         refine gz Try.func6 #[.int .i64 a0, .agg #[.int .i64 t420, .int .i64 t421, .int .i64 t422, .int .i64 t423], .agg #[.int .i64 t424, .int .i64 t425, .int .i64 t426, .int .i64 t427], .bool a3] ?_
         with_reducible refine (impl_RangeBranch.calls k a0 t420 t421 t422 t423 t424 t425 t426 t427 a3 t428 t429 t430 t431 t432 t433 t434 t435 t436 _ A10.out).mono ?_
         rintro e w35 ⟨rfl, hb⟩
         refine ⟨_, rfl, ?_⟩
         replace BK399 := zb BK399 hb rfl
         replace BK400 := zb BK400 hb rfl
         replace BK418 := zb BK418 hb rfl
         replace BK419 := zb BK419 hb rfl
         replace BK438 := zb BK438 hb rfl
         replace HB := zS hb
         try clear hb
         refine hK.out _ _ ⟨(blk_cell BK399.out 0).trans rfl, (blk_cell BK399.out 1).trans rfl, (blk_cell BK399.out 2).trans rfl, (blk_cell BK399.out 3).trans rfl, (blk_cell BK400.out 0).trans rfl, (blk_cell BK400.out 1).trans rfl, (blk_cell BK400.out 2).trans rfl, (blk_cell BK400.out 3).trans rfl⟩ (fun hHeld => ?_)
         clear hK K
         refine nz ?_
         refine pz 7 26 ?_
         refine pz 8 34 ?_
         refine pz 9 35 ?_
         refine pz 10 36 ?_
         exact norm_ (by first | (simp only [putAll, Act.put, List.setIfInBounds_toArray, List.set_cons_zero, List.set_cons_succ]; done) | (simp only [putAll, Act.put, List.setIfInBounds_toArray, List.set_cons_zero, List.set_cons_succ]; rfl)) (hJ2_4_6_12 (gb438) _ ⟨hHeld, (by exact bq BK399.out), (by exact bq BK400.out), (by exact bq BK418.out), (by exact bq BK419.out), (by exact bq BK438.out), GW438.out, GE438.out, NB399_438.out, NB438_399.out, NB400_438.out, NB438_400.out, NB418_438.out, NB438_418.out, NB419_438.out, NB438_419.out, zB⟩)
        ·skip
         refine box_step ?hg (N := 12) ?hd (cs := #[.int .i64 0, .int .i64 0, .int .i64 0, .int .i64 0]) (t := 24) ?hr ?_; (case hd => rfl); (case hg => rfl); (case hr => first | (go_simp; done) | (go_simp; rfl))
         intro gb437 hg w35 hbox hb
         have BK437 := Aside0.mk hbox
         have GW437 := zW hg
         have GE437 := zW hg
         replace HB := zS hb
         have NB399_437 := zl BK399 hg rfl
         have NB437_399 := zg BK399 hg rfl
         replace BK399 := zb BK399 hb rfl
         have NB400_437 := zl BK400 hg rfl
         have NB437_400 := zg BK400 hg rfl
         replace BK400 := zb BK400 hb rfl
         have NB418_437 := zl BK418 hg rfl
         have NB437_418 := zg BK418 hg rfl
         replace BK418 := zb BK418 hb rfl
         have NB419_437 := zl BK419 hg rfl
         have NB437_419 := zg BK419 hg rfl
         replace BK419 := zb BK419 hb rfl
         have NB438_437 := zl BK438 hg rfl
         have NB437_438 := zg BK438 hg rfl
         replace BK438 := zb BK438 hb rfl
         clear hb hbox hg
         refine hK.out _ _ ⟨(blk_cell BK399.out 0).trans rfl, (blk_cell BK399.out 1).trans rfl, (blk_cell BK399.out 2).trans rfl, (blk_cell BK399.out 3).trans rfl, (blk_cell BK400.out 0).trans rfl, (blk_cell BK400.out 1).trans rfl, (blk_cell BK400.out 2).trans rfl, (blk_cell BK400.out 3).trans rfl⟩ (fun hHeld => ?_)
         clear hK K
         refine nz ?_
         exact norm_ (by first | (simp only [putAll, Act.put, List.setIfInBounds_toArray, List.set_cons_zero, List.set_cons_succ]; done) | (simp only [putAll, Act.put, List.setIfInBounds_toArray, List.set_cons_zero, List.set_cons_succ]; rfl)) (hJ2_4_11_12 (gb437, gb438) _ ⟨hHeld, (by exact bq BK399.out), (by exact bq BK400.out), (by exact bq BK418.out), (by exact bq BK419.out), (by exact bq BK437.out), (by exact bq BK438.out), GW437.out, GE437.out, NB399_437.out, NB437_399.out, NB400_437.out, NB437_400.out, NB418_437.out, NB437_418.out, NB419_437.out, NB437_419.out, NB438_437.out, NB437_438.out, GW438.out, GE438.out, NB399_438.out, NB438_399.out, NB400_438.out, NB438_400.out, NB418_438.out, NB438_418.out, NB419_438.out, NB438_419.out, zB⟩)
      ·skip
       rintro gb437 w34 ⟨hS_, h0_, h1_, h2_, h3_, h4_, h5_, h6_, h7_, h8_, h9_, h10_, h11_, h12_, h13_, h14_, h15_⟩
       have n0_ : Aside0 (w34.heap[gb399]? = some (.cells #[.int .i64 a1_0, .int .i64 a1_1, .int .i64 a1_2, .int .i64 a1_3] 23 (0, 0))) := ⟨h0_⟩
       have n1_ : Aside0 (w34.heap[gb400]? = some (.cells #[.int .i64 a2_0, .int .i64 a2_1, .int .i64 a2_2, .int .i64 a2_3] 23 (0, 0))) := ⟨h1_⟩
       have n2_ : Aside0 (w34.heap[gb418]? = some (.cells #[.int .i64 t409, .int .i64 t410, .int .i64 t411, .int .i64 t412] 24 (0, 0))) := ⟨h2_⟩
       have n3_ : Aside0 (w34.heap[gb419]? = some (.cells #[.int .i64 t413, .int .i64 t414, .int .i64 t415, .int .i64 t416] 24 (0, 0))) := ⟨h3_⟩
       have n4_ : Aside0 (w34.heap[gb437]? = some (.cells #[.int .i64 0, .int .i64 0, .int .i64 0, .int .i64 0] 24 (0, 0))) := ⟨h4_⟩
       have n5_ : Aside0 (w.heap.size ≤ gb437) := ⟨h5_⟩
       have n6_ : Aside0 (w.heap.size ≤ gb437) := ⟨h6_⟩
       have n7_ : Aside0 (gb399 ≠ gb437) := ⟨h7_⟩
       have n8_ : Aside0 (gb437 ≠ gb399) := ⟨h8_⟩
       have n9_ : Aside0 (gb400 ≠ gb437) := ⟨h9_⟩
       have n10_ : Aside0 (gb437 ≠ gb400) := ⟨h10_⟩
       have n11_ : Aside0 (gb418 ≠ gb437) := ⟨h11_⟩
       have n12_ : Aside0 (gb437 ≠ gb418) := ⟨h12_⟩
       have n13_ : Aside0 (gb419 ≠ gb437) := ⟨h13_⟩
       have n14_ : Aside0 (gb437 ≠ gb419) := ⟨h14_⟩
       have n15_ : Aside0 (Below w.heap.size w w34) := ⟨h15_⟩
       clear BK399
       clear BK400
       clear BK418
       clear BK419
       clear HB
       clear h0_ h1_ h2_ h3_ h4_ h5_ h6_ h7_ h8_ h9_ h10_ h11_ h12_ h13_ h14_ h15_
       have BK399 := n0_
       have BK400 := n1_
       have BK418 := n2_
       have BK419 := n3_
       have BK437 := n4_
       have GW437 := n5_
       have GE437 := n6_
       have NB399_437 := n7_
       have NB437_399 := n8_
       have NB400_437 := n9_
       have NB437_400 := n10_
       have NB418_437 := n11_
       have NB437_418 := n12_
       have NB419_437 := n13_
       have NB437_419 := n14_
       have HB := n15_
       clear n0_ n1_ n2_ n3_ n4_ n5_ n6_ n7_ n8_ n9_ n10_ n11_ n12_ n13_ n14_ n15_
       have hHeld : w34.cell? ⟨gb399, 0, none⟩ = some (.int .i64 a1_0) ∧ w34.cell? ⟨gb399, 1, none⟩ = some (.int .i64 a1_1) ∧ w34.cell? ⟨gb399, 2, none⟩ = some (.int .i64 a1_2) ∧ w34.cell? ⟨gb399, 3, none⟩ = some (.int .i64 a1_3) ∧ w34.cell? ⟨gb400, 0, none⟩ = some (.int .i64 a2_0) ∧ w34.cell? ⟨gb400, 1, none⟩ = some (.int .i64 a2_1) ∧ w34.cell? ⟨gb400, 2, none⟩ = some (.int .i64 a2_2) ∧ w34.cell? ⟨gb400, 3, none⟩ = some (.int .i64 a2_3) := hS_
       refine norm_ (a' := ?_) ?_ ?_
       rotate_left
       ·simp only [putAll, Act.put, List.setIfInBounds_toArray, List.set_cons_zero, List.set_cons_succ]
        rfl
       refine two_ (i := 6) (j := 12) (Ni := some 33) (Nj := some 13) #[true, true, true, true, true, true, true, false, false, false, false, true, false, false, false, false] #[true, true, true, true, true, true, false, false, false, false, false, true, true, false, false, false] rfl rfl rfl rfl (two_of HT_.out (by kernel_rfl)) (by decide) (by decide) (fun K hK => ?_) (fun K hK => ?_)
       ·skip
        refine gz Try.func6 #[.int .i64 a0, .agg #[.int .i64 t420, .int .i64 t421, .int .i64 t422, .int .i64 t423], .agg #[.int .i64 t424, .int .i64 t425, .int .i64 t426, .int .i64 t427], .bool a3] ?_
        with_reducible refine (impl_RangeBranch.calls k a0 t420 t421 t422 t423 t424 t425 t426 t427 a3 t428 t429 t430 t431 t432 t433 t434 t435 t436 _ A10.out).mono ?_
        rintro e w35 ⟨rfl, hb⟩
        refine ⟨_, rfl, ?_⟩
        replace BK399 := zb BK399 hb rfl
        replace BK400 := zb BK400 hb rfl
        replace BK418 := zb BK418 hb rfl
        replace BK419 := zb BK419 hb rfl
        replace BK437 := zb BK437 hb rfl
        replace HB := zS hb
        try clear hb
        refine hK.out _ _ ⟨(blk_cell BK399.out 0).trans rfl, (blk_cell BK399.out 1).trans rfl, (blk_cell BK399.out 2).trans rfl, (blk_cell BK399.out 3).trans rfl, (blk_cell BK400.out 0).trans rfl, (blk_cell BK400.out 1).trans rfl, (blk_cell BK400.out 2).trans rfl, (blk_cell BK400.out 3).trans rfl⟩ (fun hHeld => ?_)
        clear hK K
        refine nz ?_
        refine pz 7 26 ?_
        refine pz 8 34 ?_
        refine pz 9 35 ?_
        refine pz 10 36 ?_
        exact norm_ (by first | (simp only [putAll, Act.put, List.setIfInBounds_toArray, List.set_cons_zero, List.set_cons_succ]; done) | (simp only [putAll, Act.put, List.setIfInBounds_toArray, List.set_cons_zero, List.set_cons_succ]; rfl)) (hJ2_4_6_11 (gb437) _ ⟨hHeld, (by exact bq BK399.out), (by exact bq BK400.out), (by exact bq BK418.out), (by exact bq BK419.out), (by exact bq BK437.out), GW437.out, GE437.out, NB399_437.out, NB437_399.out, NB400_437.out, NB437_400.out, NB418_437.out, NB437_418.out, NB419_437.out, NB437_419.out, zB⟩)
       ·skip
        refine box_step ?hg (N := 13) ?hd (cs := #[.int .i64 0, .int .i64 0, .int .i64 0, .int .i64 0]) (t := 24) ?hr ?_; (case hd => rfl); (case hg => rfl); (case hr => first | (go_simp; done) | (go_simp; rfl))
        intro gb438 hg w35 hbox hb
        have BK438 := Aside0.mk hbox
        have GW438 := zW hg
        have GE438 := zW hg
        replace HB := zS hb
        have NB399_438 := zl BK399 hg rfl
        have NB438_399 := zg BK399 hg rfl
        replace BK399 := zb BK399 hb rfl
        have NB400_438 := zl BK400 hg rfl
        have NB438_400 := zg BK400 hg rfl
        replace BK400 := zb BK400 hb rfl
        have NB418_438 := zl BK418 hg rfl
        have NB438_418 := zg BK418 hg rfl
        replace BK418 := zb BK418 hb rfl
        have NB419_438 := zl BK419 hg rfl
        have NB438_419 := zg BK419 hg rfl
        replace BK419 := zb BK419 hb rfl
        have NB437_438 := zl BK437 hg rfl
        have NB438_437 := zg BK437 hg rfl
        replace BK437 := zb BK437 hb rfl
        clear hb hbox hg
        refine hK.out _ _ ⟨(blk_cell BK399.out 0).trans rfl, (blk_cell BK399.out 1).trans rfl, (blk_cell BK399.out 2).trans rfl, (blk_cell BK399.out 3).trans rfl, (blk_cell BK400.out 0).trans rfl, (blk_cell BK400.out 1).trans rfl, (blk_cell BK400.out 2).trans rfl, (blk_cell BK400.out 3).trans rfl⟩ (fun hHeld => ?_)
        clear hK K
        refine nz ?_
        exact norm_ (by first | (simp only [putAll, Act.put, List.setIfInBounds_toArray, List.set_cons_zero, List.set_cons_succ]; done) | (simp only [putAll, Act.put, List.setIfInBounds_toArray, List.set_cons_zero, List.set_cons_succ]; rfl)) (hJ2_4_11_12 (gb437, gb438) _ ⟨hHeld, (by exact bq BK399.out), (by exact bq BK400.out), (by exact bq BK418.out), (by exact bq BK419.out), (by exact bq BK437.out), (by exact bq BK438.out), GW437.out, GE437.out, NB399_437.out, NB437_399.out, NB400_437.out, NB437_400.out, NB418_437.out, NB437_418.out, NB419_437.out, NB437_419.out, NB438_437.out, NB437_438.out, GW438.out, GE438.out, NB399_438.out, NB438_399.out, NB400_438.out, NB438_400.out, NB418_438.out, NB438_418.out, NB419_438.out, NB438_419.out, zB⟩)
     ·skip
      rintro _ w34 ⟨hS_, h0_, h1_, h2_, h3_, h4_⟩
      have n0_ : Aside0 (w34.heap[gb399]? = some (.cells #[.int .i64 a1_0, .int .i64 a1_1, .int .i64 a1_2, .int .i64 a1_3] 23 (0, 0))) := ⟨h0_⟩
      have n1_ : Aside0 (w34.heap[gb400]? = some (.cells #[.int .i64 a2_0, .int .i64 a2_1, .int .i64 a2_2, .int .i64 a2_3] 23 (0, 0))) := ⟨h1_⟩
      have n2_ : Aside0 (w34.heap[gb418]? = some (.cells #[.int .i64 t409, .int .i64 t410, .int .i64 t411, .int .i64 t412] 24 (0, 0))) := ⟨h2_⟩
      have n3_ : Aside0 (w34.heap[gb419]? = some (.cells #[.int .i64 t413, .int .i64 t414, .int .i64 t415, .int .i64 t416] 24 (0, 0))) := ⟨h3_⟩
      have n4_ : Aside0 (Below w.heap.size w w34) := ⟨h4_⟩
      clear BK399
      clear BK400
      clear BK418
      clear BK419
      clear HB
      clear h0_ h1_ h2_ h3_ h4_
      have BK399 := n0_
      have BK400 := n1_
      have BK418 := n2_
      have BK419 := n3_
      have HB := n4_
      clear n0_ n1_ n2_ n3_ n4_
      have hHeld : w34.cell? ⟨gb399, 0, none⟩ = some (.int .i64 a1_0) ∧ w34.cell? ⟨gb399, 1, none⟩ = some (.int .i64 a1_1) ∧ w34.cell? ⟨gb399, 2, none⟩ = some (.int .i64 a1_2) ∧ w34.cell? ⟨gb399, 3, none⟩ = some (.int .i64 a1_3) ∧ w34.cell? ⟨gb400, 0, none⟩ = some (.int .i64 a2_0) ∧ w34.cell? ⟨gb400, 1, none⟩ = some (.int .i64 a2_1) ∧ w34.cell? ⟨gb400, 2, none⟩ = some (.int .i64 a2_2) ∧ w34.cell? ⟨gb400, 3, none⟩ = some (.int .i64 a2_3) := hS_
      refine norm_ (a' := ?_) ?_ ?_
      rotate_left
      ·simp only [putAll, Act.put, List.setIfInBounds_toArray, List.set_cons_zero, List.set_cons_succ]
       rfl
      refine two_ (i := 11) (j := 12) (Ni := some 12) (Nj := some 13) #[true, true, true, true, true, true, true, true, true, true, true, true, false, false, false, false] #[true, true, true, true, true, true, true, true, true, true, true, false, true, false, false, false] rfl rfl rfl rfl (two_of HT_.out (by kernel_rfl)) (by decide) (by decide) (fun K hK => ?_) (fun K hK => ?_)
      ·skip
       refine box_step ?hg (N := 12) ?hd (cs := #[.int .i64 0, .int .i64 0, .int .i64 0, .int .i64 0]) (t := 24) ?hr ?_; (case hd => rfl); (case hg => rfl); (case hr => first | (go_simp; done) | (go_simp; rfl))
       intro gb437 hg w35 hbox hb
       have BK437 := Aside0.mk hbox
       have GW437 := zW hg
       have GE437 := zW hg
       replace HB := zS hb
       have NB399_437 := zl BK399 hg rfl
       have NB437_399 := zg BK399 hg rfl
       replace BK399 := zb BK399 hb rfl
       have NB400_437 := zl BK400 hg rfl
       have NB437_400 := zg BK400 hg rfl
       replace BK400 := zb BK400 hb rfl
       have NB418_437 := zl BK418 hg rfl
       have NB437_418 := zg BK418 hg rfl
       replace BK418 := zb BK418 hb rfl
       have NB419_437 := zl BK419 hg rfl
       have NB437_419 := zg BK419 hg rfl
       replace BK419 := zb BK419 hb rfl
       clear hb hbox hg
       refine hK.out _ _ ⟨(blk_cell BK399.out 0).trans rfl, (blk_cell BK399.out 1).trans rfl, (blk_cell BK399.out 2).trans rfl, (blk_cell BK399.out 3).trans rfl, (blk_cell BK400.out 0).trans rfl, (blk_cell BK400.out 1).trans rfl, (blk_cell BK400.out 2).trans rfl, (blk_cell BK400.out 3).trans rfl⟩ (fun hHeld => ?_)
       clear hK K
       refine nz ?_
       exact norm_ (by first | (simp only [putAll, Act.put, List.setIfInBounds_toArray, List.set_cons_zero, List.set_cons_succ]; done) | (simp only [putAll, Act.put, List.setIfInBounds_toArray, List.set_cons_zero, List.set_cons_succ]; rfl)) (hJ2_4_6_11 (gb437) _ ⟨hHeld, (by exact bq BK399.out), (by exact bq BK400.out), (by exact bq BK418.out), (by exact bq BK419.out), (by exact bq BK437.out), GW437.out, GE437.out, NB399_437.out, NB437_399.out, NB400_437.out, NB437_400.out, NB418_437.out, NB437_418.out, NB419_437.out, NB437_419.out, zB⟩)
      ·skip
       refine box_step ?hg (N := 13) ?hd (cs := #[.int .i64 0, .int .i64 0, .int .i64 0, .int .i64 0]) (t := 24) ?hr ?_; (case hd => rfl); (case hg => rfl); (case hr => first | (go_simp; done) | (go_simp; rfl))
       intro gb438 hg w35 hbox hb
       have BK438 := Aside0.mk hbox
       have GW438 := zW hg
       have GE438 := zW hg
       replace HB := zS hb
       have NB399_438 := zl BK399 hg rfl
       have NB438_399 := zg BK399 hg rfl
       replace BK399 := zb BK399 hb rfl
       have NB400_438 := zl BK400 hg rfl
       have NB438_400 := zg BK400 hg rfl
       replace BK400 := zb BK400 hb rfl
       have NB418_438 := zl BK418 hg rfl
       have NB438_418 := zg BK418 hg rfl
       replace BK418 := zb BK418 hb rfl
       have NB419_438 := zl BK419 hg rfl
       have NB438_419 := zg BK419 hg rfl
       replace BK419 := zb BK419 hb rfl
       clear hb hbox hg
       refine hK.out _ _ ⟨(blk_cell BK399.out 0).trans rfl, (blk_cell BK399.out 1).trans rfl, (blk_cell BK399.out 2).trans rfl, (blk_cell BK399.out 3).trans rfl, (blk_cell BK400.out 0).trans rfl, (blk_cell BK400.out 1).trans rfl, (blk_cell BK400.out 2).trans rfl, (blk_cell BK400.out 3).trans rfl⟩ (fun hHeld => ?_)
       clear hK K
       refine nz ?_
       exact norm_ (by first | (simp only [putAll, Act.put, List.setIfInBounds_toArray, List.set_cons_zero, List.set_cons_succ]; done) | (simp only [putAll, Act.put, List.setIfInBounds_toArray, List.set_cons_zero, List.set_cons_succ]; rfl)) (hJ2_4_6_12 (gb438) _ ⟨hHeld, (by exact bq BK399.out), (by exact bq BK400.out), (by exact bq BK418.out), (by exact bq BK419.out), (by exact bq BK438.out), GW438.out, GE438.out, NB399_438.out, NB438_399.out, NB400_438.out, NB438_400.out, NB418_438.out, NB438_418.out, NB419_438.out, NB438_419.out, zB⟩)
    ·skip
     rintro ⟨gb437, gb438⟩ w35 ⟨hS_, h0_, h1_, h2_, h3_, h4_, h5_, h6_, h7_, h8_, h9_, h10_, h11_, h12_, h13_, h14_, h15_, h16_, h17_, h18_, h19_, h20_, h21_, h22_, h23_, h24_, h25_, h26_, h27_, h28_⟩
     have n0_ : Aside0 (w35.heap[gb399]? = some (.cells #[.int .i64 a1_0, .int .i64 a1_1, .int .i64 a1_2, .int .i64 a1_3] 23 (0, 0))) := ⟨h0_⟩
     have n1_ : Aside0 (w35.heap[gb400]? = some (.cells #[.int .i64 a2_0, .int .i64 a2_1, .int .i64 a2_2, .int .i64 a2_3] 23 (0, 0))) := ⟨h1_⟩
     have n2_ : Aside0 (w35.heap[gb418]? = some (.cells #[.int .i64 t409, .int .i64 t410, .int .i64 t411, .int .i64 t412] 24 (0, 0))) := ⟨h2_⟩
     have n3_ : Aside0 (w35.heap[gb419]? = some (.cells #[.int .i64 t413, .int .i64 t414, .int .i64 t415, .int .i64 t416] 24 (0, 0))) := ⟨h3_⟩
     have n4_ : Aside0 (w35.heap[gb437]? = some (.cells #[.int .i64 0, .int .i64 0, .int .i64 0, .int .i64 0] 24 (0, 0))) := ⟨h4_⟩
     have n5_ : Aside0 (w35.heap[gb438]? = some (.cells #[.int .i64 0, .int .i64 0, .int .i64 0, .int .i64 0] 24 (0, 0))) := ⟨h5_⟩
     have n6_ : Aside0 (w.heap.size ≤ gb437) := ⟨h6_⟩
     have n7_ : Aside0 (w.heap.size ≤ gb437) := ⟨h7_⟩
     have n8_ : Aside0 (gb399 ≠ gb437) := ⟨h8_⟩
     have n9_ : Aside0 (gb437 ≠ gb399) := ⟨h9_⟩
     have n10_ : Aside0 (gb400 ≠ gb437) := ⟨h10_⟩
     have n11_ : Aside0 (gb437 ≠ gb400) := ⟨h11_⟩
     have n12_ : Aside0 (gb418 ≠ gb437) := ⟨h12_⟩
     have n13_ : Aside0 (gb437 ≠ gb418) := ⟨h13_⟩
     have n14_ : Aside0 (gb419 ≠ gb437) := ⟨h14_⟩
     have n15_ : Aside0 (gb437 ≠ gb419) := ⟨h15_⟩
     have n16_ : Aside0 (gb438 ≠ gb437) := ⟨h16_⟩
     have n17_ : Aside0 (gb437 ≠ gb438) := ⟨h17_⟩
     have n18_ : Aside0 (w.heap.size ≤ gb438) := ⟨h18_⟩
     have n19_ : Aside0 (w.heap.size ≤ gb438) := ⟨h19_⟩
     have n20_ : Aside0 (gb399 ≠ gb438) := ⟨h20_⟩
     have n21_ : Aside0 (gb438 ≠ gb399) := ⟨h21_⟩
     have n22_ : Aside0 (gb400 ≠ gb438) := ⟨h22_⟩
     have n23_ : Aside0 (gb438 ≠ gb400) := ⟨h23_⟩
     have n24_ : Aside0 (gb418 ≠ gb438) := ⟨h24_⟩
     have n25_ : Aside0 (gb438 ≠ gb418) := ⟨h25_⟩
     have n26_ : Aside0 (gb419 ≠ gb438) := ⟨h26_⟩
     have n27_ : Aside0 (gb438 ≠ gb419) := ⟨h27_⟩
     have n28_ : Aside0 (Below w.heap.size w w35) := ⟨h28_⟩
     clear BK399
     clear BK400
     clear BK418
     clear BK419
     clear HB
     clear h0_ h1_ h2_ h3_ h4_ h5_ h6_ h7_ h8_ h9_ h10_ h11_ h12_ h13_ h14_ h15_ h16_ h17_ h18_ h19_ h20_ h21_ h22_ h23_ h24_ h25_ h26_ h27_ h28_
     have BK399 := n0_
     have BK400 := n1_
     have BK418 := n2_
     have BK419 := n3_
     have BK437 := n4_
     have BK438 := n5_
     have GW437 := n6_
     have GE437 := n7_
     have NB399_437 := n8_
     have NB437_399 := n9_
     have NB400_437 := n10_
     have NB437_400 := n11_
     have NB418_437 := n12_
     have NB437_418 := n13_
     have NB419_437 := n14_
     have NB437_419 := n15_
     have NB438_437 := n16_
     have NB437_438 := n17_
     have GW438 := n18_
     have GE438 := n19_
     have NB399_438 := n20_
     have NB438_399 := n21_
     have NB400_438 := n22_
     have NB438_400 := n23_
     have NB418_438 := n24_
     have NB438_418 := n25_
     have NB419_438 := n26_
     have NB438_419 := n27_
     have HB := n28_
     clear n0_ n1_ n2_ n3_ n4_ n5_ n6_ n7_ n8_ n9_ n10_ n11_ n12_ n13_ n14_ n15_ n16_ n17_ n18_ n19_ n20_ n21_ n22_ n23_ n24_ n25_ n26_ n27_ n28_
     have hHeld : w35.cell? ⟨gb399, 0, none⟩ = some (.int .i64 a1_0) ∧ w35.cell? ⟨gb399, 1, none⟩ = some (.int .i64 a1_1) ∧ w35.cell? ⟨gb399, 2, none⟩ = some (.int .i64 a1_2) ∧ w35.cell? ⟨gb399, 3, none⟩ = some (.int .i64 a1_3) ∧ w35.cell? ⟨gb400, 0, none⟩ = some (.int .i64 a2_0) ∧ w35.cell? ⟨gb400, 1, none⟩ = some (.int .i64 a2_1) ∧ w35.cell? ⟨gb400, 2, none⟩ = some (.int .i64 a2_2) ∧ w35.cell? ⟨gb400, 3, none⟩ = some (.int .i64 a2_3) := hS_
     refine norm_ (a' := ?_) ?_ ?_
     rotate_left
     ·simp only [putAll, Act.put, List.setIfInBounds_toArray, List.set_cons_zero, List.set_cons_succ]
      rfl
     refine oz 6 33 fun K hK => ?_
     refine gz Try.func6 #[.int .i64 a0, .agg #[.int .i64 t420, .int .i64 t421, .int .i64 t422, .int .i64 t423], .agg #[.int .i64 t424, .int .i64 t425, .int .i64 t426, .int .i64 t427], .bool a3] ?_
     with_reducible refine (impl_RangeBranch.calls k a0 t420 t421 t422 t423 t424 t425 t426 t427 a3 t428 t429 t430 t431 t432 t433 t434 t435 t436 _ A10.out).mono ?_
     rintro e w36 ⟨rfl, hb⟩
     refine ⟨_, rfl, ?_⟩
     replace BK399 := zb BK399 hb rfl
     replace BK400 := zb BK400 hb rfl
     replace BK418 := zb BK418 hb rfl
     replace BK419 := zb BK419 hb rfl
     replace BK437 := zb BK437 hb rfl
     replace BK438 := zb BK438 hb rfl
     replace HB := zS hb
     try clear hb
     refine hK.out _ _ ⟨(blk_cell BK399.out 0).trans rfl, (blk_cell BK399.out 1).trans rfl, (blk_cell BK399.out 2).trans rfl, (blk_cell BK399.out 3).trans rfl, (blk_cell BK400.out 0).trans rfl, (blk_cell BK400.out 1).trans rfl, (blk_cell BK400.out 2).trans rfl, (blk_cell BK400.out 3).trans rfl⟩ (fun hHeld => ?_)
     clear hK K
     refine nz ?_
     refine pz 7 26 ?_
     refine pz 8 34 ?_
     refine pz 9 35 ?_
     refine pz 10 36 ?_
     exact norm_ (by first | (simp only [putAll, Act.put, List.setIfInBounds_toArray, List.set_cons_zero, List.set_cons_succ]; done) | (simp only [putAll, Act.put, List.setIfInBounds_toArray, List.set_cons_zero, List.set_cons_succ]; rfl)) (hJ2_4_6_11_12 (gb437, gb438) _ ⟨hHeld, (by exact bq BK399.out), (by exact bq BK400.out), (by exact bq BK418.out), (by exact bq BK419.out), (by exact bq BK437.out), (by exact bq BK438.out), GW437.out, GE437.out, NB399_437.out, NB437_399.out, NB400_437.out, NB437_400.out, NB418_437.out, NB437_418.out, NB419_437.out, NB437_419.out, NB438_437.out, NB437_438.out, GW438.out, GE438.out, NB399_438.out, NB438_399.out, NB400_438.out, NB438_400.out, NB418_438.out, NB438_418.out, NB419_438.out, NB438_419.out, zB⟩)
   ·skip
    rintro gb438 w35 ⟨hS_, h0_, h1_, h2_, h3_, h4_, h5_, h6_, h7_, h8_, h9_, h10_, h11_, h12_, h13_, h14_, h15_⟩
    have n0_ : Aside0 (w35.heap[gb399]? = some (.cells #[.int .i64 a1_0, .int .i64 a1_1, .int .i64 a1_2, .int .i64 a1_3] 23 (0, 0))) := ⟨h0_⟩
    have n1_ : Aside0 (w35.heap[gb400]? = some (.cells #[.int .i64 a2_0, .int .i64 a2_1, .int .i64 a2_2, .int .i64 a2_3] 23 (0, 0))) := ⟨h1_⟩
    have n2_ : Aside0 (w35.heap[gb418]? = some (.cells #[.int .i64 t409, .int .i64 t410, .int .i64 t411, .int .i64 t412] 24 (0, 0))) := ⟨h2_⟩
    have n3_ : Aside0 (w35.heap[gb419]? = some (.cells #[.int .i64 t413, .int .i64 t414, .int .i64 t415, .int .i64 t416] 24 (0, 0))) := ⟨h3_⟩
    have n4_ : Aside0 (w35.heap[gb438]? = some (.cells #[.int .i64 0, .int .i64 0, .int .i64 0, .int .i64 0] 24 (0, 0))) := ⟨h4_⟩
    have n5_ : Aside0 (w.heap.size ≤ gb438) := ⟨h5_⟩
    have n6_ : Aside0 (w.heap.size ≤ gb438) := ⟨h6_⟩
    have n7_ : Aside0 (gb399 ≠ gb438) := ⟨h7_⟩
    have n8_ : Aside0 (gb438 ≠ gb399) := ⟨h8_⟩
    have n9_ : Aside0 (gb400 ≠ gb438) := ⟨h9_⟩
    have n10_ : Aside0 (gb438 ≠ gb400) := ⟨h10_⟩
    have n11_ : Aside0 (gb418 ≠ gb438) := ⟨h11_⟩
    have n12_ : Aside0 (gb438 ≠ gb418) := ⟨h12_⟩
    have n13_ : Aside0 (gb419 ≠ gb438) := ⟨h13_⟩
    have n14_ : Aside0 (gb438 ≠ gb419) := ⟨h14_⟩
    have n15_ : Aside0 (Below w.heap.size w w35) := ⟨h15_⟩
    clear BK399
    clear BK400
    clear BK418
    clear BK419
    clear HB
    clear h0_ h1_ h2_ h3_ h4_ h5_ h6_ h7_ h8_ h9_ h10_ h11_ h12_ h13_ h14_ h15_
    have BK399 := n0_
    have BK400 := n1_
    have BK418 := n2_
    have BK419 := n3_
    have BK438 := n4_
    have GW438 := n5_
    have GE438 := n6_
    have NB399_438 := n7_
    have NB438_399 := n8_
    have NB400_438 := n9_
    have NB438_400 := n10_
    have NB418_438 := n11_
    have NB438_418 := n12_
    have NB419_438 := n13_
    have NB438_419 := n14_
    have HB := n15_
    clear n0_ n1_ n2_ n3_ n4_ n5_ n6_ n7_ n8_ n9_ n10_ n11_ n12_ n13_ n14_ n15_
    have hHeld : w35.cell? ⟨gb399, 0, none⟩ = some (.int .i64 a1_0) ∧ w35.cell? ⟨gb399, 1, none⟩ = some (.int .i64 a1_1) ∧ w35.cell? ⟨gb399, 2, none⟩ = some (.int .i64 a1_2) ∧ w35.cell? ⟨gb399, 3, none⟩ = some (.int .i64 a1_3) ∧ w35.cell? ⟨gb400, 0, none⟩ = some (.int .i64 a2_0) ∧ w35.cell? ⟨gb400, 1, none⟩ = some (.int .i64 a2_1) ∧ w35.cell? ⟨gb400, 2, none⟩ = some (.int .i64 a2_2) ∧ w35.cell? ⟨gb400, 3, none⟩ = some (.int .i64 a2_3) := hS_
    refine norm_ (a' := ?_) ?_ ?_
    rotate_left
    ·simp only [putAll, Act.put, List.setIfInBounds_toArray, List.set_cons_zero, List.set_cons_succ]
     rfl
    refine oz 11 12 fun K hK => ?_
    refine box_step ?hg (N := 12) ?hd (cs := #[.int .i64 0, .int .i64 0, .int .i64 0, .int .i64 0]) (t := 24) ?hr ?_; (case hd => rfl); (case hg => rfl); (case hr => first | (go_simp; done) | (go_simp; rfl))
    intro gb437 hg w36 hbox hb
    have BK437 := Aside0.mk hbox
    have GW437 := zW hg
    have GE437 := zW hg
    replace HB := zS hb
    have NB399_437 := zl BK399 hg rfl
    have NB437_399 := zg BK399 hg rfl
    replace BK399 := zb BK399 hb rfl
    have NB400_437 := zl BK400 hg rfl
    have NB437_400 := zg BK400 hg rfl
    replace BK400 := zb BK400 hb rfl
    have NB418_437 := zl BK418 hg rfl
    have NB437_418 := zg BK418 hg rfl
    replace BK418 := zb BK418 hb rfl
    have NB419_437 := zl BK419 hg rfl
    have NB437_419 := zg BK419 hg rfl
    replace BK419 := zb BK419 hb rfl
    have NB438_437 := zl BK438 hg rfl
    have NB437_438 := zg BK438 hg rfl
    replace BK438 := zb BK438 hb rfl
    clear hb hbox hg
    refine hK.out _ _ ⟨(blk_cell BK399.out 0).trans rfl, (blk_cell BK399.out 1).trans rfl, (blk_cell BK399.out 2).trans rfl, (blk_cell BK399.out 3).trans rfl, (blk_cell BK400.out 0).trans rfl, (blk_cell BK400.out 1).trans rfl, (blk_cell BK400.out 2).trans rfl, (blk_cell BK400.out 3).trans rfl⟩ (fun hHeld => ?_)
    clear hK K
    refine nz ?_
    exact norm_ (by first | (simp only [putAll, Act.put, List.setIfInBounds_toArray, List.set_cons_zero, List.set_cons_succ]; done) | (simp only [putAll, Act.put, List.setIfInBounds_toArray, List.set_cons_zero, List.set_cons_succ]; rfl)) (hJ2_4_6_11_12 (gb437, gb438) _ ⟨hHeld, (by exact bq BK399.out), (by exact bq BK400.out), (by exact bq BK418.out), (by exact bq BK419.out), (by exact bq BK437.out), (by exact bq BK438.out), GW437.out, GE437.out, NB399_437.out, NB437_399.out, NB400_437.out, NB437_400.out, NB418_437.out, NB437_418.out, NB419_437.out, NB437_419.out, NB438_437.out, NB437_438.out, GW438.out, GE438.out, NB399_438.out, NB438_399.out, NB400_438.out, NB438_400.out, NB418_438.out, NB438_418.out, NB419_438.out, NB438_419.out, zB⟩)
  ·skip
   rintro gb437 w35 ⟨hS_, h0_, h1_, h2_, h3_, h4_, h5_, h6_, h7_, h8_, h9_, h10_, h11_, h12_, h13_, h14_, h15_⟩
   have n0_ : Aside0 (w35.heap[gb399]? = some (.cells #[.int .i64 a1_0, .int .i64 a1_1, .int .i64 a1_2, .int .i64 a1_3] 23 (0, 0))) := ⟨h0_⟩
   have n1_ : Aside0 (w35.heap[gb400]? = some (.cells #[.int .i64 a2_0, .int .i64 a2_1, .int .i64 a2_2, .int .i64 a2_3] 23 (0, 0))) := ⟨h1_⟩
   have n2_ : Aside0 (w35.heap[gb418]? = some (.cells #[.int .i64 t409, .int .i64 t410, .int .i64 t411, .int .i64 t412] 24 (0, 0))) := ⟨h2_⟩
   have n3_ : Aside0 (w35.heap[gb419]? = some (.cells #[.int .i64 t413, .int .i64 t414, .int .i64 t415, .int .i64 t416] 24 (0, 0))) := ⟨h3_⟩
   have n4_ : Aside0 (w35.heap[gb437]? = some (.cells #[.int .i64 0, .int .i64 0, .int .i64 0, .int .i64 0] 24 (0, 0))) := ⟨h4_⟩
   have n5_ : Aside0 (w.heap.size ≤ gb437) := ⟨h5_⟩
   have n6_ : Aside0 (w.heap.size ≤ gb437) := ⟨h6_⟩
   have n7_ : Aside0 (gb399 ≠ gb437) := ⟨h7_⟩
   have n8_ : Aside0 (gb437 ≠ gb399) := ⟨h8_⟩
   have n9_ : Aside0 (gb400 ≠ gb437) := ⟨h9_⟩
   have n10_ : Aside0 (gb437 ≠ gb400) := ⟨h10_⟩
   have n11_ : Aside0 (gb418 ≠ gb437) := ⟨h11_⟩
   have n12_ : Aside0 (gb437 ≠ gb418) := ⟨h12_⟩
   have n13_ : Aside0 (gb419 ≠ gb437) := ⟨h13_⟩
   have n14_ : Aside0 (gb437 ≠ gb419) := ⟨h14_⟩
   have n15_ : Aside0 (Below w.heap.size w w35) := ⟨h15_⟩
   clear BK399
   clear BK400
   clear BK418
   clear BK419
   clear HB
   clear h0_ h1_ h2_ h3_ h4_ h5_ h6_ h7_ h8_ h9_ h10_ h11_ h12_ h13_ h14_ h15_
   have BK399 := n0_
   have BK400 := n1_
   have BK418 := n2_
   have BK419 := n3_
   have BK437 := n4_
   have GW437 := n5_
   have GE437 := n6_
   have NB399_437 := n7_
   have NB437_399 := n8_
   have NB400_437 := n9_
   have NB437_400 := n10_
   have NB418_437 := n11_
   have NB437_418 := n12_
   have NB419_437 := n13_
   have NB437_419 := n14_
   have HB := n15_
   clear n0_ n1_ n2_ n3_ n4_ n5_ n6_ n7_ n8_ n9_ n10_ n11_ n12_ n13_ n14_ n15_
   have hHeld : w35.cell? ⟨gb399, 0, none⟩ = some (.int .i64 a1_0) ∧ w35.cell? ⟨gb399, 1, none⟩ = some (.int .i64 a1_1) ∧ w35.cell? ⟨gb399, 2, none⟩ = some (.int .i64 a1_2) ∧ w35.cell? ⟨gb399, 3, none⟩ = some (.int .i64 a1_3) ∧ w35.cell? ⟨gb400, 0, none⟩ = some (.int .i64 a2_0) ∧ w35.cell? ⟨gb400, 1, none⟩ = some (.int .i64 a2_1) ∧ w35.cell? ⟨gb400, 2, none⟩ = some (.int .i64 a2_2) ∧ w35.cell? ⟨gb400, 3, none⟩ = some (.int .i64 a2_3) := hS_
   refine norm_ (a' := ?_) ?_ ?_
   rotate_left
   ·simp only [putAll, Act.put, List.setIfInBounds_toArray, List.set_cons_zero, List.set_cons_succ]
    rfl
   refine oz 12 13 fun K hK => ?_
   refine box_step ?hg (N := 13) ?hd (cs := #[.int .i64 0, .int .i64 0, .int .i64 0, .int .i64 0]) (t := 24) ?hr ?_; (case hd => rfl); (case hg => rfl); (case hr => first | (go_simp; done) | (go_simp; rfl))
   intro gb438 hg w36 hbox hb
   have BK438 := Aside0.mk hbox
   have GW438 := zW hg
   have GE438 := zW hg
   replace HB := zS hb
   have NB399_438 := zl BK399 hg rfl
   have NB438_399 := zg BK399 hg rfl
   replace BK399 := zb BK399 hb rfl
   have NB400_438 := zl BK400 hg rfl
   have NB438_400 := zg BK400 hg rfl
   replace BK400 := zb BK400 hb rfl
   have NB418_438 := zl BK418 hg rfl
   have NB438_418 := zg BK418 hg rfl
   replace BK418 := zb BK418 hb rfl
   have NB419_438 := zl BK419 hg rfl
   have NB438_419 := zg BK419 hg rfl
   replace BK419 := zb BK419 hb rfl
   have NB437_438 := zl BK437 hg rfl
   have NB438_437 := zg BK437 hg rfl
   replace BK437 := zb BK437 hb rfl
   clear hb hbox hg
   refine hK.out _ _ ⟨(blk_cell BK399.out 0).trans rfl, (blk_cell BK399.out 1).trans rfl, (blk_cell BK399.out 2).trans rfl, (blk_cell BK399.out 3).trans rfl, (blk_cell BK400.out 0).trans rfl, (blk_cell BK400.out 1).trans rfl, (blk_cell BK400.out 2).trans rfl, (blk_cell BK400.out 3).trans rfl⟩ (fun hHeld => ?_)
   clear hK K
   refine nz ?_
   exact norm_ (by first | (simp only [putAll, Act.put, List.setIfInBounds_toArray, List.set_cons_zero, List.set_cons_succ]; done) | (simp only [putAll, Act.put, List.setIfInBounds_toArray, List.set_cons_zero, List.set_cons_succ]; rfl)) (hJ2_4_6_11_12 (gb437, gb438) _ ⟨hHeld, (by exact bq BK399.out), (by exact bq BK400.out), (by exact bq BK418.out), (by exact bq BK419.out), (by exact bq BK437.out), (by exact bq BK438.out), GW437.out, GE437.out, NB399_437.out, NB437_399.out, NB400_437.out, NB437_400.out, NB418_437.out, NB437_418.out, NB419_437.out, NB437_419.out, NB438_437.out, NB437_438.out, GW438.out, GE438.out, NB399_438.out, NB438_399.out, NB400_438.out, NB438_400.out, NB418_438.out, NB438_418.out, NB419_438.out, NB438_419.out, zB⟩)
 rintro ⟨gb437, gb438⟩ w36 ⟨hS_, h0_, h1_, h2_, h3_, h4_, h5_, h6_, h7_, h8_, h9_, h10_, h11_, h12_, h13_, h14_, h15_, h16_, h17_, h18_, h19_, h20_, h21_, h22_, h23_, h24_, h25_, h26_, h27_, h28_⟩
 have n0_ : Aside0 (w36.heap[gb399]? = some (.cells #[.int .i64 a1_0, .int .i64 a1_1, .int .i64 a1_2, .int .i64 a1_3] 23 (0, 0))) := ⟨h0_⟩
 have n1_ : Aside0 (w36.heap[gb400]? = some (.cells #[.int .i64 a2_0, .int .i64 a2_1, .int .i64 a2_2, .int .i64 a2_3] 23 (0, 0))) := ⟨h1_⟩
 have n2_ : Aside0 (w36.heap[gb418]? = some (.cells #[.int .i64 t409, .int .i64 t410, .int .i64 t411, .int .i64 t412] 24 (0, 0))) := ⟨h2_⟩
 have n3_ : Aside0 (w36.heap[gb419]? = some (.cells #[.int .i64 t413, .int .i64 t414, .int .i64 t415, .int .i64 t416] 24 (0, 0))) := ⟨h3_⟩
 have n4_ : Aside0 (w36.heap[gb437]? = some (.cells #[.int .i64 0, .int .i64 0, .int .i64 0, .int .i64 0] 24 (0, 0))) := ⟨h4_⟩
 have n5_ : Aside0 (w36.heap[gb438]? = some (.cells #[.int .i64 0, .int .i64 0, .int .i64 0, .int .i64 0] 24 (0, 0))) := ⟨h5_⟩
 have n6_ : Aside0 (w.heap.size ≤ gb437) := ⟨h6_⟩
 have n7_ : Aside0 (w.heap.size ≤ gb437) := ⟨h7_⟩
 have n8_ : Aside0 (gb399 ≠ gb437) := ⟨h8_⟩
 have n9_ : Aside0 (gb437 ≠ gb399) := ⟨h9_⟩
 have n10_ : Aside0 (gb400 ≠ gb437) := ⟨h10_⟩
 have n11_ : Aside0 (gb437 ≠ gb400) := ⟨h11_⟩
 have n12_ : Aside0 (gb418 ≠ gb437) := ⟨h12_⟩
 have n13_ : Aside0 (gb437 ≠ gb418) := ⟨h13_⟩
 have n14_ : Aside0 (gb419 ≠ gb437) := ⟨h14_⟩
 have n15_ : Aside0 (gb437 ≠ gb419) := ⟨h15_⟩
 have n16_ : Aside0 (gb438 ≠ gb437) := ⟨h16_⟩
 have n17_ : Aside0 (gb437 ≠ gb438) := ⟨h17_⟩
 have n18_ : Aside0 (w.heap.size ≤ gb438) := ⟨h18_⟩
 have n19_ : Aside0 (w.heap.size ≤ gb438) := ⟨h19_⟩
 have n20_ : Aside0 (gb399 ≠ gb438) := ⟨h20_⟩
 have n21_ : Aside0 (gb438 ≠ gb399) := ⟨h21_⟩
 have n22_ : Aside0 (gb400 ≠ gb438) := ⟨h22_⟩
 have n23_ : Aside0 (gb438 ≠ gb400) := ⟨h23_⟩
 have n24_ : Aside0 (gb418 ≠ gb438) := ⟨h24_⟩
 have n25_ : Aside0 (gb438 ≠ gb418) := ⟨h25_⟩
 have n26_ : Aside0 (gb419 ≠ gb438) := ⟨h26_⟩
 have n27_ : Aside0 (gb438 ≠ gb419) := ⟨h27_⟩
 have n28_ : Aside0 (Below w.heap.size w w36) := ⟨h28_⟩
 clear BK399
 clear BK400
 clear BK418
 clear BK419
 clear HB
 clear h0_ h1_ h2_ h3_ h4_ h5_ h6_ h7_ h8_ h9_ h10_ h11_ h12_ h13_ h14_ h15_ h16_ h17_ h18_ h19_ h20_ h21_ h22_ h23_ h24_ h25_ h26_ h27_ h28_
 have BK399 := n0_
 have BK400 := n1_
 have BK418 := n2_
 have BK419 := n3_
 have BK437 := n4_
 have BK438 := n5_
 have GW437 := n6_
 have GE437 := n7_
 have NB399_437 := n8_
 have NB437_399 := n9_
 have NB400_437 := n10_
 have NB437_400 := n11_
 have NB418_437 := n12_
 have NB437_418 := n13_
 have NB419_437 := n14_
 have NB437_419 := n15_
 have NB438_437 := n16_
 have NB437_438 := n17_
 have GW438 := n18_
 have GE438 := n19_
 have NB399_438 := n20_
 have NB438_399 := n21_
 have NB400_438 := n22_
 have NB438_400 := n23_
 have NB418_438 := n24_
 have NB438_418 := n25_
 have NB419_438 := n26_
 have NB438_419 := n27_
 have HB := n28_
 clear n0_ n1_ n2_ n3_ n4_ n5_ n6_ n7_ n8_ n9_ n10_ n11_ n12_ n13_ n14_ n15_ n16_ n17_ n18_ n19_ n20_ n21_ n22_ n23_ n24_ n25_ n26_ n27_ n28_
 have hHeld : w36.cell? ⟨gb399, 0, none⟩ = some (.int .i64 a1_0) ∧ w36.cell? ⟨gb399, 1, none⟩ = some (.int .i64 a1_1) ∧ w36.cell? ⟨gb399, 2, none⟩ = some (.int .i64 a1_2) ∧ w36.cell? ⟨gb399, 3, none⟩ = some (.int .i64 a1_3) ∧ w36.cell? ⟨gb400, 0, none⟩ = some (.int .i64 a2_0) ∧ w36.cell? ⟨gb400, 1, none⟩ = some (.int .i64 a2_1) ∧ w36.cell? ⟨gb400, 2, none⟩ = some (.int .i64 a2_2) ∧ w36.cell? ⟨gb400, 3, none⟩ = some (.int .i64 a2_3) := hS_
 refine norm_ (a' := ?_) ?_ ?_
 rotate_left
 ·simp only [putAll, Act.put, List.setIfInBounds_toArray, List.set_cons_zero, List.set_cons_succ]
  rfl
 refine oN 13 fun K hK => ?_
 have hs37 : w36.cell? ⟨gb437, 0, none⟩ = some (.int .i64 0) := (blk_cell BK437.out 0).trans rfl
 have hfs37 := blk_frozen BK437.out 0
 have hns37_0 := NB399_437.out
 have hns37_1 := NB400_437.out
 have hns37_2 := NB418_437.out
 have hns37_3 := NB419_437.out
 have hns37_5 := NB438_437.out
 have hms37_0 := NB437_399.out
 have hms37_1 := NB437_400.out
 have hms37_2 := NB437_418.out
 have hms37_3 := NB437_419.out
 have hms37_5 := NB437_438.out
 have hs38 : w36.cell? ⟨gb437, 1, none⟩ = some (.int .i64 0) := (blk_cell BK437.out 1).trans rfl
 have hfs38 := blk_frozen BK437.out 1
 have hns38_0 := NB399_437.out
 have hns38_1 := NB400_437.out
 have hns38_2 := NB418_437.out
 have hns38_3 := NB419_437.out
 have hns38_5 := NB438_437.out
 have hms38_0 := NB437_399.out
 have hms38_1 := NB437_400.out
 have hms38_2 := NB437_418.out
 have hms38_3 := NB437_419.out
 have hms38_5 := NB437_438.out
 have hs39 : w36.cell? ⟨gb437, 2, none⟩ = some (.int .i64 0) := (blk_cell BK437.out 2).trans rfl
 have hfs39 := blk_frozen BK437.out 2
 have hns39_0 := NB399_437.out
 have hns39_1 := NB400_437.out
 have hns39_2 := NB418_437.out
 have hns39_3 := NB419_437.out
 have hns39_5 := NB438_437.out
 have hms39_0 := NB437_399.out
 have hms39_1 := NB437_400.out
 have hms39_2 := NB437_418.out
 have hms39_3 := NB437_419.out
 have hms39_5 := NB437_438.out
 have hs40 : w36.cell? ⟨gb437, 3, none⟩ = some (.int .i64 0) := (blk_cell BK437.out 3).trans rfl
 have hfs40 := blk_frozen BK437.out 3
 have hns40_0 := NB399_437.out
 have hns40_1 := NB400_437.out
 have hns40_2 := NB418_437.out
 have hns40_3 := NB419_437.out
 have hns40_5 := NB438_437.out
 have hms40_0 := NB437_399.out
 have hms40_1 := NB437_400.out
 have hms40_2 := NB437_418.out
 have hms40_3 := NB437_419.out
 have hms40_5 := NB437_438.out
 refine skip_ (w1 := ?_) (by rfl) rfl ?_ ?_
 rotate_left
 ·go_simp
  rfl
 refine hK.out _ _ ⟨((cell_far (p := ⟨gb437, _, none⟩) NB399_437.out _).trans (((cell_far (p := ⟨gb437, _, none⟩) NB399_437.out _).trans (((cell_far (p := ⟨gb437, _, none⟩) NB399_437.out _).trans (((cell_far (p := ⟨gb437, _, none⟩) NB399_437.out _).trans (hHeld.1)))))))), ((cell_far (p := ⟨gb437, _, none⟩) NB399_437.out _).trans (((cell_far (p := ⟨gb437, _, none⟩) NB399_437.out _).trans (((cell_far (p := ⟨gb437, _, none⟩) NB399_437.out _).trans (((cell_far (p := ⟨gb437, _, none⟩) NB399_437.out _).trans (hHeld.2.1)))))))), ((cell_far (p := ⟨gb437, _, none⟩) NB399_437.out _).trans (((cell_far (p := ⟨gb437, _, none⟩) NB399_437.out _).trans (((cell_far (p := ⟨gb437, _, none⟩) NB399_437.out _).trans (((cell_far (p := ⟨gb437, _, none⟩) NB399_437.out _).trans (hHeld.2.2.1)))))))), ((cell_far (p := ⟨gb437, _, none⟩) NB399_437.out _).trans (((cell_far (p := ⟨gb437, _, none⟩) NB399_437.out _).trans (((cell_far (p := ⟨gb437, _, none⟩) NB399_437.out _).trans (((cell_far (p := ⟨gb437, _, none⟩) NB399_437.out _).trans (hHeld.2.2.2.1)))))))), ((cell_far (p := ⟨gb437, _, none⟩) NB400_437.out _).trans (((cell_far (p := ⟨gb437, _, none⟩) NB400_437.out _).trans (((cell_far (p := ⟨gb437, _, none⟩) NB400_437.out _).trans (((cell_far (p := ⟨gb437, _, none⟩) NB400_437.out _).trans (hHeld.2.2.2.2.1)))))))), ((cell_far (p := ⟨gb437, _, none⟩) NB400_437.out _).trans (((cell_far (p := ⟨gb437, _, none⟩) NB400_437.out _).trans (((cell_far (p := ⟨gb437, _, none⟩) NB400_437.out _).trans (((cell_far (p := ⟨gb437, _, none⟩) NB400_437.out _).trans (hHeld.2.2.2.2.2.1)))))))), ((cell_far (p := ⟨gb437, _, none⟩) NB400_437.out _).trans (((cell_far (p := ⟨gb437, _, none⟩) NB400_437.out _).trans (((cell_far (p := ⟨gb437, _, none⟩) NB400_437.out _).trans (((cell_far (p := ⟨gb437, _, none⟩) NB400_437.out _).trans (hHeld.2.2.2.2.2.2.1)))))))), ((cell_far (p := ⟨gb437, _, none⟩) NB400_437.out _).trans (((cell_far (p := ⟨gb437, _, none⟩) NB400_437.out _).trans (((cell_far (p := ⟨gb437, _, none⟩) NB400_437.out _).trans (((cell_far (p := ⟨gb437, _, none⟩) NB400_437.out _).trans (hHeld.2.2.2.2.2.2.2))))))))⟩ (fun hHeld => ?_)
 clear hK K
 refine oN 14 fun K hK => ?_
 have hs41 : w36.cell? ⟨gb438, 0, none⟩ = some (.int .i64 0) := (blk_cell BK438.out 0).trans rfl
 have hfs41 := blk_frozen BK438.out 0
 have hns41_0 := NB399_438.out
 have hns41_1 := NB400_438.out
 have hns41_2 := NB418_438.out
 have hns41_3 := NB419_438.out
 have hns41_4 := NB437_438.out
 have hms41_0 := NB438_399.out
 have hms41_1 := NB438_400.out
 have hms41_2 := NB438_418.out
 have hms41_3 := NB438_419.out
 have hms41_4 := NB438_437.out
 have hs42 : w36.cell? ⟨gb438, 1, none⟩ = some (.int .i64 0) := (blk_cell BK438.out 1).trans rfl
 have hfs42 := blk_frozen BK438.out 1
 have hns42_0 := NB399_438.out
 have hns42_1 := NB400_438.out
 have hns42_2 := NB418_438.out
 have hns42_3 := NB419_438.out
 have hns42_4 := NB437_438.out
 have hms42_0 := NB438_399.out
 have hms42_1 := NB438_400.out
 have hms42_2 := NB438_418.out
 have hms42_3 := NB438_419.out
 have hms42_4 := NB438_437.out
 have hs43 : w36.cell? ⟨gb438, 2, none⟩ = some (.int .i64 0) := (blk_cell BK438.out 2).trans rfl
 have hfs43 := blk_frozen BK438.out 2
 have hns43_0 := NB399_438.out
 have hns43_1 := NB400_438.out
 have hns43_2 := NB418_438.out
 have hns43_3 := NB419_438.out
 have hns43_4 := NB437_438.out
 have hms43_0 := NB438_399.out
 have hms43_1 := NB438_400.out
 have hms43_2 := NB438_418.out
 have hms43_3 := NB438_419.out
 have hms43_4 := NB438_437.out
 have hs44 : w36.cell? ⟨gb438, 3, none⟩ = some (.int .i64 0) := (blk_cell BK438.out 3).trans rfl
 have hfs44 := blk_frozen BK438.out 3
 have hns44_0 := NB399_438.out
 have hns44_1 := NB400_438.out
 have hns44_2 := NB418_438.out
 have hns44_3 := NB419_438.out
 have hns44_4 := NB437_438.out
 have hms44_0 := NB438_399.out
 have hms44_1 := NB438_400.out
 have hms44_2 := NB438_418.out
 have hms44_3 := NB438_419.out
 have hms44_4 := NB438_437.out
 refine skip_ (w1 := ?_) (by rfl) rfl ?_ ?_
 rotate_left
 ·go_simp
  rfl
 refine hK.out _ _ ⟨((cell_far (p := ⟨gb438, _, none⟩) NB399_438.out _).trans (((cell_far (p := ⟨gb438, _, none⟩) NB399_438.out _).trans (((cell_far (p := ⟨gb438, _, none⟩) NB399_438.out _).trans (((cell_far (p := ⟨gb438, _, none⟩) NB399_438.out _).trans (hHeld.1)))))))), ((cell_far (p := ⟨gb438, _, none⟩) NB399_438.out _).trans (((cell_far (p := ⟨gb438, _, none⟩) NB399_438.out _).trans (((cell_far (p := ⟨gb438, _, none⟩) NB399_438.out _).trans (((cell_far (p := ⟨gb438, _, none⟩) NB399_438.out _).trans (hHeld.2.1)))))))), ((cell_far (p := ⟨gb438, _, none⟩) NB399_438.out _).trans (((cell_far (p := ⟨gb438, _, none⟩) NB399_438.out _).trans (((cell_far (p := ⟨gb438, _, none⟩) NB399_438.out _).trans (((cell_far (p := ⟨gb438, _, none⟩) NB399_438.out _).trans (hHeld.2.2.1)))))))), ((cell_far (p := ⟨gb438, _, none⟩) NB399_438.out _).trans (((cell_far (p := ⟨gb438, _, none⟩) NB399_438.out _).trans (((cell_far (p := ⟨gb438, _, none⟩) NB399_438.out _).trans (((cell_far (p := ⟨gb438, _, none⟩) NB399_438.out _).trans (hHeld.2.2.2.1)))))))), ((cell_far (p := ⟨gb438, _, none⟩) NB400_438.out _).trans (((cell_far (p := ⟨gb438, _, none⟩) NB400_438.out _).trans (((cell_far (p := ⟨gb438, _, none⟩) NB400_438.out _).trans (((cell_far (p := ⟨gb438, _, none⟩) NB400_438.out _).trans (hHeld.2.2.2.2.1)))))))), ((cell_far (p := ⟨gb438, _, none⟩) NB400_438.out _).trans (((cell_far (p := ⟨gb438, _, none⟩) NB400_438.out _).trans (((cell_far (p := ⟨gb438, _, none⟩) NB400_438.out _).trans (((cell_far (p := ⟨gb438, _, none⟩) NB400_438.out _).trans (hHeld.2.2.2.2.2.1)))))))), ((cell_far (p := ⟨gb438, _, none⟩) NB400_438.out _).trans (((cell_far (p := ⟨gb438, _, none⟩) NB400_438.out _).trans (((cell_far (p := ⟨gb438, _, none⟩) NB400_438.out _).trans (((cell_far (p := ⟨gb438, _, none⟩) NB400_438.out _).trans (hHeld.2.2.2.2.2.2.1)))))))), ((cell_far (p := ⟨gb438, _, none⟩) NB400_438.out _).trans (((cell_far (p := ⟨gb438, _, none⟩) NB400_438.out _).trans (((cell_far (p := ⟨gb438, _, none⟩) NB400_438.out _).trans (((cell_far (p := ⟨gb438, _, none⟩) NB400_438.out _).trans (hHeld.2.2.2.2.2.2.2))))))))⟩ (fun hHeld => ?_)
 clear hK K
 refine pz 15 14 ?_
 refine done_ (done_of HT_.out (by kernel_rfl)) ?_
 go_upto_region 3 with (fail)
 go_cut [51] (fun v51 wc => ∃ (kq : Nat) (x51_10 : Bool), v51 = .bool x51_10 ∧ Aside0 (laws_FnExactRangeBranch.j0 kq x51_10 = some r) ∧ Aside0 (kq ≤ k) ∧ Aside0 (wc.heap[gb399]? = some (.cells #[.int .i64 a1_0, .int .i64 a1_1, .int .i64 a1_2, .int .i64 a1_3] 23 (0, 0))) ∧ Aside0 (wc.heap[gb400]? = some (.cells #[.int .i64 a2_0, .int .i64 a2_1, .int .i64 a2_2, .int .i64 a2_3] 23 (0, 0))) ∧ Aside0 (wc.heap[gb418]? = some (.cells #[.int .i64 t409, .int .i64 t410, .int .i64 t411, .int .i64 t412] 24 (0, 0))) ∧ Aside0 (wc.heap[gb419]? = some (.cells #[.int .i64 t413, .int .i64 t414, .int .i64 t415, .int .i64 t416] 24 (0, 0))) ∧ Aside0 (wc.heap[gb437]? = some (.cells #[.int .i64 t428, .int .i64 t429, .int .i64 t430, .int .i64 t431] 24 (0, 0))) ∧ Aside0 (wc.heap[gb438]? = some (.cells #[.int .i64 t432, .int .i64 t433, .int .i64 t434, .int .i64 t435] 24 (0, 0))) ∧ Aside0 (Below w.heap.size w wc))
 case first =>
  have H := HC11.out
  clear HC11
  replace H := Option.bind_eq_some_iff.mp H
  obtain ⟨t439, A450, H⟩ := H
  try dsimp only at H
  have A45 := Aside0.mk A450
  clear A450
  by_cases c46 : t439 = true
  ·subst c46
   rw [if_pos rfl] at H
   replace H := Option.bind_eq_some_iff.mp H
   obtain ⟨t440, A470, H⟩ := H
   try dsimp only at H
   have A47 := Aside0.mk A470
   clear A470
   by_cases c48 : t440 = true
   ·subst c48
    rw [if_pos rfl] at H
    have H' := Aside0.mk H
    clear H
    have hnb49 := NB437_399.out
    have hnc49 := NB399_437.out
    have hnb50 := NB437_400.out
    have hnc50 := NB400_437.out
    have hnb51 := NB437_418.out
    have hnc51 := NB418_437.out
    have hnb52 := NB437_419.out
    have hnc52 := NB419_437.out
    have hnb53 := NB437_438.out
    have hnc53 := NB438_437.out
    obtain ⟨hcz54_0, hcz54_1, hcz54_2, hcz54_3, hfz54_0, hfz54_1, hfz54_2, hfz54_3⟩ := zc4 BK437
    have hnb55 := NB418_399.out
    have hnc55 := NB399_418.out
    have hnb56 := NB418_400.out
    have hnc56 := NB400_418.out
    have hnb57 := NB418_419.out
    have hnc57 := NB419_418.out
    have hnb58 := NB418_438.out
    have hnc58 := NB438_418.out
    obtain ⟨hcz59_0, hcz59_1, hcz59_2, hcz59_3, hfz59_0, hfz59_1, hfz59_2, hfz59_3⟩ := zc4 BK418
    go_wp2_with (first | ((with_reducible refine gate_callee (f := 7) rfl ?_); refine gl 39 Try.func7 #[.agg #[.int .i64 t428, .int .i64 t429, .int .i64 t430, .int .i64 t431], .agg #[.int .i64 t409, .int .i64 t410, .int .i64 t411, .int .i64 t412]] ?_; (with_reducible refine (laws_eqRange.calls t428 t429 t430 t431 t409 t410 t411 t412 true _ A45.out).mono ?_); rintro e w60 ⟨rfl, hb⟩; refine ⟨_, rfl, ?_⟩; replace BK399 := Aside0.mk (blk_below (g := gb399) (o := .cells #[.int .i64 a1_0, .int .i64 a1_1, .int .i64 a1_2, .int .i64 a1_3] 23 (0, 0)) (by refine fq ?_ NB399_438.out; refine fq ?_ NB399_438.out; refine fq ?_ NB399_438.out; refine fq ?_ NB399_438.out; refine fq ?_ NB399_437.out; refine fq ?_ NB399_437.out; refine fq ?_ NB399_437.out; refine fq ?_ NB399_437.out; exact bq BK399.out) hb); replace BK400 := Aside0.mk (blk_below (g := gb400) (o := .cells #[.int .i64 a2_0, .int .i64 a2_1, .int .i64 a2_2, .int .i64 a2_3] 23 (0, 0)) (by refine fq ?_ NB400_438.out; refine fq ?_ NB400_438.out; refine fq ?_ NB400_438.out; refine fq ?_ NB400_438.out; refine fq ?_ NB400_437.out; refine fq ?_ NB400_437.out; refine fq ?_ NB400_437.out; refine fq ?_ NB400_437.out; exact bq BK400.out) hb); replace BK418 := Aside0.mk (blk_below (g := gb418) (o := .cells #[.int .i64 t409, .int .i64 t410, .int .i64 t411, .int .i64 t412] 24 (0, 0)) (by refine fq ?_ NB418_438.out; refine fq ?_ NB418_438.out; refine fq ?_ NB418_438.out; refine fq ?_ NB418_438.out; refine fq ?_ NB418_437.out; refine fq ?_ NB418_437.out; refine fq ?_ NB418_437.out; refine fq ?_ NB418_437.out; exact bq BK418.out) hb); replace BK419 := Aside0.mk (blk_below (g := gb419) (o := .cells #[.int .i64 t413, .int .i64 t414, .int .i64 t415, .int .i64 t416] 24 (0, 0)) (by refine fq ?_ NB419_438.out; refine fq ?_ NB419_438.out; refine fq ?_ NB419_438.out; refine fq ?_ NB419_438.out; refine fq ?_ NB419_437.out; refine fq ?_ NB419_437.out; refine fq ?_ NB419_437.out; refine fq ?_ NB419_437.out; exact bq BK419.out) hb); replace BK437 := Aside0.mk (blk_below (g := gb437) (o := .cells #[.int .i64 t428, .int .i64 t429, .int .i64 t430, .int .i64 t431] 24 (0, 0)) (by refine fq ?_ NB437_438.out; refine fq ?_ NB437_438.out; refine fq ?_ NB437_438.out; refine fq ?_ NB437_438.out; refine bq ?_; refine blk_put (cs := #[.int .i64 t428, .int .i64 t429, .int .i64 t430, .int .i64 0]) ?_ 3 _ rfl; refine bq ?_; refine blk_put (cs := #[.int .i64 t428, .int .i64 t429, .int .i64 0, .int .i64 0]) ?_ 2 _ rfl; refine bq ?_; refine blk_put (cs := #[.int .i64 t428, .int .i64 0, .int .i64 0, .int .i64 0]) ?_ 1 _ rfl; refine bq ?_; refine blk_put (cs := #[.int .i64 0, .int .i64 0, .int .i64 0, .int .i64 0]) ?_ 0 _ rfl; exact bq BK437.out) hb); replace BK438 := Aside0.mk (blk_below (g := gb438) (o := .cells #[.int .i64 t432, .int .i64 t433, .int .i64 t434, .int .i64 t435] 24 (0, 0)) (by refine bq ?_; refine blk_put (cs := #[.int .i64 t432, .int .i64 t433, .int .i64 t434, .int .i64 0]) ?_ 3 _ rfl; refine bq ?_; refine blk_put (cs := #[.int .i64 t432, .int .i64 t433, .int .i64 0, .int .i64 0]) ?_ 2 _ rfl; refine bq ?_; refine blk_put (cs := #[.int .i64 t432, .int .i64 0, .int .i64 0, .int .i64 0]) ?_ 1 _ rfl; refine bq ?_; refine blk_put (cs := #[.int .i64 0, .int .i64 0, .int .i64 0, .int .i64 0]) ?_ 0 _ rfl; refine fq ?_ NB438_437.out; refine fq ?_ NB438_437.out; refine fq ?_ NB438_437.out; refine fq ?_ NB438_437.out; exact bq BK438.out) hb); replace HB := zS hb; (try clear hb); (try clear hb2); (try clear hk); (try clear hi); have hnb61 := NB438_399.out; have hnc61 := NB399_438.out; have hnb62 := NB438_400.out; have hnc62 := NB400_438.out; have hnb63 := NB438_419.out; have hnc63 := NB419_438.out; obtain ⟨hcz64_0, hcz64_1, hcz64_2, hcz64_3, hfz64_0, hfz64_1, hfz64_2, hfz64_3⟩ := zc4 BK438; have hnb65 := NB419_399.out; have hnc65 := NB399_419.out; have hnb66 := NB419_400.out; have hnc66 := NB400_419.out; obtain ⟨hcz67_0, hcz67_1, hcz67_2, hcz67_3, hfz67_0, hfz67_1, hfz67_2, hfz67_3⟩ := zc4 BK419) | (go_at_call 7; (with_reducible refine (laws_eqRange.calls t432 t433 t434 t435 t413 t414 t415 t416 true _ A47.out).mono ?_); rintro e w68 ⟨rfl, hb⟩; replace BK399 := zb BK399 hb rfl; replace BK400 := zb BK400 hb rfl; replace BK418 := zb BK418 hb rfl; replace BK419 := zb BK419 hb rfl; replace BK437 := zb BK437 hb rfl; replace BK438 := zb BK438 hb rfl; replace HB := zS hb; try clear hb))
    go_meet
    case rel => exact ⟨_, ((t436 != t417)), (by first | rfl | (simp; done) | (simp [*]; done)), H', ⟨by first | omega | exact Nat.le_refl _⟩, ⟨by exact bq BK399.out⟩, ⟨by exact bq BK400.out⟩, ⟨by exact bq BK418.out⟩, ⟨by exact bq BK419.out⟩, ⟨by exact bq BK437.out⟩, ⟨by exact bq BK438.out⟩, ⟨zB⟩⟩
   ·replace c48 := Bool.eq_false_iff.mpr c48
    subst c48
    rw [if_neg (show ¬ (false = true) by decide)] at H
    have H' := Aside0.mk H
    clear H
    have hnb69 := NB437_399.out
    have hnc69 := NB399_437.out
    have hnb70 := NB437_400.out
    have hnc70 := NB400_437.out
    have hnb71 := NB437_418.out
    have hnc71 := NB418_437.out
    have hnb72 := NB437_419.out
    have hnc72 := NB419_437.out
    have hnb73 := NB437_438.out
    have hnc73 := NB438_437.out
    obtain ⟨hcz74_0, hcz74_1, hcz74_2, hcz74_3, hfz74_0, hfz74_1, hfz74_2, hfz74_3⟩ := zc4 BK437
    have hnb75 := NB418_399.out
    have hnc75 := NB399_418.out
    have hnb76 := NB418_400.out
    have hnc76 := NB400_418.out
    have hnb77 := NB418_419.out
    have hnc77 := NB419_418.out
    have hnb78 := NB418_438.out
    have hnc78 := NB438_418.out
    obtain ⟨hcz79_0, hcz79_1, hcz79_2, hcz79_3, hfz79_0, hfz79_1, hfz79_2, hfz79_3⟩ := zc4 BK418
    go_wp2_with (first | ((with_reducible refine gate_callee (f := 7) rfl ?_); refine gl 39 Try.func7 #[.agg #[.int .i64 t428, .int .i64 t429, .int .i64 t430, .int .i64 t431], .agg #[.int .i64 t409, .int .i64 t410, .int .i64 t411, .int .i64 t412]] ?_; (with_reducible refine (laws_eqRange.calls t428 t429 t430 t431 t409 t410 t411 t412 true _ A45.out).mono ?_); rintro e w80 ⟨rfl, hb⟩; refine ⟨_, rfl, ?_⟩; replace BK399 := Aside0.mk (blk_below (g := gb399) (o := .cells #[.int .i64 a1_0, .int .i64 a1_1, .int .i64 a1_2, .int .i64 a1_3] 23 (0, 0)) (by refine fq ?_ NB399_438.out; refine fq ?_ NB399_438.out; refine fq ?_ NB399_438.out; refine fq ?_ NB399_438.out; refine fq ?_ NB399_437.out; refine fq ?_ NB399_437.out; refine fq ?_ NB399_437.out; refine fq ?_ NB399_437.out; exact bq BK399.out) hb); replace BK400 := Aside0.mk (blk_below (g := gb400) (o := .cells #[.int .i64 a2_0, .int .i64 a2_1, .int .i64 a2_2, .int .i64 a2_3] 23 (0, 0)) (by refine fq ?_ NB400_438.out; refine fq ?_ NB400_438.out; refine fq ?_ NB400_438.out; refine fq ?_ NB400_438.out; refine fq ?_ NB400_437.out; refine fq ?_ NB400_437.out; refine fq ?_ NB400_437.out; refine fq ?_ NB400_437.out; exact bq BK400.out) hb); replace BK418 := Aside0.mk (blk_below (g := gb418) (o := .cells #[.int .i64 t409, .int .i64 t410, .int .i64 t411, .int .i64 t412] 24 (0, 0)) (by refine fq ?_ NB418_438.out; refine fq ?_ NB418_438.out; refine fq ?_ NB418_438.out; refine fq ?_ NB418_438.out; refine fq ?_ NB418_437.out; refine fq ?_ NB418_437.out; refine fq ?_ NB418_437.out; refine fq ?_ NB418_437.out; exact bq BK418.out) hb); replace BK419 := Aside0.mk (blk_below (g := gb419) (o := .cells #[.int .i64 t413, .int .i64 t414, .int .i64 t415, .int .i64 t416] 24 (0, 0)) (by refine fq ?_ NB419_438.out; refine fq ?_ NB419_438.out; refine fq ?_ NB419_438.out; refine fq ?_ NB419_438.out; refine fq ?_ NB419_437.out; refine fq ?_ NB419_437.out; refine fq ?_ NB419_437.out; refine fq ?_ NB419_437.out; exact bq BK419.out) hb); replace BK437 := Aside0.mk (blk_below (g := gb437) (o := .cells #[.int .i64 t428, .int .i64 t429, .int .i64 t430, .int .i64 t431] 24 (0, 0)) (by refine fq ?_ NB437_438.out; refine fq ?_ NB437_438.out; refine fq ?_ NB437_438.out; refine fq ?_ NB437_438.out; refine bq ?_; refine blk_put (cs := #[.int .i64 t428, .int .i64 t429, .int .i64 t430, .int .i64 0]) ?_ 3 _ rfl; refine bq ?_; refine blk_put (cs := #[.int .i64 t428, .int .i64 t429, .int .i64 0, .int .i64 0]) ?_ 2 _ rfl; refine bq ?_; refine blk_put (cs := #[.int .i64 t428, .int .i64 0, .int .i64 0, .int .i64 0]) ?_ 1 _ rfl; refine bq ?_; refine blk_put (cs := #[.int .i64 0, .int .i64 0, .int .i64 0, .int .i64 0]) ?_ 0 _ rfl; exact bq BK437.out) hb); replace BK438 := Aside0.mk (blk_below (g := gb438) (o := .cells #[.int .i64 t432, .int .i64 t433, .int .i64 t434, .int .i64 t435] 24 (0, 0)) (by refine bq ?_; refine blk_put (cs := #[.int .i64 t432, .int .i64 t433, .int .i64 t434, .int .i64 0]) ?_ 3 _ rfl; refine bq ?_; refine blk_put (cs := #[.int .i64 t432, .int .i64 t433, .int .i64 0, .int .i64 0]) ?_ 2 _ rfl; refine bq ?_; refine blk_put (cs := #[.int .i64 t432, .int .i64 0, .int .i64 0, .int .i64 0]) ?_ 1 _ rfl; refine bq ?_; refine blk_put (cs := #[.int .i64 0, .int .i64 0, .int .i64 0, .int .i64 0]) ?_ 0 _ rfl; refine fq ?_ NB438_437.out; refine fq ?_ NB438_437.out; refine fq ?_ NB438_437.out; refine fq ?_ NB438_437.out; exact bq BK438.out) hb); replace HB := zS hb; (try clear hb); (try clear hb2); (try clear hk); (try clear hi); have hnb81 := NB438_399.out; have hnc81 := NB399_438.out; have hnb82 := NB438_400.out; have hnc82 := NB400_438.out; have hnb83 := NB438_419.out; have hnc83 := NB419_438.out; obtain ⟨hcz84_0, hcz84_1, hcz84_2, hcz84_3, hfz84_0, hfz84_1, hfz84_2, hfz84_3⟩ := zc4 BK438; have hnb85 := NB419_399.out; have hnc85 := NB399_419.out; have hnb86 := NB419_400.out; have hnc86 := NB400_419.out; obtain ⟨hcz87_0, hcz87_1, hcz87_2, hcz87_3, hfz87_0, hfz87_1, hfz87_2, hfz87_3⟩ := zc4 BK419) | (go_at_call 7; (with_reducible refine (laws_eqRange.calls t432 t433 t434 t435 t413 t414 t415 t416 false _ A47.out).mono ?_); rintro e w88 ⟨rfl, hb⟩; replace BK399 := zb BK399 hb rfl; replace BK400 := zb BK400 hb rfl; replace BK418 := zb BK418 hb rfl; replace BK419 := zb BK419 hb rfl; replace BK437 := zb BK437 hb rfl; replace BK438 := zb BK438 hb rfl; replace HB := zS hb; try clear hb))
    go_meet
    case rel => exact ⟨_, (true), (by first | rfl | (simp; done) | (simp [*]; done)), H', ⟨by first | omega | exact Nat.le_refl _⟩, ⟨by exact bq BK399.out⟩, ⟨by exact bq BK400.out⟩, ⟨by exact bq BK418.out⟩, ⟨by exact bq BK419.out⟩, ⟨by exact bq BK437.out⟩, ⟨by exact bq BK438.out⟩, ⟨zB⟩⟩
  ·replace c46 := Bool.eq_false_iff.mpr c46
   subst c46
   rw [if_neg (show ¬ (false = true) by decide)] at H
   have H' := Aside0.mk H
   clear H
   have hnb89 := NB437_399.out
   have hnc89 := NB399_437.out
   have hnb90 := NB437_400.out
   have hnc90 := NB400_437.out
   have hnb91 := NB437_418.out
   have hnc91 := NB418_437.out
   have hnb92 := NB437_419.out
   have hnc92 := NB419_437.out
   have hnb93 := NB437_438.out
   have hnc93 := NB438_437.out
   obtain ⟨hcz94_0, hcz94_1, hcz94_2, hcz94_3, hfz94_0, hfz94_1, hfz94_2, hfz94_3⟩ := zc4 BK437
   have hnb95 := NB418_399.out
   have hnc95 := NB399_418.out
   have hnb96 := NB418_400.out
   have hnc96 := NB400_418.out
   have hnb97 := NB418_419.out
   have hnc97 := NB419_418.out
   have hnb98 := NB418_438.out
   have hnc98 := NB438_418.out
   obtain ⟨hcz99_0, hcz99_1, hcz99_2, hcz99_3, hfz99_0, hfz99_1, hfz99_2, hfz99_3⟩ := zc4 BK418
   go_wp2_with (first | ((with_reducible refine gate_callee (f := 7) rfl ?_); refine gl 39 Try.func7 #[.agg #[.int .i64 t428, .int .i64 t429, .int .i64 t430, .int .i64 t431], .agg #[.int .i64 t409, .int .i64 t410, .int .i64 t411, .int .i64 t412]] ?_; (with_reducible refine (laws_eqRange.calls t428 t429 t430 t431 t409 t410 t411 t412 false _ A45.out).mono ?_); rintro e w100 ⟨rfl, hb⟩; refine ⟨_, rfl, ?_⟩; replace BK399 := Aside0.mk (blk_below (g := gb399) (o := .cells #[.int .i64 a1_0, .int .i64 a1_1, .int .i64 a1_2, .int .i64 a1_3] 23 (0, 0)) (by refine fq ?_ NB399_438.out; refine fq ?_ NB399_438.out; refine fq ?_ NB399_438.out; refine fq ?_ NB399_438.out; refine fq ?_ NB399_437.out; refine fq ?_ NB399_437.out; refine fq ?_ NB399_437.out; refine fq ?_ NB399_437.out; exact bq BK399.out) hb); replace BK400 := Aside0.mk (blk_below (g := gb400) (o := .cells #[.int .i64 a2_0, .int .i64 a2_1, .int .i64 a2_2, .int .i64 a2_3] 23 (0, 0)) (by refine fq ?_ NB400_438.out; refine fq ?_ NB400_438.out; refine fq ?_ NB400_438.out; refine fq ?_ NB400_438.out; refine fq ?_ NB400_437.out; refine fq ?_ NB400_437.out; refine fq ?_ NB400_437.out; refine fq ?_ NB400_437.out; exact bq BK400.out) hb); replace BK418 := Aside0.mk (blk_below (g := gb418) (o := .cells #[.int .i64 t409, .int .i64 t410, .int .i64 t411, .int .i64 t412] 24 (0, 0)) (by refine fq ?_ NB418_438.out; refine fq ?_ NB418_438.out; refine fq ?_ NB418_438.out; refine fq ?_ NB418_438.out; refine fq ?_ NB418_437.out; refine fq ?_ NB418_437.out; refine fq ?_ NB418_437.out; refine fq ?_ NB418_437.out; exact bq BK418.out) hb); replace BK419 := Aside0.mk (blk_below (g := gb419) (o := .cells #[.int .i64 t413, .int .i64 t414, .int .i64 t415, .int .i64 t416] 24 (0, 0)) (by refine fq ?_ NB419_438.out; refine fq ?_ NB419_438.out; refine fq ?_ NB419_438.out; refine fq ?_ NB419_438.out; refine fq ?_ NB419_437.out; refine fq ?_ NB419_437.out; refine fq ?_ NB419_437.out; refine fq ?_ NB419_437.out; exact bq BK419.out) hb); replace BK437 := Aside0.mk (blk_below (g := gb437) (o := .cells #[.int .i64 t428, .int .i64 t429, .int .i64 t430, .int .i64 t431] 24 (0, 0)) (by refine fq ?_ NB437_438.out; refine fq ?_ NB437_438.out; refine fq ?_ NB437_438.out; refine fq ?_ NB437_438.out; refine bq ?_; refine blk_put (cs := #[.int .i64 t428, .int .i64 t429, .int .i64 t430, .int .i64 0]) ?_ 3 _ rfl; refine bq ?_; refine blk_put (cs := #[.int .i64 t428, .int .i64 t429, .int .i64 0, .int .i64 0]) ?_ 2 _ rfl; refine bq ?_; refine blk_put (cs := #[.int .i64 t428, .int .i64 0, .int .i64 0, .int .i64 0]) ?_ 1 _ rfl; refine bq ?_; refine blk_put (cs := #[.int .i64 0, .int .i64 0, .int .i64 0, .int .i64 0]) ?_ 0 _ rfl; exact bq BK437.out) hb); replace BK438 := Aside0.mk (blk_below (g := gb438) (o := .cells #[.int .i64 t432, .int .i64 t433, .int .i64 t434, .int .i64 t435] 24 (0, 0)) (by refine bq ?_; refine blk_put (cs := #[.int .i64 t432, .int .i64 t433, .int .i64 t434, .int .i64 0]) ?_ 3 _ rfl; refine bq ?_; refine blk_put (cs := #[.int .i64 t432, .int .i64 t433, .int .i64 0, .int .i64 0]) ?_ 2 _ rfl; refine bq ?_; refine blk_put (cs := #[.int .i64 t432, .int .i64 0, .int .i64 0, .int .i64 0]) ?_ 1 _ rfl; refine bq ?_; refine blk_put (cs := #[.int .i64 0, .int .i64 0, .int .i64 0, .int .i64 0]) ?_ 0 _ rfl; refine fq ?_ NB438_437.out; refine fq ?_ NB438_437.out; refine fq ?_ NB438_437.out; refine fq ?_ NB438_437.out; exact bq BK438.out) hb); replace HB := zS hb; (try clear hb); (try clear hb2); (try clear hk); (try clear hi)))
   go_meet
   case rel => exact ⟨_, (true), (by first | rfl | (simp; done) | (simp [*]; done)), H', ⟨by first | omega | exact Nat.le_refl _⟩, ⟨by exact bq BK399.out⟩, ⟨by exact bq BK400.out⟩, ⟨by exact bq BK418.out⟩, ⟨by exact bq BK419.out⟩, ⟨by exact bq BK437.out⟩, ⟨by exact bq BK438.out⟩, ⟨zB⟩⟩
 case rest =>
  clear HC11
  try clear p2
  try clear c4
  try clear c5
  try clear c6
  try clear c7
  try clear c8
  try clear c9
  try clear c46
  try clear c48
  try clear c49
  try clear c50
  try clear c51
  try clear c52
  try clear c53
  try clear c55
  try clear c56
  try clear c57
  try clear c58
  try clear c61
  try clear c62
  try clear c63
  try clear c65
  try clear c66
  try clear c69
  try clear c70
  try clear c71
  try clear c72
  try clear c73
  try clear c75
  try clear c76
  try clear c77
  try clear c78
  try clear c81
  try clear c82
  try clear c83
  try clear c85
  try clear c86
  try clear c89
  try clear c90
  try clear c91
  try clear c92
  try clear c93
  try clear c95
  try clear c96
  try clear c97
  try clear c98
  try clear hcz54_0 hcz54_1 hcz54_2 hcz54_3 hfz54_0 hfz54_1 hfz54_2 hfz54_3
  try clear hcz59_0 hcz59_1 hcz59_2 hcz59_3 hfz59_0 hfz59_1 hfz59_2 hfz59_3
  try clear hcz64_0 hcz64_1 hcz64_2 hcz64_3 hfz64_0 hfz64_1 hfz64_2 hfz64_3
  try clear hcz67_0 hcz67_1 hcz67_2 hcz67_3 hfz67_0 hfz67_1 hfz67_2 hfz67_3
  try clear hcz74_0 hcz74_1 hcz74_2 hcz74_3 hfz74_0 hfz74_1 hfz74_2 hfz74_3
  try clear hcz79_0 hcz79_1 hcz79_2 hcz79_3 hfz79_0 hfz79_1 hfz79_2 hfz79_3
  try clear hcz84_0 hcz84_1 hcz84_2 hcz84_3 hfz84_0 hfz84_1 hfz84_2 hfz84_3
  try clear hcz87_0 hcz87_1 hcz87_2 hcz87_3 hfz87_0 hfz87_1 hfz87_2 hfz87_3
  try clear hcz94_0 hcz94_1 hcz94_2 hcz94_3 hfz94_0 hfz94_1 hfz94_2 hfz94_3
  try clear hcz99_0 hcz99_1 hcz99_2 hcz99_3 hfz99_0 hfz99_1 hfz99_2 hfz99_3
  obtain ⟨kq, x51_10, rfl, HA, HJ10, BK399, BK400, BK418, BK419, BK437, BK438, HB⟩ := hcut
  cases kq with
  | zero => exact absurd HA.out (by simp [laws_FnExactRangeBranch.j0])
  | succ kj10 =>
   have H := HA.out
   clear HA
   simp only [laws_FnExactRangeBranch.j0] at H
   by_cases c101 : x51_10 = true
   ·subst c101
    rw [if_pos rfl] at H
    exact absurd H (by simp)
   ·replace c101 := Bool.eq_false_iff.mpr c101
    subst c101
    rw [if_neg (show ¬ (false = true) by decide)] at H
    obtain rfl := Option.some.inj H
    go_wp2
    go_ret
    exact ⟨zR, zB⟩

/-- THE ONE PURE STATEMENT of laws_FnExactRangeBranch. -/
def laws_FnExactRangeBranch.Pure : Prop := ∀ (a0 : Int) (a1_0 : Int) (a1_1 : Int) (a1_2 : Int) (a1_3 : Int) (a2_0 : Int) (a2_1 : Int) (a2_2 : Int) (a2_3 : Int) (a3 : Bool), (Lit.int .i64 a0).wf = true → (Lit.int .i64 a1_0).wf = true → (Lit.int .i64 a1_1).wf = true → (Lit.int .i64 a1_2).wf = true → (Lit.int .i64 a1_3).wf = true → (Lit.int .i64 a2_0).wf = true → (Lit.int .i64 a2_1).wf = true → (Lit.int .i64 a2_2).wf = true → (Lit.int .i64 a2_3).wf = true → ∃ k, laws_FnExactRangeBranch.f k a0 a1_0 a1_1 a1_2 a1_3 a2_0 a2_1 a2_2 a2_3 a3 = some true
theorem laws_FnExactRangeBranch.walk (P : laws_FnExactRangeBranch.Pure) (a0 : Int) (a1_0 : Int) (a1_1 : Int) (a1_2 : Int) (a1_3 : Int) (a2_0 : Int) (a2_1 : Int) (a2_2 : Int) (a2_3 : Int) (a3 : Bool) (w : World) (w0 : (Lit.int .i64 a0).wf = true) (w1_0 : (Lit.int .i64 a1_0).wf = true) (w1_1 : (Lit.int .i64 a1_1).wf = true) (w1_2 : (Lit.int .i64 a1_2).wf = true) (w1_3 : (Lit.int .i64 a1_3).wf = true) (w2_0 : (Lit.int .i64 a2_0).wf = true) (w2_1 : (Lit.int .i64 a2_1).wf = true) (w2_2 : (Lit.int .i64 a2_2).wf = true) (w2_3 : (Lit.int .i64 a2_3).wf = true) :
  Calls Try.prog 3 #[.int .i64 a0, .agg #[.int .i64 a1_0, .int .i64 a1_1, .int .i64 a1_2, .int .i64 a1_3], .agg #[.int .i64 a2_0, .int .i64 a2_1, .int .i64 a2_2, .int .i64 a2_3], .bool a3] w fun e w' => e = .returned (.bool true) ∧ Below w.heap.size w w' := by
 obtain ⟨k, h⟩ := P a0 a1_0 a1_1 a1_2 a1_3 a2_0 a2_1 a2_2 a2_3 a3 w0 w1_0 w1_1 w1_2 w1_3 w2_0 w2_1 w2_2 w2_3
 refine (laws_FnExactRangeBranch.calls k a0 a1_0 a1_1 a1_2 a1_3 a2_0 a2_1 a2_2 a2_3 a3 true w h).mono ?_
 rintro e w' ⟨rfl, hd⟩
 exact ⟨rfl, hd⟩

end Go.Proofs.Ytjengfiaphgjbaa.Q
