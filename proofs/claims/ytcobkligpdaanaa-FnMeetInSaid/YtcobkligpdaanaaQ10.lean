/- The machine's side of this seat's laws: Go functions as Lean functions, and their contracts. By a program of this work over the kit's print. -/
import Derived.Test.YtcobkligpdaanaaQ0
import Derived.Test.YtcobkligpdaanaaQ7
namespace Go.Proofs.Ytcobkligpdaanaa.Q
open Go.RowKit Go.Proofs.YtcobkligpdaanaaW.PrintWords Go.Proofs.YtcobkligpdaanaaW.PrintLast Go.Proofs.YtcobkligpdaanaaW.PrintMore
attribute [local go_sem] max2_int min2_int max_two min_two max_three min_three max_four min_four Go.Proofs.YtcobkligpdaanaaN.not_i64   -- for this text's walks alone
set_option linter.unusedVariables false
set_option linter.unusedSimpArgs false

/-! ### impl_Range_tidy: function 96 -/
def impl_Range_tidy.f (a0_0 : Int) (a0_1 : Int) (a0_2 : Int) (a0_3 : Int) : Option (Int × Int × Int × Int) := (bits_Len.f (IntKind.u64.wrap (Go.bits .xor .i64 a0_0 a0_1))).bind fun t269 => (if 0 ≤ t269 then (some (mx a0_0 (Go.bits .andNot .i64 (Go.bits .or .i64 a0_2 (Go.bits .andNot .i64 a0_0 (wrap64 ((shl .i64 1 t269) - 1)))) (Go.bits .and .i64 a0_3 (wrap64 ((shl .i64 1 t269) - 1)))), mn a0_1 (Go.bits .or .i64 (Go.bits .andNot .i64 (Go.bits .or .i64 a0_2 (Go.bits .andNot .i64 a0_0 (wrap64 ((shl .i64 1 t269) - 1)))) (Go.bits .and .i64 a0_3 (wrap64 ((shl .i64 1 t269) - 1)))) (Go.bits .and .i64 a0_3 (wrap64 ((shl .i64 1 t269) - 1)))), Go.bits .andNot .i64 (Go.bits .or .i64 a0_2 (Go.bits .andNot .i64 a0_0 (wrap64 ((shl .i64 1 t269) - 1)))) (Go.bits .and .i64 a0_3 (wrap64 ((shl .i64 1 t269) - 1))), Go.bits .and .i64 a0_3 (wrap64 ((shl .i64 1 t269) - 1)))) else (none))
def impl_Range_tidy.T4 : Bool × List (List Nat × List Nat) := (true, [([], []), ([0], [0]), ([], []), ([2], [2]), ([1, 3], [1, 3]), ([], []), ([5], [5]), ([], []), ([7], [7]), ([], []), ([9], [9]), ([8, 10], [8, 10]), ([6, 11], [6, 11]), ([0, 1, 2, 3, 4, 7, 8, 9, 10], []), ([13, 4, 0, 1, 2, 3, 4, 7, 8, 9, 10], [4, 13]), ([0, 1, 2, 3, 4, 5, 6, 7, 8, 9, 10, 11, 12, 13, 14], []), ([15, 12, 14, 0, 1, 2, 3, 4, 5, 6, 7, 8, 9, 10, 11, 12, 13, 14], [12, 15])])
def impl_Range_tidy.B4 : List Nat := [0, 1, 0, 4, 15, 0, 32, 0, 128, 0, 512, 1920, 4064, 1951, 10143, 32767, 65535]
theorem impl_Range_tidy.tab4 : rtab .any (opsOf Try.f96 4) = impl_Range_tidy.T4 := by kernel_rfl
theorem impl_Range_tidy.bits4 : waitsOk impl_Range_tidy.T4.2 impl_Range_tidy.B4 = true := by kernel_rfl
set_option maxHeartbeats 8000000 in
set_option maxRecDepth 100000 in
theorem impl_Range_tidy.calls (a0_0 : Int) (a0_1 : Int) (a0_2 : Int) (a0_3 : Int) (r1 : Int) (r2 : Int) (r3 : Int) (r4 : Int) (w : World) (h : impl_Range_tidy.f a0_0 a0_1 a0_2 a0_3 = some (r1, r2, r3, r4)) :
  Calls Try.prog 96 #[.agg #[.int .i64 a0_0, .int .i64 a0_1, .int .i64 a0_2, .int .i64 a0_3]] w fun e w' => e = .returned (.agg #[.int .i64 r1, .int .i64 r2, .int .i64 r3, .int .i64 r4]) ∧ Below w.heap.size w w' := by
 have hu24 := Try.underlying24
 have HB := Aside0.mk (Below.refl w.heap.size w)
 have H : ((bits_Len.f (IntKind.u64.wrap (Go.bits .xor .i64 a0_0 a0_1))).bind fun t269 => (if 0 ≤ t269 then (some (mx a0_0 (Go.bits .andNot .i64 (Go.bits .or .i64 a0_2 (Go.bits .andNot .i64 a0_0 (wrap64 ((shl .i64 1 t269) - 1)))) (Go.bits .and .i64 a0_3 (wrap64 ((shl .i64 1 t269) - 1)))), mn a0_1 (Go.bits .or .i64 (Go.bits .andNot .i64 (Go.bits .or .i64 a0_2 (Go.bits .andNot .i64 a0_0 (wrap64 ((shl .i64 1 t269) - 1)))) (Go.bits .and .i64 a0_3 (wrap64 ((shl .i64 1 t269) - 1)))) (Go.bits .and .i64 a0_3 (wrap64 ((shl .i64 1 t269) - 1)))), Go.bits .andNot .i64 (Go.bits .or .i64 a0_2 (Go.bits .andNot .i64 a0_0 (wrap64 ((shl .i64 1 t269) - 1)))) (Go.bits .and .i64 a0_3 (wrap64 ((shl .i64 1 t269) - 1))), Go.bits .and .i64 a0_3 (wrap64 ((shl .i64 1 t269) - 1)))) else (none))) = some (r1, r2, r3, r4) := h
 clear h
 replace H := Option.bind_eq_some_iff.mp H
 obtain ⟨t269, A20, H⟩ := H
 try dsimp only at H
 have A2 := Aside0.mk A20
 clear A20
 by_cases c3 : 0 ≤ t269
 ·rw [if_pos c3] at H
  have c3b0 := eq_true c3
  have c3b1 : decide (0 ≤ t269) = true := decide_eq_true c3
  clear c3
  obtain ⟨ji4, hji4⟩ : ∃ j_ : Int, (shl .i64 1 t269) = j_ := ⟨_, rfl⟩
  replace H : (some (mx a0_0 (Go.bits .andNot .i64 (Go.bits .or .i64 a0_2 (Go.bits .andNot .i64 a0_0 (wrap64 ((ji4) - 1)))) (Go.bits .and .i64 a0_3 (wrap64 ((ji4) - 1)))), mn a0_1 (Go.bits .or .i64 (Go.bits .andNot .i64 (Go.bits .or .i64 a0_2 (Go.bits .andNot .i64 a0_0 (wrap64 ((ji4) - 1)))) (Go.bits .and .i64 a0_3 (wrap64 ((ji4) - 1)))) (Go.bits .and .i64 a0_3 (wrap64 ((ji4) - 1)))), Go.bits .andNot .i64 (Go.bits .or .i64 a0_2 (Go.bits .andNot .i64 a0_0 (wrap64 ((ji4) - 1)))) (Go.bits .and .i64 a0_3 (wrap64 ((ji4) - 1))), Go.bits .and .i64 a0_3 (wrap64 ((ji4) - 1)))) = some (r1, r2, r3, r4) := by first | (rw [hji4] at H; exact H) | (simp only [hji4] at H ⊢; exact H)
  (try rw [hji4] at A2)
  have hji4_ : (IntKind.i64.wrap (1 * 2 ^ min t269.toNat 64)) = ji4 := hji4
  have hji4z : t269 ≤ 64 → (IntKind.i64.wrap (1 * 2 ^ t269.toNat)) = ji4 := shl_small hji4
  have hji4u : (IntKind.i64.wrap (2 ^ min t269.toNat 64)) = ji4 := by have h_ := hji4_; rw [Int.one_mul] at h_; exact h_
  have hji4v : t269 ≤ 64 → (IntKind.i64.wrap (2 ^ t269.toNat)) = ji4 := fun hle_ => by have h_ := hji4z hle_; rw [Int.one_mul] at h_; exact h_
  have hji4y : (wrap64 (1 * 2 ^ min t269.toNat 64)) = ji4 := (i64_w _).symm.trans hji4_
  have hji4x : t269 ≤ 64 → (wrap64 (1 * 2 ^ t269.toNat)) = ji4 := fun h_ => (i64_w _).symm.trans (hji4z h_)
  obtain ⟨ji5, hji5⟩ : ∃ j_ : Int, (mx a0_0 (Go.bits .andNot .i64 (Go.bits .or .i64 a0_2 (Go.bits .andNot .i64 a0_0 (wrap64 ((ji4) - 1)))) (Go.bits .and .i64 a0_3 (wrap64 ((ji4) - 1))))) = j_ := ⟨_, rfl⟩
  replace H : (some (ji5, mn a0_1 (Go.bits .or .i64 (Go.bits .andNot .i64 (Go.bits .or .i64 a0_2 (Go.bits .andNot .i64 a0_0 (wrap64 ((ji4) - 1)))) (Go.bits .and .i64 a0_3 (wrap64 ((ji4) - 1)))) (Go.bits .and .i64 a0_3 (wrap64 ((ji4) - 1)))), Go.bits .andNot .i64 (Go.bits .or .i64 a0_2 (Go.bits .andNot .i64 a0_0 (wrap64 ((ji4) - 1)))) (Go.bits .and .i64 a0_3 (wrap64 ((ji4) - 1))), Go.bits .and .i64 a0_3 (wrap64 ((ji4) - 1)))) = some (r1, r2, r3, r4) := by first | (rw [hji5] at H; exact H) | (simp only [hji5] at H ⊢; exact H)
  (try rw [hji5] at A2)
  have hji5_ : (if a0_0 < (Go.bits .andNot .i64 (Go.bits .or .i64 a0_2 (Go.bits .andNot .i64 a0_0 (wrap64 ((ji4) - 1)))) (Go.bits .and .i64 a0_3 (wrap64 ((ji4) - 1)))) then (Go.bits .andNot .i64 (Go.bits .or .i64 a0_2 (Go.bits .andNot .i64 a0_0 (wrap64 ((ji4) - 1)))) (Go.bits .and .i64 a0_3 (wrap64 ((ji4) - 1)))) else a0_0) = ji5 := hji5
  obtain ⟨ji6, hji6⟩ : ∃ j_ : Int, (mn a0_1 (Go.bits .or .i64 (Go.bits .andNot .i64 (Go.bits .or .i64 a0_2 (Go.bits .andNot .i64 a0_0 (wrap64 ((ji4) - 1)))) (Go.bits .and .i64 a0_3 (wrap64 ((ji4) - 1)))) (Go.bits .and .i64 a0_3 (wrap64 ((ji4) - 1))))) = j_ := ⟨_, rfl⟩
  replace H : (some (ji5, ji6, Go.bits .andNot .i64 (Go.bits .or .i64 a0_2 (Go.bits .andNot .i64 a0_0 (wrap64 ((ji4) - 1)))) (Go.bits .and .i64 a0_3 (wrap64 ((ji4) - 1))), Go.bits .and .i64 a0_3 (wrap64 ((ji4) - 1)))) = some (r1, r2, r3, r4) := by first | (rw [hji6] at H; exact H) | (simp only [hji6] at H ⊢; exact H)
  (try rw [hji6] at A2)
  have hji6_ : (if (Go.bits .or .i64 (Go.bits .andNot .i64 (Go.bits .or .i64 a0_2 (Go.bits .andNot .i64 a0_0 (wrap64 ((ji4) - 1)))) (Go.bits .and .i64 a0_3 (wrap64 ((ji4) - 1)))) (Go.bits .and .i64 a0_3 (wrap64 ((ji4) - 1)))) < a0_1 then (Go.bits .or .i64 (Go.bits .andNot .i64 (Go.bits .or .i64 a0_2 (Go.bits .andNot .i64 a0_0 (wrap64 ((ji4) - 1)))) (Go.bits .and .i64 a0_3 (wrap64 ((ji4) - 1)))) (Go.bits .and .i64 a0_3 (wrap64 ((ji4) - 1)))) else a0_1) = ji6 := hji6
  simp only [Option.some.injEq, Prod.mk.injEq] at H
  obtain ⟨rfl, rfl, rfl, rfl⟩ := H
  go_enter Try.func96, Try.ntmps96
  try go_wp2_with (first | ((with_reducible refine gate_dst (N := 1) rfl ?_); refine box_event ?hg (N := 1) ?hd (cs := #[.int .i64 a0_0, .int .i64 a0_1, .int .i64 a0_2, .int .i64 a0_3]) (t := 24) ?hr ?_; (case hd => rfl); (case hg => rfl); (case hr => first | (go_simp; done) | (go_simp; rfl)); intro gb267 hg w7 hbox hb; have n0_ := Aside0.mk (below_step (by repeat first | (with_reducible first | exact HB.out | apply vA | apply vN | apply vD) | exact HB.out) hb); have n1_ := Aside0.mk (hbox); have n2_ := Aside0.mk ((by rw [hg]; exact (below_size (by repeat first | (with_reducible first | exact HB.out | apply vA | apply vN | apply vD) | exact HB.out)) : w.heap.size ≤ gb267)); have n3_ := n2_; clear HB; have HB := n0_; have BK267 := n1_; have GW267 := n2_; have GE267 := n3_; clear n0_ n1_ n2_ n3_; clear hb hbox hg) | ((with_reducible refine gate_dst (N := 2) rfl ?_); refine box_event ?hg (N := 2) ?hd (cs := #[.int .i64 0, .int .i64 0, .int .i64 0, .int .i64 0]) (t := 24) ?hr ?_; (case hd => rfl); (case hg => rfl); (case hr => first | (go_simp; done) | (go_simp; rfl)); intro gb268 hg w8 hbox hb; have n0_ := zb BK267 hb rfl; have n1_ := Aside0.mk (below_step (by repeat first | (with_reducible first | exact HB.out | apply vA | apply vN | apply vD | refine vS ?_ GE267.out) | exact HB.out) hb); have n2_ := Aside0.mk (hbox); have n3_ := Aside0.mk ((by rw [hg]; exact (below_size (by repeat first | (with_reducible first | exact HB.out | apply vA | apply vN | apply vD | refine vS ?_ GE267.out) | exact HB.out)) : w.heap.size ≤ gb268)); have n4_ := n3_; have n5_ := zl BK267 hg rfl; have n6_ := zg BK267 hg rfl; clear BK267; clear HB; have BK267 := n0_; have HB := n1_; have BK268 := n2_; have GW268 := n3_; have GE268 := n4_; have NB267_268 := n5_; have NB268_267 := n6_; clear n0_ n1_ n2_ n3_ n4_ n5_ n6_; clear hb hbox hg; have hnb9 := NB267_268.out; have hnc9 := NB268_267.out; obtain ⟨hcz10_0, hcz10_1, hcz10_2, hcz10_3, hfz10_0, hfz10_1, hfz10_2, hfz10_3⟩ := zc4 BK267) | ((with_reducible refine gate_callee (f := 132) rfl ?_); refine goesL_ (some 11) rfl rfl Try.func132 (by kernel_rfl) rfl #[.int .u64 (IntKind.u64.wrap (Go.bits .xor .i64 a0_0 a0_1))] rfl (by (try simp only [List.map_toArray, List.map_cons, List.map_nil]); first | done | rfl | (simp only [List.length_drop, List.length_take]; rfl)) ?_; (with_reducible refine (bits_Len.calls (IntKind.u64.wrap (Go.bits .xor .i64 a0_0 a0_1)) t269 _ A2.out).mono ?_); rintro e w' ⟨rfl, ⟨nd, rfl⟩⟩; refine ⟨_, rfl, ?_⟩; (try (rw [drewN_self w8]; generalize hq_ : World.drewN w8 _ = w8; have n0_ : Aside0 (w8.heap[gb267]? = some (.cells #[.int .i64 a0_0, .int .i64 a0_1, .int .i64 a0_2, .int .i64 a0_3] 24 (0, 0))) := ⟨by rw [← hq_]; exact (by (with_reducible repeat first | apply bN | apply bD | apply bA); exact BK267.out)⟩; have n1_ : Aside0 (w8.heap[gb268]? = some (.cells #[.int .i64 0, .int .i64 0, .int .i64 0, .int .i64 0] 24 (0, 0))) := ⟨by rw [← hq_]; exact (by (with_reducible repeat first | apply bN | apply bD | apply bA); exact BK268.out)⟩; have n2_ : Aside0 (Below w.heap.size w w8) := ⟨by rw [← hq_]; exact (by repeat first | (with_reducible first | exact HB.out | apply vA | apply vN | apply vD | refine vS ?_ GE267.out | refine vS ?_ GE268.out) | exact HB.out)⟩; clear BK267 BK268 HB hq_; have BK267 := n0_; have BK268 := n1_; have HB := n2_; clear n0_ n1_ n2_)); obtain ⟨hcz11_0, hcz11_1, hcz11_2, hcz11_3, hfz11_0, hfz11_1, hfz11_2, hfz11_3⟩ := zc4 BK267) | ((with_reducible refine gate_dst (N := 4) rfl ?_); refine box_event ?hg (N := 4) ?hd (cs := #[.int .i64 0, .int .i64 0, .int .i64 0, .int .i64 0]) (t := 24) ?hr ?_; (case hd => rfl); (case hg => rfl); (case hr => first | (go_simp; done) | (go_simp; rfl)); intro gb270 hg w12 hbox hb; have n0_ := zb BK267 hb rfl; have n1_ := zb BK268 hb rfl; have n2_ := Aside0.mk (below_step (by repeat first | (with_reducible first | exact HB.out | apply vA | apply vN | apply vD | refine vS ?_ GE267.out | refine vS ?_ GE268.out) | exact HB.out) hb); have n3_ := Aside0.mk (hbox); have n4_ := Aside0.mk ((by rw [hg]; exact (below_size (by repeat first | (with_reducible first | exact HB.out | apply vA | apply vN | apply vD | refine vS ?_ GE267.out | refine vS ?_ GE268.out) | exact HB.out)) : w.heap.size ≤ gb270)); have n5_ := n4_; have n6_ := zl BK267 hg rfl; have n7_ := zg BK267 hg rfl; have n8_ := zl BK268 hg rfl; have n9_ := zg BK268 hg rfl; clear BK267; clear BK268; clear HB; have BK267 := n0_; have BK268 := n1_; have HB := n2_; have BK270 := n3_; have GW270 := n4_; have GE270 := n5_; have NB267_270 := n6_; have NB270_267 := n7_; have NB268_270 := n8_; have NB270_268 := n9_; clear n0_ n1_ n2_ n3_ n4_ n5_ n6_ n7_ n8_ n9_; clear hb hbox hg; have hnb13 := NB270_267.out; have hnc13 := NB267_270.out; have hnb14 := NB270_268.out; have hnc14 := NB268_270.out; obtain ⟨hcz15_0, hcz15_1, hcz15_2, hcz15_3, hfz15_0, hfz15_1, hfz15_2, hfz15_3⟩ := zc4 BK270; obtain ⟨hcz16_0, hcz16_1, hcz16_2, hcz16_3, hfz16_0, hfz16_1, hfz16_2, hfz16_3⟩ := zc4 BK267))
  have n0_ : Aside0 ((((((w12.setCell ⟨gb270, 0, none⟩ (.int .i64 0)).setCell ⟨gb270, 1, none⟩ (.int .i64 0)).setCell ⟨gb270, 2, none⟩ (.int .i64 0)).setCell ⟨gb270, 3, none⟩ (.int .i64 (Go.bits .and .i64 a0_3 (wrap64 ((ji4) - 1))))).setCell ⟨gb270, 2, none⟩ (.int .i64 (Go.bits .andNot .i64 (Go.bits .or .i64 a0_2 (Go.bits .andNot .i64 a0_0 (wrap64 ((ji4) - 1)))) (Go.bits .and .i64 a0_3 (wrap64 ((ji4) - 1)))))).heap[gb267]? = some (.cells #[.int .i64 a0_0, .int .i64 a0_1, .int .i64 a0_2, .int .i64 a0_3] 24 (0, 0))) := ⟨by (with_reducible repeat first | apply bN | apply bD | apply bA); refine blk_far ?_ NB267_270.out _; (with_reducible repeat first | apply bN | apply bD | apply bA); refine blk_far ?_ NB267_270.out _; (with_reducible repeat first | apply bN | apply bD | apply bA); refine blk_far ?_ NB267_270.out _; (with_reducible repeat first | apply bN | apply bD | apply bA); refine blk_far ?_ NB267_270.out _; (with_reducible repeat first | apply bN | apply bD | apply bA); refine blk_far ?_ NB267_270.out _; (with_reducible repeat first | apply bN | apply bD | apply bA); exact BK267.out⟩
  have n1_ : Aside0 ((((((w12.setCell ⟨gb270, 0, none⟩ (.int .i64 0)).setCell ⟨gb270, 1, none⟩ (.int .i64 0)).setCell ⟨gb270, 2, none⟩ (.int .i64 0)).setCell ⟨gb270, 3, none⟩ (.int .i64 (Go.bits .and .i64 a0_3 (wrap64 ((ji4) - 1))))).setCell ⟨gb270, 2, none⟩ (.int .i64 (Go.bits .andNot .i64 (Go.bits .or .i64 a0_2 (Go.bits .andNot .i64 a0_0 (wrap64 ((ji4) - 1)))) (Go.bits .and .i64 a0_3 (wrap64 ((ji4) - 1)))))).heap[gb268]? = some (.cells #[.int .i64 0, .int .i64 0, .int .i64 0, .int .i64 0] 24 (0, 0))) := ⟨by (with_reducible repeat first | apply bN | apply bD | apply bA); refine blk_far ?_ NB268_270.out _; (with_reducible repeat first | apply bN | apply bD | apply bA); refine blk_far ?_ NB268_270.out _; (with_reducible repeat first | apply bN | apply bD | apply bA); refine blk_far ?_ NB268_270.out _; (with_reducible repeat first | apply bN | apply bD | apply bA); refine blk_far ?_ NB268_270.out _; (with_reducible repeat first | apply bN | apply bD | apply bA); refine blk_far ?_ NB268_270.out _; (with_reducible repeat first | apply bN | apply bD | apply bA); exact BK268.out⟩
  have n2_ : Aside0 ((((((w12.setCell ⟨gb270, 0, none⟩ (.int .i64 0)).setCell ⟨gb270, 1, none⟩ (.int .i64 0)).setCell ⟨gb270, 2, none⟩ (.int .i64 0)).setCell ⟨gb270, 3, none⟩ (.int .i64 (Go.bits .and .i64 a0_3 (wrap64 ((ji4) - 1))))).setCell ⟨gb270, 2, none⟩ (.int .i64 (Go.bits .andNot .i64 (Go.bits .or .i64 a0_2 (Go.bits .andNot .i64 a0_0 (wrap64 ((ji4) - 1)))) (Go.bits .and .i64 a0_3 (wrap64 ((ji4) - 1)))))).heap[gb270]? = some (.cells #[.int .i64 0, .int .i64 0, .int .i64 (Go.bits .andNot .i64 (Go.bits .or .i64 a0_2 (Go.bits .andNot .i64 a0_0 (wrap64 ((ji4) - 1)))) (Go.bits .and .i64 a0_3 (wrap64 ((ji4) - 1)))), .int .i64 (Go.bits .and .i64 a0_3 (wrap64 ((ji4) - 1)))] 24 (0, 0))) := ⟨by (with_reducible repeat first | apply bN | apply bD | apply bA); refine blk_put (cs := #[.int .i64 0, .int .i64 0, .int .i64 0, .int .i64 (Go.bits .and .i64 a0_3 (wrap64 ((ji4) - 1)))]) ?_ 2 _ rfl; (with_reducible repeat first | apply bN | apply bD | apply bA); refine blk_put (cs := #[.int .i64 0, .int .i64 0, .int .i64 0, .int .i64 0]) ?_ 3 _ rfl; (with_reducible repeat first | apply bN | apply bD | apply bA); refine blk_put (cs := #[.int .i64 0, .int .i64 0, .int .i64 0, .int .i64 0]) ?_ 2 _ rfl; (with_reducible repeat first | apply bN | apply bD | apply bA); refine blk_put (cs := #[.int .i64 0, .int .i64 0, .int .i64 0, .int .i64 0]) ?_ 1 _ rfl; (with_reducible repeat first | apply bN | apply bD | apply bA); refine blk_put (cs := #[.int .i64 0, .int .i64 0, .int .i64 0, .int .i64 0]) ?_ 0 _ rfl; (with_reducible repeat first | apply bN | apply bD | apply bA); exact BK270.out⟩
  have n3_ : Aside0 (Below w.heap.size w (((((w12.setCell ⟨gb270, 0, none⟩ (.int .i64 0)).setCell ⟨gb270, 1, none⟩ (.int .i64 0)).setCell ⟨gb270, 2, none⟩ (.int .i64 0)).setCell ⟨gb270, 3, none⟩ (.int .i64 (Go.bits .and .i64 a0_3 (wrap64 ((ji4) - 1))))).setCell ⟨gb270, 2, none⟩ (.int .i64 (Go.bits .andNot .i64 (Go.bits .or .i64 a0_2 (Go.bits .andNot .i64 a0_0 (wrap64 ((ji4) - 1)))) (Go.bits .and .i64 a0_3 (wrap64 ((ji4) - 1))))))) := ⟨by repeat first | (with_reducible first | exact HB.out | apply vA | apply vN | apply vD | refine vS ?_ GE267.out | refine vS ?_ GE268.out | refine vS ?_ GE270.out) | exact HB.out⟩
  (try clear BK267)
  (try clear BK268)
  (try clear BK270)
  (try clear HB)
  generalize (((((w12.setCell ⟨gb270, 0, none⟩ (.int .i64 0)).setCell ⟨gb270, 1, none⟩ (.int .i64 0)).setCell ⟨gb270, 2, none⟩ (.int .i64 0)).setCell ⟨gb270, 3, none⟩ (.int .i64 (Go.bits .and .i64 a0_3 (wrap64 ((ji4) - 1))))).setCell ⟨gb270, 2, none⟩ (.int .i64 (Go.bits .andNot .i64 (Go.bits .or .i64 a0_2 (Go.bits .andNot .i64 a0_0 (wrap64 ((ji4) - 1)))) (Go.bits .and .i64 a0_3 (wrap64 ((ji4) - 1)))))) = w17 at n0_ n1_ n2_ n3_ ⊢
  have BK267 := n0_
  have BK268 := n1_
  have BK270 := n2_
  have HB := n3_
  clear n0_ n1_ n2_ n3_
  have n0_ := Aside0.mk (blk_drew BK267.out)
  have n1_ := Aside0.mk (blk_drew BK268.out)
  have n2_ := Aside0.mk (blk_drew BK270.out)
  have n3_ := Aside0.mk (below_drew1 HB.out)
  clear BK267
  clear BK268
  clear BK270
  clear HB
  have BK267 := n0_
  have BK268 := n1_
  have BK270 := n2_
  have HB := n3_
  clear n0_ n1_ n2_ n3_
  refine start_ (n := 17) (S := fun w' => w'.cell? ⟨gb267, 0, none⟩ = some (.int .i64 a0_0) ∧ w'.cell? ⟨gb267, 1, none⟩ = some (.int .i64 a0_1) ∧ w'.cell? ⟨gb267, 2, none⟩ = some (.int .i64 a0_2) ∧ w'.cell? ⟨gb267, 3, none⟩ = some (.int .i64 a0_3) ∧ w'.cell? ⟨gb270, 2, none⟩ = some (.int .i64 (Go.bits .andNot .i64 (Go.bits .or .i64 a0_2 (Go.bits .andNot .i64 a0_0 (wrap64 ((ji4) - 1)))) (Go.bits .and .i64 a0_3 (wrap64 ((ji4) - 1))))) ∧ w'.cell? ⟨gb270, 3, none⟩ = some (.int .i64 (Go.bits .and .i64 a0_3 (wrap64 ((ji4) - 1))))) (ds := []) #[false, false, false, false, false, false, false, false, false, false, false, false, false, false, false, false, false] (by kernel_rfl) rfl rfl ⟨(blk_cell BK267.out 0).trans rfl, (blk_cell BK267.out 1).trans rfl, (blk_cell BK267.out 2).trans rfl, (blk_cell BK267.out 3).trans rfl, (blk_cell BK270.out 2).trans rfl, (blk_cell BK270.out 3).trans rfl⟩ (fun hHeld => ?_); refine with_tabW impl_Range_tidy.tab4 impl_Range_tidy.bits4 (fun HT_ HW_ => ?_)
  generalize w17.drew = w18 at BK267 BK268 BK270 HB hHeld ⊢
  refine pure_ (i := 0) (N := some 30) (v := ?_) (a' := ?_) #[true, false, false, false, false, false, false, false, false, false, false, false, false, false, false, false, false] rfl rfl (any_of HT_.out (by kernel_rfl)) (fun _ _ _ h => h) (Or.inl ⟨by rfl, ?_⟩) ?_ ?_
  rotate_left
  ·intro w'
   go_simp
   with_reducible rfl
  rotate_left
  ·simp only [Act.put, List.setIfInBounds_toArray, List.set_cons_zero, List.set_cons_succ, i64_w, i32_w]
   rfl
  refine pure_ (i := 2) (N := some 32) (v := ?_) (a' := ?_) #[true, false, true, false, false, false, false, false, false, false, false, false, false, false, false, false, false] rfl rfl (any_of HT_.out (by kernel_rfl)) (fun _ _ _ h => h) (Or.inl ⟨by rfl, ?_⟩) ?_ ?_
  rotate_left
  ·intro w'
   go_simp
   with_reducible rfl
  rotate_left
  ·simp only [Act.put, List.setIfInBounds_toArray, List.set_cons_zero, List.set_cons_succ, i64_w, i32_w]
   rfl
  refine pure_ (i := 5) (N := some 35) (v := ?_) (a' := ?_) #[true, false, true, false, false, true, false, false, false, false, false, false, false, false, false, false, false] rfl rfl (any_of HT_.out (by kernel_rfl)) (fun _ _ _ h => h) (Or.inl ⟨by rfl, ?_⟩) ?_ ?_
  rotate_left
  ·intro w'
   go_simp
   with_reducible rfl
  rotate_left
  ·simp only [Act.put, List.setIfInBounds_toArray, List.set_cons_zero, List.set_cons_succ, i64_w, i32_w]
   rfl
  refine pure_ (i := 7) (N := some 37) (v := ?_) (a' := ?_) #[true, false, true, false, false, true, false, true, false, false, false, false, false, false, false, false, false] rfl rfl (any_of HT_.out (by kernel_rfl)) (fun _ _ _ h => h) (Or.inl ⟨by rfl, ?_⟩) ?_ ?_
  rotate_left
  ·intro w'
   go_simp
   with_reducible rfl
  rotate_left
  ·simp only [Act.put, List.setIfInBounds_toArray, List.set_cons_zero, List.set_cons_succ, i64_w, i32_w]
   rfl
  refine pure_ (i := 9) (N := some 39) (v := ?_) (a' := ?_) #[true, false, true, false, false, true, false, true, false, true, false, false, false, false, false, false, false] rfl rfl (any_of HT_.out (by kernel_rfl)) (fun _ _ _ h => h) (Or.inl ⟨by rfl, ?_⟩) ?_ ?_
  rotate_left
  ·intro w'
   go_simp
   with_reducible rfl
  rotate_left
  ·simp only [Act.put, List.setIfInBounds_toArray, List.set_cons_zero, List.set_cons_succ, i64_w, i32_w]
   rfl
  refine take_ (i := 1) (N := some 31) (v := ?_) (a' := ?_) #[true, true, true, false, false, true, false, true, false, true, false, false, false, false, false, false, false] rfl rfl (take_ofW HT_.out HW_.out (by kernel_rfl)) (fun _ _ _ h => h) (Or.inl ⟨by rfl, ?_⟩) hHeld ?_ ?_
  rotate_left
  ·rintro w' ⟨s0, s1, s2, s3, s4, s5⟩
   go_simp
   with_reducible rfl
  rotate_left
  ·simp only [Act.put, List.setIfInBounds_toArray, List.set_cons_zero, List.set_cons_succ, i64_w, i32_w]
   rfl
  refine take_ (i := 3) (N := some 33) (v := ?_) (a' := ?_) #[true, true, true, true, false, true, false, true, false, true, false, false, false, false, false, false, false] rfl rfl (take_ofW HT_.out HW_.out (by kernel_rfl)) (fun _ _ _ h => h) (Or.inl ⟨by rfl, ?_⟩) hHeld ?_ ?_
  rotate_left
  ·rintro w' ⟨s0, s1, s2, s3, s4, s5⟩
   go_simp
   with_reducible rfl
  rotate_left
  ·simp only [Act.put, List.setIfInBounds_toArray, List.set_cons_zero, List.set_cons_succ, i64_w, i32_w]
   rfl
  refine pure_ (i := 4) (N := some 34) (v := ?_) (a' := ?_) #[true, true, true, true, true, true, false, true, false, true, false, false, false, false, false, false, false] rfl rfl (any_of HT_.out (by kernel_rfl)) (fun _ _ _ h => h) (Or.inl ⟨by rfl, ?_⟩) ?_ ?_
  rotate_left
  ·intro w'
   go_simp
   with_reducible rfl
  rotate_left
  ·simp only [Act.put, List.setIfInBounds_toArray, List.set_cons_zero, List.set_cons_succ, i64_w, i32_w]
   rfl
  refine take_ (i := 6) (N := some 36) (v := ?_) (a' := ?_) #[true, true, true, true, true, true, true, true, false, true, false, false, false, false, false, false, false] rfl rfl (take_ofW HT_.out HW_.out (by kernel_rfl)) (fun _ _ _ h => h) (Or.inl ⟨by rfl, ?_⟩) hHeld ?_ ?_
  rotate_left
  ·rintro w' ⟨s0, s1, s2, s3, s4, s5⟩
   go_simp
   with_reducible rfl
  rotate_left
  ·simp only [Act.put, List.setIfInBounds_toArray, List.set_cons_zero, List.set_cons_succ, i64_w, i32_w]
   rfl
  refine take_ (i := 8) (N := some 38) (v := ?_) (a' := ?_) #[true, true, true, true, true, true, true, true, true, true, false, false, false, false, false, false, false] rfl rfl (take_ofW HT_.out HW_.out (by kernel_rfl)) (fun _ _ _ h => h) (Or.inl ⟨by rfl, ?_⟩) hHeld ?_ ?_
  rotate_left
  ·rintro w' ⟨s0, s1, s2, s3, s4, s5⟩
   go_simp
   with_reducible rfl
  rotate_left
  ·simp only [Act.put, List.setIfInBounds_toArray, List.set_cons_zero, List.set_cons_succ, i64_w, i32_w]
   rfl
  refine take_ (i := 10) (N := some 40) (v := ?_) (a' := ?_) #[true, true, true, true, true, true, true, true, true, true, true, false, false, false, false, false, false] rfl rfl (take_ofW HT_.out HW_.out (by kernel_rfl)) (fun _ _ _ h => h) (Or.inl ⟨by rfl, ?_⟩) hHeld ?_ ?_
  rotate_left
  ·rintro w' ⟨s0, s1, s2, s3, s4, s5⟩
   go_simp
   with_reducible rfl
  rotate_left
  ·simp only [Act.put, List.setIfInBounds_toArray, List.set_cons_zero, List.set_cons_succ, i64_w, i32_w]
   rfl
  refine pure_ (i := 11) (N := some 41) (v := ?_) (a' := ?_) #[true, true, true, true, true, true, true, true, true, true, true, true, false, false, false, false, false] rfl rfl (any_of HT_.out (by kernel_rfl)) (fun _ _ _ h => h) (Or.inl ⟨by rfl, ?_⟩) ?_ ?_
  rotate_left
  ·intro w'
   go_simp
   with_reducible rfl
  rotate_left
  ·simp only [Act.put, List.setIfInBounds_toArray, List.set_cons_zero, List.set_cons_succ, i64_w, i32_w]
   rfl
  refine pure_ (i := 12) (N := some 42) (v := ?_) (a' := ?_) #[true, true, true, true, true, true, true, true, true, true, true, true, true, false, false, false, false] rfl rfl (any_of HT_.out (by kernel_rfl)) (fun _ _ _ h => h) (Or.inl ⟨by rfl, ?_⟩) ?_ ?_
  rotate_left
  ·intro w'
   go_simp
   with_reducible rfl
  rotate_left
  ·simp only [Act.put, List.setIfInBounds_toArray, List.set_cons_zero, List.set_cons_succ, i64_w, i32_w]
   rfl
  refine pure_ (i := 13) (N := some 43) (v := ?_) (a' := ?_) #[true, true, true, true, true, true, true, true, true, true, true, true, true, true, false, false, false] rfl rfl (any_of HT_.out (by kernel_rfl)) (fun _ _ _ h => h) (Or.inl ⟨by rfl, ?_⟩) ?_ ?_
  rotate_left
  ·intro w'
   go_simp
   with_reducible rfl
  rotate_left
  ·simp only [Act.put, List.setIfInBounds_toArray, List.set_cons_zero, List.set_cons_succ, i64_w, i32_w]
   rfl
  refine one_ (i := 14) (N := none) #[true, true, true, true, true, true, true, true, true, true, true, true, true, true, true, false, false] rfl rfl (one_of HT_.out (by kernel_rfl)) (by decide) (fun K hK => ?_)
  have hs19 : w18.cell? ⟨gb270, 0, none⟩ = some (.int .i64 0) := (blk_cell BK270.out 0).trans rfl
  have hfs19 := blk_frozen BK270.out 0
  have hns19_0 := NB267_270.out
  have hns19_1 := NB268_270.out
  have hms19_0 := NB270_267.out
  have hms19_1 := NB270_268.out
  refine skip_ (w1 := ?_) (by rfl) rfl ?_ ?_
  rotate_left
  ·go_simp
   rfl
  refine hK.out _ _ ⟨((cell_far (p := ⟨gb270, _, none⟩) NB267_270.out _).trans (hHeld.1)), ((cell_far (p := ⟨gb270, _, none⟩) NB267_270.out _).trans (hHeld.2.1)), ((cell_far (p := ⟨gb270, _, none⟩) NB267_270.out _).trans (hHeld.2.2.1)), ((cell_far (p := ⟨gb270, _, none⟩) NB267_270.out _).trans (hHeld.2.2.2.1)), ((World.cell?_setCell_other _ _ _ _ (by simp)).trans (hHeld.2.2.2.2.1)), ((World.cell?_setCell_other _ _ _ _ (by simp)).trans (hHeld.2.2.2.2.2))⟩ (fun hHeld => ?_)
  clear hK K
  refine pure_ (i := 15) (N := some 44) (v := ?_) (a' := ?_) #[true, true, true, true, true, true, true, true, true, true, true, true, true, true, true, true, false] rfl rfl (any_of HT_.out (by kernel_rfl)) (fun _ _ _ h => h) (Or.inl ⟨by rfl, ?_⟩) ?_ ?_
  rotate_left
  ·intro w'
   go_simp
   with_reducible rfl
  rotate_left
  ·simp only [Act.put, List.setIfInBounds_toArray, List.set_cons_zero, List.set_cons_succ, i64_w, i32_w]
   rfl
  refine one_ (i := 16) (N := none) #[true, true, true, true, true, true, true, true, true, true, true, true, true, true, true, true, true] rfl rfl (one_of HT_.out (by kernel_rfl)) (by decide) (fun K hK => ?_)
  have hs20 : w18.cell? ⟨gb270, 1, none⟩ = some (.int .i64 0) := (blk_cell BK270.out 1).trans rfl
  have hfs20 := blk_frozen BK270.out 1
  have hns20_0 := NB267_270.out
  have hns20_1 := NB268_270.out
  have hms20_0 := NB270_267.out
  have hms20_1 := NB270_268.out
  refine skip_ (w1 := ?_) (by rfl) rfl ?_ ?_
  rotate_left
  ·go_simp
   rfl
  refine hK.out _ _ ⟨((cell_far (p := ⟨gb270, _, none⟩) NB267_270.out _).trans (hHeld.1)), ((cell_far (p := ⟨gb270, _, none⟩) NB267_270.out _).trans (hHeld.2.1)), ((cell_far (p := ⟨gb270, _, none⟩) NB267_270.out _).trans (hHeld.2.2.1)), ((cell_far (p := ⟨gb270, _, none⟩) NB267_270.out _).trans (hHeld.2.2.2.1)), ((World.cell?_setCell_other _ _ _ _ (by simp)).trans (hHeld.2.2.2.2.1)), ((World.cell?_setCell_other _ _ _ _ (by simp)).trans (hHeld.2.2.2.2.2))⟩ (fun hHeld => ?_)
  clear hK K
  refine done_ (done_of HT_.out (by kernel_rfl)) ?_
  have hcz21_0 : w18.cell? ⟨gb270, 0, none⟩ = some (.int .i64 0) := (blk_cell BK270.out 0).trans rfl
  have hcz21_1 : w18.cell? ⟨gb270, 1, none⟩ = some (.int .i64 0) := (blk_cell BK270.out 1).trans rfl
  have hcz21_2 : w18.cell? ⟨gb270, 2, none⟩ = some (.int .i64 (Go.bits .andNot .i64 (Go.bits .or .i64 a0_2 (Go.bits .andNot .i64 a0_0 (wrap64 ((ji4) - 1)))) (Go.bits .and .i64 a0_3 (wrap64 ((ji4) - 1))))) := (blk_cell BK270.out 2).trans rfl
  have hcz21_3 : w18.cell? ⟨gb270, 3, none⟩ = some (.int .i64 (Go.bits .and .i64 a0_3 (wrap64 ((ji4) - 1)))) := (blk_cell BK270.out 3).trans rfl
  have hfz21_0 := blk_frozen BK270.out 0
  have hfz21_1 := blk_frozen BK270.out 1
  have hfz21_2 := blk_frozen BK270.out 2
  have hfz21_3 := blk_frozen BK270.out 3
  obtain ⟨hcz22_0, hcz22_1, hcz22_2, hcz22_3, hfz22_0, hfz22_1, hfz22_2, hfz22_3⟩ := zc4 BK268
  try go_wp2
  refine bodyPost_ret (results_cell_row rfl _ _ gb268 24 #[.int .i64 ji5, .int .i64 ji6, .int .i64 (Go.bits .andNot .i64 (Go.bits .or .i64 a0_2 (Go.bits .andNot .i64 a0_0 (wrap64 ((ji4) - 1)))) (Go.bits .and .i64 a0_3 (wrap64 ((ji4) - 1)))), .int .i64 (Go.bits .and .i64 a0_3 (wrap64 ((ji4) - 1)))] (0, 0) _ rfl (by (with_reducible repeat first | apply bN | apply bD | apply bA); refine blk_put (cs := #[.int .i64 ji5, .int .i64 ji6, .int .i64 (Go.bits .andNot .i64 (Go.bits .or .i64 a0_2 (Go.bits .andNot .i64 a0_0 (wrap64 ((ji4) - 1)))) (Go.bits .and .i64 a0_3 (wrap64 ((ji4) - 1)))), .int .i64 0]) ?_ 3 _ rfl; (with_reducible repeat first | apply bN | apply bD | apply bA); refine blk_put (cs := #[.int .i64 ji5, .int .i64 ji6, .int .i64 0, .int .i64 0]) ?_ 2 _ rfl; (with_reducible repeat first | apply bN | apply bD | apply bA); refine blk_put (cs := #[.int .i64 ji5, .int .i64 0, .int .i64 0, .int .i64 0]) ?_ 1 _ rfl; (with_reducible repeat first | apply bN | apply bD | apply bA); refine blk_put (cs := #[.int .i64 0, .int .i64 0, .int .i64 0, .int .i64 0]) ?_ 0 _ rfl; (with_reducible repeat first | apply bN | apply bD | apply bA); refine blk_far ?_ NB268_270.out _; (with_reducible repeat first | apply bN | apply bD | apply bA); refine blk_far ?_ NB268_270.out _; (with_reducible repeat first | apply bN | apply bD | apply bA); exact BK268.out) Try.underlying24 rfl (by kernel_rfl)) rfl ?_
  exact ⟨by first | rfl | (simp [errW_none, errW_some] <;> rfl) | (simp only [← hji4, ← hji5, ← hji6]; first | rfl | (simp [errW_none, errW_some] <;> rfl)) | (simp [*, errW_none, errW_some] <;> rfl), by repeat first | (with_reducible first | exact HB.out | apply vA | apply vN | apply vD | refine vS ?_ GE267.out | refine vS ?_ GE268.out | refine vS ?_ GE270.out) | exact HB.out⟩
 ·rw [if_neg c3] at H
  exact absurd H (by simp)

end Go.Proofs.Ytcobkligpdaanaa.Q
