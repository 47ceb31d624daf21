/- The machine's side of this seat's laws: Go functions as Lean functions, and their contracts. By a program of this work over the kit's print. -/
import Derived.Test.YtdpeffabhkhmbaaQ0
import Derived.Test.YtdpeffabhkhmbaaQ1
import Derived.Test.YtdpeffabhkhmbaaQ5
namespace Go.Proofs.Ytdpeffabhkhmbaa.Q
open Go.RowKit Go.Proofs.YtdpeffabhkhmbaaW.PrintWords Go.Proofs.YtdpeffabhkhmbaaW.PrintLast Go.Proofs.YtdpeffabhkhmbaaW.PrintMore
attribute [local go_sem] max2_int min2_int max_two min_two max_three min_three max_four min_four Go.Proofs.YtdpeffabhkhmbaaN.not_i64   -- for this text's walks alone
set_option linter.unusedVariables false
set_option linter.unusedSimpArgs false

/-! ### laws_FnExactRangeMeet: function 13 -/
def laws_FnExactRangeMeet.f (k : Nat) (a0_0 : Int) (a0_1 : Int) (a0_2 : Int) (a0_3 : Int) (a1_0 : Int) (a1_1 : Int) (a1_2 : Int) (a1_3 : Int) : Option (Bool) := (laws_toRange.f a0_0 a0_1 a0_2 a0_3).bind fun bt189 => ((laws_toRange.f a1_0 a1_1 a1_2 a1_3).bind fun bt193 => ((spec_RangeMeet.f k bt189.1 bt189.2.1 bt189.2.2.1 bt189.2.2.2 bt193.1 bt193.2.1 bt193.2.2.1 bt193.2.2.2).bind fun bt197 => ((laws_toRange.f a0_0 a0_1 a0_2 a0_3).bind fun bt203 => ((laws_toRange.f a1_0 a1_1 a1_2 a1_3).bind fun bt207 => ((impl_RangeMeet.f k bt203.1 bt203.2.1 bt203.2.2.1 bt203.2.2.2 bt207.1 bt207.2.1 bt207.2.2.1 bt207.2.2.2).bind fun bt211 => ((laws_eqRange.f bt211.1 bt211.2.1 bt211.2.2.1 bt211.2.2.2.1 bt197.1 bt197.2.1 bt197.2.2.1 bt197.2.2.2.1).bind fun t217 => (if t217 = true then (if (bt211.2.2.2.2 != bt197.2.2.2.2) = true then (none) else (some true)) else (none))))))))

def laws_FnExactRangeMeet.T1 : Bool × List (List Nat × List Nat) := (true, [([], []), ([0], [0]), ([], []), ([2, 1], [2]), ([1, 3, 3], [1, 3]), ([4], [4]), ([5], [5]), ([5], [5]), ([], []), ([8, 6, 4, 0, 1, 2, 3, 4, 5, 6, 8], [6, 8]), ([7, 9, 0, 1, 2, 3, 4, 5, 6, 7, 8, 9], [7])])
def laws_FnExactRangeMeet.B1 : List Nat := [0, 1, 0, 7, 15, 31, 63, 63, 0, 383, 1023]
theorem laws_FnExactRangeMeet.tab1 : rtab .any (opsOf Try.f13 1) = laws_FnExactRangeMeet.T1 := by kernel_rfl
theorem laws_FnExactRangeMeet.bits1 : waitsOk laws_FnExactRangeMeet.T1.2 laws_FnExactRangeMeet.B1 = true := by kernel_rfl
def laws_FnExactRangeMeet.T2 : Bool × List (List Nat × List Nat) := (true, [([], []), ([0], [0]), ([], []), ([2, 1], [2]), ([1, 3, 3], [1, 3]), ([4], [4]), ([5], [5]), ([5], [5]), ([], []), ([8, 6, 4, 0, 1, 2, 3, 4, 5, 6, 8], [6, 8]), ([7, 9, 0, 1, 2, 3, 4, 5, 6, 7, 8, 9], [7])])
def laws_FnExactRangeMeet.B2 : List Nat := [0, 1, 0, 7, 15, 31, 63, 63, 0, 383, 1023]
theorem laws_FnExactRangeMeet.tab2 : rtab .any (opsOf Try.f13 2) = laws_FnExactRangeMeet.T2 := by kernel_rfl
theorem laws_FnExactRangeMeet.bits2 : waitsOk laws_FnExactRangeMeet.T2.2 laws_FnExactRangeMeet.B2 = true := by kernel_rfl
set_option maxHeartbeats 8000000 in
set_option maxRecDepth 100000 in
theorem laws_FnExactRangeMeet.calls (k : Nat) (a0_0 : Int) (a0_1 : Int) (a0_2 : Int) (a0_3 : Int) (a1_0 : Int) (a1_1 : Int) (a1_2 : Int) (a1_3 : Int) (r : Bool) (w : World) (h : laws_FnExactRangeMeet.f k a0_0 a0_1 a0_2 a0_3 a1_0 a1_1 a1_2 a1_3 = some r) :
  Calls Try.prog 13 #[.agg #[.int .i64 a0_0, .int .i64 a0_1, .int .i64 a0_2, .int .i64 a0_3], .agg #[.int .i64 a1_0, .int .i64 a1_1, .int .i64 a1_2, .int .i64 a1_3]] w fun e w' => e = .returned (.bool r) ∧ Below w.heap.size w w' := by
 have hu23 := Try.underlying23
 have hu25 := Try.underlying25
 have HB := Aside0.mk (Below.refl w.heap.size w)
 have H : ((laws_toRange.f a0_0 a0_1 a0_2 a0_3).bind fun bt189 => ((laws_toRange.f a1_0 a1_1 a1_2 a1_3).bind fun bt193 => ((spec_RangeMeet.f k bt189.1 bt189.2.1 bt189.2.2.1 bt189.2.2.2 bt193.1 bt193.2.1 bt193.2.2.1 bt193.2.2.2).bind fun bt197 => ((laws_toRange.f a0_0 a0_1 a0_2 a0_3).bind fun bt203 => ((laws_toRange.f a1_0 a1_1 a1_2 a1_3).bind fun bt207 => ((impl_RangeMeet.f k bt203.1 bt203.2.1 bt203.2.2.1 bt203.2.2.2 bt207.1 bt207.2.1 bt207.2.2.1 bt207.2.2.2).bind fun bt211 => ((laws_eqRange.f bt211.1 bt211.2.1 bt211.2.2.1 bt211.2.2.2.1 bt197.1 bt197.2.1 bt197.2.2.1 bt197.2.2.2.1).bind fun t217 => (if t217 = true then (if (bt211.2.2.2.2 != bt197.2.2.2.2) = true then (none) else (some true)) else (none))))))))) = some r := h
 clear h
 replace H := Option.bind_eq_some_iff.mp H
 obtain ⟨⟨t189, t190, t191, t192⟩, A30, H⟩ := H
 try dsimp only at H
 have A3 := Aside0.mk A30
 clear A30
 replace H := Option.bind_eq_some_iff.mp H
 obtain ⟨⟨t193, t194, t195, t196⟩, A40, H⟩ := H
 try dsimp only at H
 have A4 := Aside0.mk A40
 clear A40
 replace H := Option.bind_eq_some_iff.mp H
 obtain ⟨⟨t197, t198, t199, t200, t201⟩, A50, H⟩ := H
 try dsimp only at H
 have A5 := Aside0.mk A50
 clear A50
 replace H := Option.bind_eq_some_iff.mp H
 obtain ⟨⟨t203, t204, t205, t206⟩, A60, H⟩ := H
 try dsimp only at H
 have A6 := Aside0.mk A60
 clear A60
 replace H := Option.bind_eq_some_iff.mp H
 obtain ⟨⟨t207, t208, t209, t210⟩, A70, H⟩ := H
 try dsimp only at H
 have A7 := Aside0.mk A70
 clear A70
 replace H := Option.bind_eq_some_iff.mp H
 obtain ⟨⟨t211, t212, t213, t214, t215⟩, A80, H⟩ := H
 try dsimp only at H
 have A8 := Aside0.mk A80
 clear A80
 replace H := Option.bind_eq_some_iff.mp H
 obtain ⟨t217, A90, H⟩ := H
 try dsimp only at H
 have A9 := Aside0.mk A90
 clear A90
 by_cases c10 : t217 = true
 ·subst c10
  rw [if_pos rfl] at H
  by_cases c11 : (t215 != t201) = true
  ·rw [if_pos c11] at H
   exact absurd H (by simp)
  ·rw [if_neg c11] at H
   have c11b0 : (t215 != t201) = false := by simpa using c11
   (try (have c11b1 : decide (t215 = t201) = true := by simpa using c11))
   (try (have c11b2 : (t215 == t201) = true := by simpa using c11))
   clear c11
   obtain rfl := Option.some.inj H
   go_enter Try.func13, Try.ntmps13
   try go_wp2_with (first | ((with_reducible refine gate_dst (N := 2) rfl ?_); refine box_event ?hg (N := 2) ?hd (cs := #[.int .i64 a0_0, .int .i64 a0_1, .int .i64 a0_2, .int .i64 a0_3]) (t := 23) ?hr ?_; (case hd => rfl); (case hg => rfl); (case hr => first | (go_simp; done) | (go_simp; rfl)); intro gb187 hg w12 hbox hb; have n0_ := Aside0.mk (below_step (by repeat first | (with_reducible first | exact HB.out | apply vA | apply vN | apply vD) | exact HB.out) hb); have n1_ := Aside0.mk (hbox); have n2_ := Aside0.mk ((by rw [hg]; exact (below_size (by repeat first | (with_reducible first | exact HB.out | apply vA | apply vN | apply vD) | exact HB.out)) : w.heap.size ≤ gb187)); have n3_ := n2_; clear HB; have HB := n0_; have BK187 := n1_; have GW187 := n2_; have GE187 := n3_; clear n0_ n1_ n2_ n3_; clear hb hbox hg) | ((with_reducible refine gate_dst (N := 3) rfl ?_); refine box_event ?hg (N := 3) ?hd (cs := #[.int .i64 a1_0, .int .i64 a1_1, .int .i64 a1_2, .int .i64 a1_3]) (t := 23) ?hr ?_; (case hd => rfl); (case hg => rfl); (case hr => first | (go_simp; done) | (go_simp; rfl)); intro gb188 hg w13 hbox hb; have n0_ := zb BK187 hb rfl; have n1_ := Aside0.mk (below_step (by repeat first | (with_reducible first | exact HB.out | apply vA | apply vN | apply vD | refine vS ?_ GE187.out) | exact HB.out) hb); have n2_ := Aside0.mk (hbox); have n3_ := Aside0.mk ((by rw [hg]; exact (below_size (by repeat first | (with_reducible first | exact HB.out | apply vA | apply vN | apply vD | refine vS ?_ GE187.out) | exact HB.out)) : w.heap.size ≤ gb188)); have n4_ := n3_; have n5_ := zl BK187 hg rfl; have n6_ := zg BK187 hg rfl; clear BK187; clear HB; have BK187 := n0_; have HB := n1_; have BK188 := n2_; have GW188 := n3_; have GE188 := n4_; have NB187_188 := n5_; have NB188_187 := n6_; clear n0_ n1_ n2_ n3_ n4_ n5_ n6_; clear hb hbox hg))
   have n0_ := Aside0.mk (blk_drew BK187.out)
   have n1_ := Aside0.mk (blk_drew BK188.out)
   have n2_ := Aside0.mk (below_drew1 HB.out)
   clear BK187
   clear BK188
   clear HB
   have BK187 := n0_
   have BK188 := n1_
   have HB := n2_
   clear n0_ n1_ n2_
   refine start_ (n := 11) (S := fun w' => w'.cell? ⟨gb187, 0, none⟩ = some (.int .i64 a0_0) ∧ w'.cell? ⟨gb187, 1, none⟩ = some (.int .i64 a0_1) ∧ w'.cell? ⟨gb187, 2, none⟩ = some (.int .i64 a0_2) ∧ w'.cell? ⟨gb187, 3, none⟩ = some (.int .i64 a0_3) ∧ w'.cell? ⟨gb188, 0, none⟩ = some (.int .i64 a1_0) ∧ w'.cell? ⟨gb188, 1, none⟩ = some (.int .i64 a1_1) ∧ w'.cell? ⟨gb188, 2, none⟩ = some (.int .i64 a1_2) ∧ w'.cell? ⟨gb188, 3, none⟩ = some (.int .i64 a1_3)) (ds := []) #[false, false, false, false, false, false, false, false, false, false, false] (by kernel_rfl) rfl rfl ⟨(blk_cell BK187.out 0).trans rfl, (blk_cell BK187.out 1).trans rfl, (blk_cell BK187.out 2).trans rfl, (blk_cell BK187.out 3).trans rfl, (blk_cell BK188.out 0).trans rfl, (blk_cell BK188.out 1).trans rfl, (blk_cell BK188.out 2).trans rfl, (blk_cell BK188.out 3).trans rfl⟩ (fun hHeld => ?_); refine with_tabW laws_FnExactRangeMeet.tab1 laws_FnExactRangeMeet.bits1 (fun HT_ HW_ => ?_)
   generalize w13.drew = w14 at BK187 BK188 HB hHeld ⊢
   refine take_ (i := 0) (N := some 10) (v := ?_) (a' := ?_) #[true, false, false, false, false, false, false, false, false, false, false] rfl rfl (take_ofW HT_.out HW_.out (by kernel_rfl)) (fun _ _ _ h => h) (Or.inl ⟨by rfl, ?_⟩) hHeld ?_ ?_
   rotate_left
   ·rintro w' ⟨s0, s1, s2, s3, s4, s5, s6, s7⟩
    go_simp
    with_reducible rfl
   rotate_left
   ·simp only [Act.put, List.setIfInBounds_toArray, List.set_cons_zero, List.set_cons_succ, i64_w, i32_w]
    rfl
   refine take_ (i := 2) (N := some 12) (v := ?_) (a' := ?_) #[true, false, true, false, false, false, false, false, false, false, false] rfl rfl (take_ofW HT_.out HW_.out (by kernel_rfl)) (fun _ _ _ h => h) (Or.inl ⟨by rfl, ?_⟩) hHeld ?_ ?_
   rotate_left
   ·rintro w' ⟨s0, s1, s2, s3, s4, s5, s6, s7⟩
    go_simp
    with_reducible rfl
   rotate_left
   ·simp only [Act.put, List.setIfInBounds_toArray, List.set_cons_zero, List.set_cons_succ, i64_w, i32_w]
    rfl
   refine join_ (σ := Nat) 2 #[true, true, true, true, true, true, true, true, true, false, false] (fun s_ => [(11, .agg #[.int .i64 t189, .int .i64 t190, .int .i64 t191, .int .i64 t192]), (13, .agg #[.int .i64 t193, .int .i64 t194, .int .i64 t195, .int .i64 t196]), (14, .tuple #[.agg #[.int .i64 t197, .int .i64 t198, .int .i64 t199, .int .i64 t200], .bool t201]), (5, .pointer (some ⟨s_, 0, none⟩)), (9, .tuple #[.agg #[.int .i64 t197, .int .i64 t198, .int .i64 t199, .int .i64 t200], .bool t201]), (15, .agg #[.int .i64 t197, .int .i64 t198, .int .i64 t199, .int .i64 t200]), (16, .bool t201)]) (fun s_ w' => (w'.cell? ⟨gb187, 0, none⟩ = some (.int .i64 a0_0) ∧ w'.cell? ⟨gb187, 1, none⟩ = some (.int .i64 a0_1) ∧ w'.cell? ⟨gb187, 2, none⟩ = some (.int .i64 a0_2) ∧ w'.cell? ⟨gb187, 3, none⟩ = some (.int .i64 a0_3) ∧ w'.cell? ⟨gb188, 0, none⟩ = some (.int .i64 a1_0) ∧ w'.cell? ⟨gb188, 1, none⟩ = some (.int .i64 a1_1) ∧ w'.cell? ⟨gb188, 2, none⟩ = some (.int .i64 a1_2) ∧ w'.cell? ⟨gb188, 3, none⟩ = some (.int .i64 a1_3)) ∧ (w'.heap[gb187]? = some (.cells #[.int .i64 a0_0, .int .i64 a0_1, .int .i64 a0_2, .int .i64 a0_3] 23 (0, 0))) ∧ (w'.heap[gb188]? = some (.cells #[.int .i64 a1_0, .int .i64 a1_1, .int .i64 a1_2, .int .i64 a1_3] 23 (0, 0))) ∧ (w'.heap[s_]? = some (.cells #[.int .i64 0, .int .i64 0, .int .i64 0, .int .i64 0] 25 (0, 0))) ∧ (w.heap.size ≤ s_) ∧ (w.heap.size ≤ s_) ∧ (gb187 ≠ s_) ∧ (s_ ≠ gb187) ∧ (gb188 ≠ s_) ∧ (s_ ≠ gb188) ∧ (Below w.heap.size w w')) ?_ ?_
   rotate_left
   ·intro hCont
    refine two_ (i := 1) (j := 8) (Ni := some 11) (Nj := some 5) #[true, true, true, false, false, false, false, false, false, false, false] #[true, false, true, false, false, false, false, false, true, false, false] rfl rfl rfl rfl (two_of HT_.out (by kernel_rfl)) (by decide) (by decide) (fun K hK => ?_) (fun K hK => ?_)
    ·skip
     refine goes_ Try.func16 (by kernel_rfl) rfl #[.agg #[.int .i64 a0_0, .int .i64 a0_1, .int .i64 a0_2, .int .i64 a0_3]] (by rfl) rfl rfl (by (try simp only [List.map_toArray, List.map_cons, List.map_nil]); first | done | rfl | (simp only [List.length_drop, List.length_take]; rfl)) ?_
     with_reducible refine (laws_toRange.calls a0_0 a0_1 a0_2 a0_3 t189 t190 t191 t192 _ A3.out).mono ?_
     rintro e w15 ⟨rfl, hb⟩
     refine ⟨_, rfl, ?_⟩
     have n0_ := zb BK187 hb rfl
     have n1_ := zb BK188 hb rfl
     have n2_ := Aside0.mk (below_step (by repeat first | (with_reducible first | exact HB.out | apply vA | apply vN | apply vD | refine vS ?_ GE187.out | refine vS ?_ GE188.out) | exact HB.out) hb)
     clear BK187
     clear BK188
     clear HB
     have BK187 := n0_
     have BK188 := n1_
     have HB := n2_
     clear n0_ n1_ n2_
     (try clear hb)
     (try clear hb2)
     (try clear hk)
     (try clear hi)
     refine hK.out _ _ ⟨(blk_cell BK187.out 0).trans rfl, (blk_cell BK187.out 1).trans rfl, (blk_cell BK187.out 2).trans rfl, (blk_cell BK187.out 3).trans rfl, (blk_cell BK188.out 0).trans rfl, (blk_cell BK188.out 1).trans rfl, (blk_cell BK188.out 2).trans rfl, (blk_cell BK188.out 3).trans rfl⟩ (fun hHeld => ?_)
     clear hK K
     refine norm_ (a' := ?_) ?_ ?_
     rotate_left
     ·show Act.put _ (some 11) _ = _
      simp only [Act.put, List.setIfInBounds_toArray, List.set_cons_zero, List.set_cons_succ, i64_w, i32_w]
      rfl
     refine two_ (i := 3) (j := 8) (Ni := some 13) (Nj := some 5) #[true, true, true, true, false, false, false, false, false, false, false] #[true, true, true, false, false, false, false, false, true, false, false] rfl rfl rfl rfl (two_of HT_.out (by kernel_rfl)) (by decide) (by decide) (fun K hK => ?_) (fun K hK => ?_)
     ·skip
      refine goes_ Try.func16 (by kernel_rfl) rfl #[.agg #[.int .i64 a1_0, .int .i64 a1_1, .int .i64 a1_2, .int .i64 a1_3]] (by rfl) rfl rfl (by (try simp only [List.map_toArray, List.map_cons, List.map_nil]); first | done | rfl | (simp only [List.length_drop, List.length_take]; rfl)) ?_
      with_reducible refine (laws_toRange.calls a1_0 a1_1 a1_2 a1_3 t193 t194 t195 t196 _ A4.out).mono ?_
      rintro e w16 ⟨rfl, hb⟩
      refine ⟨_, rfl, ?_⟩
      have n0_ := zb BK187 hb rfl
      have n1_ := zb BK188 hb rfl
      have n2_ := Aside0.mk (below_step (by repeat first | (with_reducible first | exact HB.out | apply vA | apply vN | apply vD | refine vS ?_ GE187.out | refine vS ?_ GE188.out) | exact HB.out) hb)
      clear BK187
      clear BK188
      clear HB
      have BK187 := n0_
      have BK188 := n1_
      have HB := n2_
      clear n0_ n1_ n2_
      (try clear hb)
      (try clear hb2)
      (try clear hk)
      (try clear hi)
      refine hK.out _ _ ⟨(blk_cell BK187.out 0).trans rfl, (blk_cell BK187.out 1).trans rfl, (blk_cell BK187.out 2).trans rfl, (blk_cell BK187.out 3).trans rfl, (blk_cell BK188.out 0).trans rfl, (blk_cell BK188.out 1).trans rfl, (blk_cell BK188.out 2).trans rfl, (blk_cell BK188.out 3).trans rfl⟩ (fun hHeld => ?_)
      clear hK K
      refine norm_ (a' := ?_) ?_ ?_
      rotate_left
      ·show Act.put _ (some 13) _ = _
       simp only [Act.put, List.setIfInBounds_toArray, List.set_cons_zero, List.set_cons_succ, i64_w, i32_w]
       rfl
      refine two_ (i := 4) (j := 8) (Ni := some 14) (Nj := some 5) #[true, true, true, true, true, false, false, false, false, false, false] #[true, true, true, true, false, false, false, false, true, false, false] rfl rfl rfl rfl (two_of HT_.out (by kernel_rfl)) (by decide) (by decide) (fun K hK => ?_) (fun K hK => ?_)
      ·skip
       refine goes_ Try.func37 (by kernel_rfl) rfl #[.agg #[.int .i64 t189, .int .i64 t190, .int .i64 t191, .int .i64 t192], .agg #[.int .i64 t193, .int .i64 t194, .int .i64 t195, .int .i64 t196]] (by rfl) rfl rfl (by (try simp only [List.map_toArray, List.map_cons, List.map_nil]); first | done | rfl | (simp only [List.length_drop, List.length_take]; rfl)) ?_
       with_reducible refine (spec_RangeMeet.calls k t189 t190 t191 t192 t193 t194 t195 t196 t197 t198 t199 t200 t201 _ A5.out).mono ?_
       rintro e w17 ⟨rfl, hb⟩
       refine ⟨_, rfl, ?_⟩
       have n0_ := zb BK187 hb rfl
       have n1_ := zb BK188 hb rfl
       have n2_ := Aside0.mk (below_step (by repeat first | (with_reducible first | exact HB.out | apply vA | apply vN | apply vD | refine vS ?_ GE187.out | refine vS ?_ GE188.out) | exact HB.out) hb)
       clear BK187
       clear BK188
       clear HB
       have BK187 := n0_
       have BK188 := n1_
       have HB := n2_
       clear n0_ n1_ n2_
       (try clear hb)
       (try clear hb2)
       (try clear hk)
       (try clear hi)
       refine hK.out _ _ ⟨(blk_cell BK187.out 0).trans rfl, (blk_cell BK187.out 1).trans rfl, (blk_cell BK187.out 2).trans rfl, (blk_cell BK187.out 3).trans rfl, (blk_cell BK188.out 0).trans rfl, (blk_cell BK188.out 1).trans rfl, (blk_cell BK188.out 2).trans rfl, (blk_cell BK188.out 3).trans rfl⟩ (fun hHeld => ?_)
       clear hK K
       refine norm_ (a' := ?_) ?_ ?_
       rotate_left
       ·show Act.put _ (some 14) _ = _
        simp only [Act.put, List.setIfInBounds_toArray, List.set_cons_zero, List.set_cons_succ, i64_w, i32_w]
        rfl
       refine pure_ (i := 5) (N := some 9) (v := ?_) (a' := ?_) #[true, true, true, true, true, true, false, false, false, false, false] rfl rfl (any_of HT_.out (by kernel_rfl)) (fun _ _ _ h => h) (Or.inl ⟨by rfl, ?_⟩) ?_ ?_
       rotate_left
       ·intro w'
        go_simp
        with_reducible rfl
       rotate_left
       ·simp only [Act.put, List.setIfInBounds_toArray, List.set_cons_zero, List.set_cons_succ, i64_w, i32_w]
        rfl
       refine pure_ (i := 6) (N := some 15) (v := ?_) (a' := ?_) #[true, true, true, true, true, true, true, false, false, false, false] rfl rfl (any_of HT_.out (by kernel_rfl)) (fun _ _ _ h => h) (Or.inl ⟨by rfl, ?_⟩) ?_ ?_
       rotate_left
       ·intro w'
        go_simp
        with_reducible rfl
       rotate_left
       ·simp only [Act.put, List.setIfInBounds_toArray, List.set_cons_zero, List.set_cons_succ, i64_w, i32_w]
        rfl
       refine pure_ (i := 7) (N := some 16) (v := ?_) (a' := ?_) #[true, true, true, true, true, true, true, true, false, false, false] rfl rfl (any_of HT_.out (by kernel_rfl)) (fun _ _ _ h => h) (Or.inl ⟨by rfl, ?_⟩) ?_ ?_
       rotate_left
       ·intro w'
        go_simp
        with_reducible rfl
       rotate_left
       ·simp only [Act.put, List.setIfInBounds_toArray, List.set_cons_zero, List.set_cons_succ, i64_w, i32_w]
        rfl
       refine one_ (i := 8) (N := some 5) #[true, true, true, true, true, true, true, true, true, false, false] rfl rfl (one_of HT_.out (by kernel_rfl)) (by decide) (fun K hK => ?_)
       refine box_step ?hg (N := 5) ?hd (cs := #[.int .i64 0, .int .i64 0, .int .i64 0, .int .i64 0]) (t := 25) ?hr ?_; (case hd => rfl); (case hg => rfl); (case hr => first | (go_simp; done) | (go_simp; rfl))
       intro gb202 hg w18 hbox hb
       have n0_ := zb BK187 hb rfl
       have n1_ := zb BK188 hb rfl
       have n2_ := Aside0.mk (below_step (by repeat first | (with_reducible first | exact HB.out | apply vA | apply vN | apply vD | refine vS ?_ GE187.out | refine vS ?_ GE188.out) | exact HB.out) hb)
       have n3_ := Aside0.mk (hbox)
       have n4_ := Aside0.mk ((by rw [hg]; exact (below_size (by repeat first | (with_reducible first | exact HB.out | apply vA | apply vN | apply vD | refine vS ?_ GE187.out | refine vS ?_ GE188.out) | exact HB.out)) : w.heap.size ≤ gb202))
       have n5_ := Aside0.mk ((by rw [hg]; exact (below_size (by repeat first | (with_reducible first | exact HB.out | apply vA | apply vN | apply vD | refine vS ?_ GE187.out | refine vS ?_ GE188.out) | exact HB.out)) : w.heap.size ≤ gb202))
       have n6_ := zl BK187 hg rfl
       have n7_ := zg BK187 hg rfl
       have n8_ := zl BK188 hg rfl
       have n9_ := zg BK188 hg rfl
       clear BK187
       clear BK188
       clear HB
       have BK187 := n0_
       have BK188 := n1_
       have HB := n2_
       have BK202 := n3_
       have GW202 := n4_
       have GE202 := n5_
       have NB187_202 := n6_
       have NB202_187 := n7_
       have NB188_202 := n8_
       have NB202_188 := n9_
       clear n0_ n1_ n2_ n3_ n4_ n5_ n6_ n7_ n8_ n9_
       clear hb hbox hg
       refine hK.out _ _ ⟨(blk_cell BK187.out 0).trans rfl, (blk_cell BK187.out 1).trans rfl, (blk_cell BK187.out 2).trans rfl, (blk_cell BK187.out 3).trans rfl, (blk_cell BK188.out 0).trans rfl, (blk_cell BK188.out 1).trans rfl, (blk_cell BK188.out 2).trans rfl, (blk_cell BK188.out 3).trans rfl⟩ (fun hHeld => ?_)
       clear hK K
       refine norm_ (a' := ?_) ?_ ?_
       rotate_left
       ·show Act.put _ (some 5) _ = _
        simp only [Act.put, List.setIfInBounds_toArray, List.set_cons_zero, List.set_cons_succ, i64_w, i32_w]
        rfl
       exact norm_ (by simp only [putAll, Act.put, List.setIfInBounds_toArray, List.set_cons_zero, List.set_cons_succ]) (hCont (gb202) _ ⟨hHeld, (by (with_reducible repeat first | apply bN | apply bD | apply bA); exact BK187.out), (by (with_reducible repeat first | apply bN | apply bD | apply bA); exact BK188.out), (by (with_reducible repeat first | apply bN | apply bD | apply bA); exact BK202.out), GW202.out, GE202.out, NB187_202.out, NB202_187.out, NB188_202.out, NB202_188.out, (by repeat first | (with_reducible first | exact HB.out | apply vA | apply vN | apply vD | refine vS ?_ GE187.out | refine vS ?_ GE188.out | refine vS ?_ GE202.out) | exact HB.out)⟩)
      ·skip
       refine box_step ?hg (N := 5) ?hd (cs := #[.int .i64 0, .int .i64 0, .int .i64 0, .int .i64 0]) (t := 25) ?hr ?_; (case hd => rfl); (case hg => rfl); (case hr => first | (go_simp; done) | (go_simp; rfl))
       intro gb202 hg w17 hbox hb
       have n0_ := zb BK187 hb rfl
       have n1_ := zb BK188 hb rfl
       have n2_ := Aside0.mk (below_step (by repeat first | (with_reducible first | exact HB.out | apply vA | apply vN | apply vD | refine vS ?_ GE187.out | refine vS ?_ GE188.out) | exact HB.out) hb)
       have n3_ := Aside0.mk (hbox)
       have n4_ := Aside0.mk ((by rw [hg]; exact (below_size (by repeat first | (with_reducible first | exact HB.out | apply vA | apply vN | apply vD | refine vS ?_ GE187.out | refine vS ?_ GE188.out) | exact HB.out)) : w.heap.size ≤ gb202))
       have n5_ := Aside0.mk ((by rw [hg]; exact (below_size (by repeat first | (with_reducible first | exact HB.out | apply vA | apply vN | apply vD | refine vS ?_ GE187.out | refine vS ?_ GE188.out) | exact HB.out)) : w.heap.size ≤ gb202))
       have n6_ := zl BK187 hg rfl
       have n7_ := zg BK187 hg rfl
       have n8_ := zl BK188 hg rfl
       have n9_ := zg BK188 hg rfl
       clear BK187
       clear BK188
       clear HB
       have BK187 := n0_
       have BK188 := n1_
       have HB := n2_
       have BK202 := n3_
       have GW202 := n4_
       have GE202 := n5_
       have NB187_202 := n6_
       have NB202_187 := n7_
       have NB188_202 := n8_
       have NB202_188 := n9_
       clear n0_ n1_ n2_ n3_ n4_ n5_ n6_ n7_ n8_ n9_
       clear hb hbox hg
       refine hK.out _ _ ⟨(blk_cell BK187.out 0).trans rfl, (blk_cell BK187.out 1).trans rfl, (blk_cell BK187.out 2).trans rfl, (blk_cell BK187.out 3).trans rfl, (blk_cell BK188.out 0).trans rfl, (blk_cell BK188.out 1).trans rfl, (blk_cell BK188.out 2).trans rfl, (blk_cell BK188.out 3).trans rfl⟩ (fun hHeld => ?_)
       clear hK K
       refine norm_ (a' := ?_) ?_ ?_
       rotate_left
       ·show Act.put _ (some 5) _ = _
        simp only [Act.put, List.setIfInBounds_toArray, List.set_cons_zero, List.set_cons_succ, i64_w, i32_w]
        rfl
       refine one_ (i := 4) (N := some 14) #[true, true, true, true, true, false, false, false, true, false, false] rfl rfl (one_of HT_.out (by kernel_rfl)) (by decide) (fun K hK => ?_)
       refine goes_ Try.func37 (by kernel_rfl) rfl #[.agg #[.int .i64 t189, .int .i64 t190, .int .i64 t191, .int .i64 t192], .agg #[.int .i64 t193, .int .i64 t194, .int .i64 t195, .int .i64 t196]] (by rfl) rfl rfl (by (try simp only [List.map_toArray, List.map_cons, List.map_nil]); first | done | rfl | (simp only [List.length_drop, List.length_take]; rfl)) ?_
       with_reducible refine (spec_RangeMeet.calls k t189 t190 t191 t192 t193 t194 t195 t196 t197 t198 t199 t200 t201 _ A5.out).mono ?_
       rintro e w18 ⟨rfl, hb⟩
       refine ⟨_, rfl, ?_⟩
       have n0_ := zb BK187 hb rfl
       have n1_ := zb BK188 hb rfl
       have n2_ := zb BK202 hb rfl
       have n3_ := Aside0.mk (below_step (by repeat first | (with_reducible first | exact HB.out | apply vA | apply vN | apply vD | refine vS ?_ GE187.out | refine vS ?_ GE188.out | refine vS ?_ GE202.out) | exact HB.out) hb)
       clear BK187
       clear BK188
       clear BK202
       clear HB
       have BK187 := n0_
       have BK188 := n1_
       have BK202 := n2_
       have HB := n3_
       clear n0_ n1_ n2_ n3_
       (try clear hb)
       (try clear hb2)
       (try clear hk)
       (try clear hi)
       refine hK.out _ _ ⟨(blk_cell BK187.out 0).trans rfl, (blk_cell BK187.out 1).trans rfl, (blk_cell BK187.out 2).trans rfl, (blk_cell BK187.out 3).trans rfl, (blk_cell BK188.out 0).trans rfl, (blk_cell BK188.out 1).trans rfl, (blk_cell BK188.out 2).trans rfl, (blk_cell BK188.out 3).trans rfl⟩ (fun hHeld => ?_)
       clear hK K
       refine norm_ (a' := ?_) ?_ ?_
       rotate_left
       ·show Act.put _ (some 14) _ = _
        simp only [Act.put, List.setIfInBounds_toArray, List.set_cons_zero, List.set_cons_succ, i64_w, i32_w]
        rfl
       refine pure_ (i := 5) (N := some 9) (v := ?_) (a' := ?_) #[true, true, true, true, true, true, false, false, true, false, false] rfl rfl (any_of HT_.out (by kernel_rfl)) (fun _ _ _ h => h) (Or.inl ⟨by rfl, ?_⟩) ?_ ?_
       rotate_left
       ·intro w'
        go_simp
        with_reducible rfl
       rotate_left
       ·simp only [Act.put, List.setIfInBounds_toArray, List.set_cons_zero, List.set_cons_succ, i64_w, i32_w]
        rfl
       refine pure_ (i := 6) (N := some 15) (v := ?_) (a' := ?_) #[true, true, true, true, true, true, true, false, true, false, false] rfl rfl (any_of HT_.out (by kernel_rfl)) (fun _ _ _ h => h) (Or.inl ⟨by rfl, ?_⟩) ?_ ?_
       rotate_left
       ·intro w'
        go_simp
        with_reducible rfl
       rotate_left
       ·simp only [Act.put, List.setIfInBounds_toArray, List.set_cons_zero, List.set_cons_succ, i64_w, i32_w]
        rfl
       refine pure_ (i := 7) (N := some 16) (v := ?_) (a' := ?_) #[true, true, true, true, true, true, true, true, true, false, false] rfl rfl (any_of HT_.out (by kernel_rfl)) (fun _ _ _ h => h) (Or.inl ⟨by rfl, ?_⟩) ?_ ?_
       rotate_left
       ·intro w'
        go_simp
        with_reducible rfl
       rotate_left
       ·simp only [Act.put, List.setIfInBounds_toArray, List.set_cons_zero, List.set_cons_succ, i64_w, i32_w]
        rfl
       exact norm_ (by simp only [putAll, Act.put, List.setIfInBounds_toArray, List.set_cons_zero, List.set_cons_succ]) (hCont (gb202) _ ⟨hHeld, (by (with_reducible repeat first | apply bN | apply bD | apply bA); exact BK187.out), (by (with_reducible repeat first | apply bN | apply bD | apply bA); exact BK188.out), (by (with_reducible repeat first | apply bN | apply bD | apply bA); exact BK202.out), GW202.out, GE202.out, NB187_202.out, NB202_187.out, NB188_202.out, NB202_188.out, (by repeat first | (with_reducible first | exact HB.out | apply vA | apply vN | apply vD | refine vS ?_ GE187.out | refine vS ?_ GE188.out | refine vS ?_ GE202.out) | exact HB.out)⟩)
     ·skip
      refine box_step ?hg (N := 5) ?hd (cs := #[.int .i64 0, .int .i64 0, .int .i64 0, .int .i64 0]) (t := 25) ?hr ?_; (case hd => rfl); (case hg => rfl); (case hr => first | (go_simp; done) | (go_simp; rfl))
      intro gb202 hg w16 hbox hb
      have n0_ := zb BK187 hb rfl
      have n1_ := zb BK188 hb rfl
      have n2_ := Aside0.mk (below_step (by repeat first | (with_reducible first | exact HB.out | apply vA | apply vN | apply vD | refine vS ?_ GE187.out | refine vS ?_ GE188.out) | exact HB.out) hb)
      have n3_ := Aside0.mk (hbox)
      have n4_ := Aside0.mk ((by rw [hg]; exact (below_size (by repeat first | (with_reducible first | exact HB.out | apply vA | apply vN | apply vD | refine vS ?_ GE187.out | refine vS ?_ GE188.out) | exact HB.out)) : w.heap.size ≤ gb202))
      have n5_ := Aside0.mk ((by rw [hg]; exact (below_size (by repeat first | (with_reducible first | exact HB.out | apply vA | apply vN | apply vD | refine vS ?_ GE187.out | refine vS ?_ GE188.out) | exact HB.out)) : w.heap.size ≤ gb202))
      have n6_ := zl BK187 hg rfl
      have n7_ := zg BK187 hg rfl
      have n8_ := zl BK188 hg rfl
      have n9_ := zg BK188 hg rfl
      clear BK187
      clear BK188
      clear HB
      have BK187 := n0_
      have BK188 := n1_
      have HB := n2_
      have BK202 := n3_
      have GW202 := n4_
      have GE202 := n5_
      have NB187_202 := n6_
      have NB202_187 := n7_
      have NB188_202 := n8_
      have NB202_188 := n9_
      clear n0_ n1_ n2_ n3_ n4_ n5_ n6_ n7_ n8_ n9_
      clear hb hbox hg
      refine hK.out _ _ ⟨(blk_cell BK187.out 0).trans rfl, (blk_cell BK187.out 1).trans rfl, (blk_cell BK187.out 2).trans rfl, (blk_cell BK187.out 3).trans rfl, (blk_cell BK188.out 0).trans rfl, (blk_cell BK188.out 1).trans rfl, (blk_cell BK188.out 2).trans rfl, (blk_cell BK188.out 3).trans rfl⟩ (fun hHeld => ?_)
      clear hK K
      refine norm_ (a' := ?_) ?_ ?_
      rotate_left
      ·show Act.put _ (some 5) _ = _
       simp only [Act.put, List.setIfInBounds_toArray, List.set_cons_zero, List.set_cons_succ, i64_w, i32_w]
       rfl
      refine one_ (i := 3) (N := some 13) #[true, true, true, true, false, false, false, false, true, false, false] rfl rfl (one_of HT_.out (by kernel_rfl)) (by decide) (fun K hK => ?_)
      refine goes_ Try.func16 (by kernel_rfl) rfl #[.agg #[.int .i64 a1_0, .int .i64 a1_1, .int .i64 a1_2, .int .i64 a1_3]] (by rfl) rfl rfl (by (try simp only [List.map_toArray, List.map_cons, List.map_nil]); first | done | rfl | (simp only [List.length_drop, List.length_take]; rfl)) ?_
      with_reducible refine (laws_toRange.calls a1_0 a1_1 a1_2 a1_3 t193 t194 t195 t196 _ A4.out).mono ?_
      rintro e w17 ⟨rfl, hb⟩
      refine ⟨_, rfl, ?_⟩
      have n0_ := zb BK187 hb rfl
      have n1_ := zb BK188 hb rfl
      have n2_ := zb BK202 hb rfl
      have n3_ := Aside0.mk (below_step (by repeat first | (with_reducible first | exact HB.out | apply vA | apply vN | apply vD | refine vS ?_ GE187.out | refine vS ?_ GE188.out | refine vS ?_ GE202.out) | exact HB.out) hb)
      clear BK187
      clear BK188
      clear BK202
      clear HB
      have BK187 := n0_
      have BK188 := n1_
      have BK202 := n2_
      have HB := n3_
      clear n0_ n1_ n2_ n3_
      (try clear hb)
      (try clear hb2)
      (try clear hk)
      (try clear hi)
      refine hK.out _ _ ⟨(blk_cell BK187.out 0).trans rfl, (blk_cell BK187.out 1).trans rfl, (blk_cell BK187.out 2).trans rfl, (blk_cell BK187.out 3).trans rfl, (blk_cell BK188.out 0).trans rfl, (blk_cell BK188.out 1).trans rfl, (blk_cell BK188.out 2).trans rfl, (blk_cell BK188.out 3).trans rfl⟩ (fun hHeld => ?_)
      clear hK K
      refine norm_ (a' := ?_) ?_ ?_
      rotate_left
      ·show Act.put _ (some 13) _ = _
       simp only [Act.put, List.setIfInBounds_toArray, List.set_cons_zero, List.set_cons_succ, i64_w, i32_w]
       rfl
      refine one_ (i := 4) (N := some 14) #[true, true, true, true, true, false, false, false, true, false, false] rfl rfl (one_of HT_.out (by kernel_rfl)) (by decide) (fun K hK => ?_)
      refine goes_ Try.func37 (by kernel_rfl) rfl #[.agg #[.int .i64 t189, .int .i64 t190, .int .i64 t191, .int .i64 t192], .agg #[.int .i64 t193, .int .i64 t194, .int .i64 t195, .int .i64 t196]] (by rfl) rfl rfl (by (try simp only [List.map_toArray, List.map_cons, List.map_nil]); first | done | rfl | (simp only [List.length_drop, List.length_take]; rfl)) ?_
      with_reducible refine (spec_RangeMeet.calls k t189 t190 t191 t192 t193 t194 t195 t196 t197 t198 t199 t200 t201 _ A5.out).mono ?_
      rintro e w18 ⟨rfl, hb⟩
      refine ⟨_, rfl, ?_⟩
      have n0_ := zb BK187 hb rfl
      have n1_ := zb BK188 hb rfl
      have n2_ := zb BK202 hb rfl
      have n3_ := Aside0.mk (below_step (by repeat first | (with_reducible first | exact HB.out | apply vA | apply vN | apply vD | refine vS ?_ GE187.out | refine vS ?_ GE188.out | refine vS ?_ GE202.out) | exact HB.out) hb)
      clear BK187
      clear BK188
      clear BK202
      clear HB
      have BK187 := n0_
      have BK188 := n1_
      have BK202 := n2_
      have HB := n3_
      clear n0_ n1_ n2_ n3_
      (try clear hb)
      (try clear hb2)
      (try clear hk)
      (try clear hi)
      refine hK.out _ _ ⟨(blk_cell BK187.out 0).trans rfl, (blk_cell BK187.out 1).trans rfl, (blk_cell BK187.out 2).trans rfl, (blk_cell BK187.out 3).trans rfl, (blk_cell BK188.out 0).trans rfl, (blk_cell BK188.out 1).trans rfl, (blk_cell BK188.out 2).trans rfl, (blk_cell BK188.out 3).trans rfl⟩ (fun hHeld => ?_)
      clear hK K
      refine norm_ (a' := ?_) ?_ ?_
      rotate_left
      ·show Act.put _ (some 14) _ = _
       simp only [Act.put, List.setIfInBounds_toArray, List.set_cons_zero, List.set_cons_succ, i64_w, i32_w]
       rfl
      refine pure_ (i := 5) (N := some 9) (v := ?_) (a' := ?_) #[true, true, true, true, true, true, false, false, true, false, false] rfl rfl (any_of HT_.out (by kernel_rfl)) (fun _ _ _ h => h) (Or.inl ⟨by rfl, ?_⟩) ?_ ?_
      rotate_left
      ·intro w'
       go_simp
       with_reducible rfl
      rotate_left
      ·simp only [Act.put, List.setIfInBounds_toArray, List.set_cons_zero, List.set_cons_succ, i64_w, i32_w]
       rfl
      refine pure_ (i := 6) (N := some 15) (v := ?_) (a' := ?_) #[true, true, true, true, true, true, true, false, true, false, false] rfl rfl (any_of HT_.out (by kernel_rfl)) (fun _ _ _ h => h) (Or.inl ⟨by rfl, ?_⟩) ?_ ?_
      rotate_left
      ·intro w'
       go_simp
       with_reducible rfl
      rotate_left
      ·simp only [Act.put, List.setIfInBounds_toArray, List.set_cons_zero, List.set_cons_succ, i64_w, i32_w]
       rfl
      refine pure_ (i := 7) (N := some 16) (v := ?_) (a' := ?_) #[true, true, true, true, true, true, true, true, true, false, false] rfl rfl (any_of HT_.out (by kernel_rfl)) (fun _ _ _ h => h) (Or.inl ⟨by rfl, ?_⟩) ?_ ?_
      rotate_left
      ·intro w'
       go_simp
       with_reducible rfl
      rotate_left
      ·simp only [Act.put, List.setIfInBounds_toArray, List.set_cons_zero, List.set_cons_succ, i64_w, i32_w]
       rfl
      exact norm_ (by simp only [putAll, Act.put, List.setIfInBounds_toArray, List.set_cons_zero, List.set_cons_succ]) (hCont (gb202) _ ⟨hHeld, (by (with_reducible repeat first | apply bN | apply bD | apply bA); exact BK187.out), (by (with_reducible repeat first | apply bN | apply bD | apply bA); exact BK188.out), (by (with_reducible repeat first | apply bN | apply bD | apply bA); exact BK202.out), GW202.out, GE202.out, NB187_202.out, NB202_187.out, NB188_202.out, NB202_188.out, (by repeat first | (with_reducible first | exact HB.out | apply vA | apply vN | apply vD | refine vS ?_ GE187.out | refine vS ?_ GE188.out | refine vS ?_ GE202.out) | exact HB.out)⟩)
    ·skip
     refine box_step ?hg (N := 5) ?hd (cs := #[.int .i64 0, .int .i64 0, .int .i64 0, .int .i64 0]) (t := 25) ?hr ?_; (case hd => rfl); (case hg => rfl); (case hr => first | (go_simp; done) | (go_simp; rfl))
     intro gb202 hg w15 hbox hb
     have n0_ := zb BK187 hb rfl
     have n1_ := zb BK188 hb rfl
     have n2_ := Aside0.mk (below_step (by repeat first | (with_reducible first | exact HB.out | apply vA | apply vN | apply vD | refine vS ?_ GE187.out | refine vS ?_ GE188.out) | exact HB.out) hb)
     have n3_ := Aside0.mk (hbox)
     have n4_ := Aside0.mk ((by rw [hg]; exact (below_size (by repeat first | (with_reducible first | exact HB.out | apply vA | apply vN | apply vD | refine vS ?_ GE187.out | refine vS ?_ GE188.out) | exact HB.out)) : w.heap.size ≤ gb202))
     have n5_ := Aside0.mk ((by rw [hg]; exact (below_size (by repeat first | (with_reducible first | exact HB.out | apply vA | apply vN | apply vD | refine vS ?_ GE187.out | refine vS ?_ GE188.out) | exact HB.out)) : w.heap.size ≤ gb202))
     have n6_ := zl BK187 hg rfl
     have n7_ := zg BK187 hg rfl
     have n8_ := zl BK188 hg rfl
     have n9_ := zg BK188 hg rfl
     clear BK187
     clear BK188
     clear HB
     have BK187 := n0_
     have BK188 := n1_
     have HB := n2_
     have BK202 := n3_
     have GW202 := n4_
     have GE202 := n5_
     have NB187_202 := n6_
     have NB202_187 := n7_
     have NB188_202 := n8_
     have NB202_188 := n9_
     clear n0_ n1_ n2_ n3_ n4_ n5_ n6_ n7_ n8_ n9_
     clear hb hbox hg
     refine hK.out _ _ ⟨(blk_cell BK187.out 0).trans rfl, (blk_cell BK187.out 1).trans rfl, (blk_cell BK187.out 2).trans rfl, (blk_cell BK187.out 3).trans rfl, (blk_cell BK188.out 0).trans rfl, (blk_cell BK188.out 1).trans rfl, (blk_cell BK188.out 2).trans rfl, (blk_cell BK188.out 3).trans rfl⟩ (fun hHeld => ?_)
     clear hK K
     refine norm_ (a' := ?_) ?_ ?_
     rotate_left
     ·show Act.put _ (some 5) _ = _
      simp only [Act.put, List.setIfInBounds_toArray, List.set_cons_zero, List.set_cons_succ, i64_w, i32_w]
      rfl
     refine one_ (i := 1) (N := some 11) #[true, true, true, false, false, false, false, false, true, false, false] rfl rfl (one_of HT_.out (by kernel_rfl)) (by decide) (fun K hK => ?_)
     refine goes_ Try.func16 (by kernel_rfl) rfl #[.agg #[.int .i64 a0_0, .int .i64 a0_1, .int .i64 a0_2, .int .i64 a0_3]] (by rfl) rfl rfl (by (try simp only [List.map_toArray, List.map_cons, List.map_nil]); first | done | rfl | (simp only [List.length_drop, List.length_take]; rfl)) ?_
     with_reducible refine (laws_toRange.calls a0_0 a0_1 a0_2 a0_3 t189 t190 t191 t192 _ A3.out).mono ?_
     rintro e w16 ⟨rfl, hb⟩
     refine ⟨_, rfl, ?_⟩
     have n0_ := zb BK187 hb rfl
     have n1_ := zb BK188 hb rfl
     have n2_ := zb BK202 hb rfl
     have n3_ := Aside0.mk (below_step (by repeat first | (with_reducible first | exact HB.out | apply vA | apply vN | apply vD | refine vS ?_ GE187.out | refine vS ?_ GE188.out | refine vS ?_ GE202.out) | exact HB.out) hb)
     clear BK187
     clear BK188
     clear BK202
     clear HB
     have BK187 := n0_
     have BK188 := n1_
     have BK202 := n2_
     have HB := n3_
     clear n0_ n1_ n2_ n3_
     (try clear hb)
     (try clear hb2)
     (try clear hk)
     (try clear hi)
     refine hK.out _ _ ⟨(blk_cell BK187.out 0).trans rfl, (blk_cell BK187.out 1).trans rfl, (blk_cell BK187.out 2).trans rfl, (blk_cell BK187.out 3).trans rfl, (blk_cell BK188.out 0).trans rfl, (blk_cell BK188.out 1).trans rfl, (blk_cell BK188.out 2).trans rfl, (blk_cell BK188.out 3).trans rfl⟩ (fun hHeld => ?_)
     clear hK K
     refine norm_ (a' := ?_) ?_ ?_
     rotate_left
     ·show Act.put _ (some 11) _ = _
      simp only [Act.put, List.setIfInBounds_toArray, List.set_cons_zero, List.set_cons_succ, i64_w, i32_w]
      rfl
     refine one_ (i := 3) (N := some 13) #[true, true, true, true, false, false, false, false, true, false, false] rfl rfl (one_of HT_.out (by kernel_rfl)) (by decide) (fun K hK => ?_)
     refine goes_ Try.func16 (by kernel_rfl) rfl #[.agg #[.int .i64 a1_0, .int .i64 a1_1, .int .i64 a1_2, .int .i64 a1_3]] (by rfl) rfl rfl (by (try simp only [List.map_toArray, List.map_cons, List.map_nil]); first | done | rfl | (simp only [List.length_drop, List.length_take]; rfl)) ?_
     with_reducible refine (laws_toRange.calls a1_0 a1_1 a1_2 a1_3 t193 t194 t195 t196 _ A4.out).mono ?_
     rintro e w17 ⟨rfl, hb⟩
     refine ⟨_, rfl, ?_⟩
     have n0_ := zb BK187 hb rfl
     have n1_ := zb BK188 hb rfl
     have n2_ := zb BK202 hb rfl
     have n3_ := Aside0.mk (below_step (by repeat first | (with_reducible first | exact HB.out | apply vA | apply vN | apply vD | refine vS ?_ GE187.out | refine vS ?_ GE188.out | refine vS ?_ GE202.out) | exact HB.out) hb)
     clear BK187
     clear BK188
     clear BK202
     clear HB
     have BK187 := n0_
     have BK188 := n1_
     have BK202 := n2_
     have HB := n3_
     clear n0_ n1_ n2_ n3_
     (try clear hb)
     (try clear hb2)
     (try clear hk)
     (try clear hi)
     refine hK.out _ _ ⟨(blk_cell BK187.out 0).trans rfl, (blk_cell BK187.out 1).trans rfl, (blk_cell BK187.out 2).trans rfl, (blk_cell BK187.out 3).trans rfl, (blk_cell BK188.out 0).trans rfl, (blk_cell BK188.out 1).trans rfl, (blk_cell BK188.out 2).trans rfl, (blk_cell BK188.out 3).trans rfl⟩ (fun hHeld => ?_)
     clear hK K
     refine norm_ (a' := ?_) ?_ ?_
     rotate_left
     ·show Act.put _ (some 13) _ = _
      simp only [Act.put, List.setIfInBounds_toArray, List.set_cons_zero, List.set_cons_succ, i64_w, i32_w]
      rfl
     refine one_ (i := 4) (N := some 14) #[true, true, true, true, true, false, false, false, true, false, false] rfl rfl (one_of HT_.out (by kernel_rfl)) (by decide) (fun K hK => ?_)
     refine goes_ Try.func37 (by kernel_rfl) rfl #[.agg #[.int .i64 t189, .int .i64 t190, .int .i64 t191, .int .i64 t192], .agg #[.int .i64 t193, .int .i64 t194, .int .i64 t195, .int .i64 t196]] (by rfl) rfl rfl (by (try simp only [List.map_toArray, List.map_cons, List.map_nil]); first | done | rfl | (simp only [List.length_drop, List.length_take]; rfl)) ?_
     with_reducible refine (spec_RangeMeet.calls k t189 t190 t191 t192 t193 t194 t195 t196 t197 t198 t199 t200 t201 _ A5.out).mono ?_
     rintro e w18 ⟨rfl, hb⟩
     refine ⟨_, rfl, ?_⟩
     have n0_ := zb BK187 hb rfl
     have n1_ := zb BK188 hb rfl
     have n2_ := zb BK202 hb rfl
     have n3_ := Aside0.mk (below_step (by repeat first | (with_reducible first | exact HB.out | apply vA | apply vN | apply vD | refine vS ?_ GE187.out | refine vS ?_ GE188.out | refine vS ?_ GE202.out) | exact HB.out) hb)
     clear BK187
     clear BK188
     clear BK202
     clear HB
     have BK187 := n0_
     have BK188 := n1_
     have BK202 := n2_
     have HB := n3_
     clear n0_ n1_ n2_ n3_
     (try clear hb)
     (try clear hb2)
     (try clear hk)
     (try clear hi)
     refine hK.out _ _ ⟨(blk_cell BK187.out 0).trans rfl, (blk_cell BK187.out 1).trans rfl, (blk_cell BK187.out 2).trans rfl, (blk_cell BK187.out 3).trans rfl, (blk_cell BK188.out 0).trans rfl, (blk_cell BK188.out 1).trans rfl, (blk_cell BK188.out 2).trans rfl, (blk_cell BK188.out 3).trans rfl⟩ (fun hHeld => ?_)
     clear hK K
     refine norm_ (a' := ?_) ?_ ?_
     rotate_left
     ·show Act.put _ (some 14) _ = _
      simp only [Act.put, List.setIfInBounds_toArray, List.set_cons_zero, List.set_cons_succ, i64_w, i32_w]
      rfl
     refine pure_ (i := 5) (N := some 9) (v := ?_) (a' := ?_) #[true, true, true, true, true, true, false, false, true, false, false] rfl rfl (any_of HT_.out (by kernel_rfl)) (fun _ _ _ h => h) (Or.inl ⟨by rfl, ?_⟩) ?_ ?_
     rotate_left
     ·intro w'
      go_simp
      with_reducible rfl
     rotate_left
     ·simp only [Act.put, List.setIfInBounds_toArray, List.set_cons_zero, List.set_cons_succ, i64_w, i32_w]
      rfl
     refine pure_ (i := 6) (N := some 15) (v := ?_) (a' := ?_) #[true, true, true, true, true, true, true, false, true, false, false] rfl rfl (any_of HT_.out (by kernel_rfl)) (fun _ _ _ h => h) (Or.inl ⟨by rfl, ?_⟩) ?_ ?_
     rotate_left
     ·intro w'
      go_simp
      with_reducible rfl
     rotate_left
     ·simp only [Act.put, List.setIfInBounds_toArray, List.set_cons_zero, List.set_cons_succ, i64_w, i32_w]
      rfl
     refine pure_ (i := 7) (N := some 16) (v := ?_) (a' := ?_) #[true, true, true, true, true, true, true, true, true, false, false] rfl rfl (any_of HT_.out (by kernel_rfl)) (fun _ _ _ h => h) (Or.inl ⟨by rfl, ?_⟩) ?_ ?_
     rotate_left
     ·intro w'
      go_simp
      with_reducible rfl
     rotate_left
     ·simp only [Act.put, List.setIfInBounds_toArray, List.set_cons_zero, List.set_cons_succ, i64_w, i32_w]
      rfl
     exact norm_ (by simp only [putAll, Act.put, List.setIfInBounds_toArray, List.set_cons_zero, List.set_cons_succ]) (hCont (gb202) _ ⟨hHeld, (by (with_reducible repeat first | apply bN | apply bD | apply bA); exact BK187.out), (by (with_reducible repeat first | apply bN | apply bD | apply bA); exact BK188.out), (by (with_reducible repeat first | apply bN | apply bD | apply bA); exact BK202.out), GW202.out, GE202.out, NB187_202.out, NB202_187.out, NB188_202.out, NB202_188.out, (by repeat first | (with_reducible first | exact HB.out | apply vA | apply vN | apply vD | refine vS ?_ GE187.out | refine vS ?_ GE188.out | refine vS ?_ GE202.out) | exact HB.out)⟩)
   rintro gb202 w19 ⟨hS_, h0_, h1_, h2_, h3_, h4_, h5_, h6_, h7_, h8_, h9_⟩
   have n0_ : Aside0 (w19.heap[gb187]? = some (.cells #[.int .i64 a0_0, .int .i64 a0_1, .int .i64 a0_2, .int .i64 a0_3] 23 (0, 0))) := ⟨h0_⟩
   have n1_ : Aside0 (w19.heap[gb188]? = some (.cells #[.int .i64 a1_0, .int .i64 a1_1, .int .i64 a1_2, .int .i64 a1_3] 23 (0, 0))) := ⟨h1_⟩
   have n2_ : Aside0 (w19.heap[gb202]? = some (.cells #[.int .i64 0, .int .i64 0, .int .i64 0, .int .i64 0] 25 (0, 0))) := ⟨h2_⟩
   have n3_ : Aside0 (w.heap.size ≤ gb202) := ⟨h3_⟩
   have n4_ : Aside0 (w.heap.size ≤ gb202) := ⟨h4_⟩
   have n5_ : Aside0 (gb187 ≠ gb202) := ⟨h5_⟩
   have n6_ : Aside0 (gb202 ≠ gb187) := ⟨h6_⟩
   have n7_ : Aside0 (gb188 ≠ gb202) := ⟨h7_⟩
   have n8_ : Aside0 (gb202 ≠ gb188) := ⟨h8_⟩
   have n9_ : Aside0 (Below w.heap.size w w19) := ⟨h9_⟩
   clear BK187
   clear BK188
   clear HB
   clear h0_ h1_ h2_ h3_ h4_ h5_ h6_ h7_ h8_ h9_
   have BK187 := n0_
   have BK188 := n1_
   have BK202 := n2_
   have GW202 := n3_
   have GE202 := n4_
   have NB187_202 := n5_
   have NB202_187 := n6_
   have NB188_202 := n7_
   have NB202_188 := n8_
   have HB := n9_
   clear n0_ n1_ n2_ n3_ n4_ n5_ n6_ n7_ n8_ n9_
   have hHeld : w19.cell? ⟨gb187, 0, none⟩ = some (.int .i64 a0_0) ∧ w19.cell? ⟨gb187, 1, none⟩ = some (.int .i64 a0_1) ∧ w19.cell? ⟨gb187, 2, none⟩ = some (.int .i64 a0_2) ∧ w19.cell? ⟨gb187, 3, none⟩ = some (.int .i64 a0_3) ∧ w19.cell? ⟨gb188, 0, none⟩ = some (.int .i64 a1_0) ∧ w19.cell? ⟨gb188, 1, none⟩ = some (.int .i64 a1_1) ∧ w19.cell? ⟨gb188, 2, none⟩ = some (.int .i64 a1_2) ∧ w19.cell? ⟨gb188, 3, none⟩ = some (.int .i64 a1_3) := hS_
   refine norm_ (a' := ?_) ?_ ?_
   rotate_left
   ·simp only [putAll, Act.put, List.setIfInBounds_toArray, List.set_cons_zero, List.set_cons_succ]
    rfl
   refine one_ (i := 9) (N := none) #[true, true, true, true, true, true, true, true, true, true, false] rfl rfl (one_of HT_.out (by kernel_rfl)) (by decide) (fun K hK => ?_)
   have hs20 : w19.cell? ⟨gb202, 0, none⟩ = some (.int .i64 0) := (blk_cell BK202.out 0).trans rfl
   have hfs20 := blk_frozen BK202.out 0
   have hns20_0 := NB187_202.out
   have hns20_1 := NB188_202.out
   have hms20_0 := NB202_187.out
   have hms20_1 := NB202_188.out
   have hs21 : w19.cell? ⟨gb202, 1, none⟩ = some (.int .i64 0) := (blk_cell BK202.out 1).trans rfl
   have hfs21 := blk_frozen BK202.out 1
   have hns21_0 := NB187_202.out
   have hns21_1 := NB188_202.out
   have hms21_0 := NB202_187.out
   have hms21_1 := NB202_188.out
   have hs22 : w19.cell? ⟨gb202, 2, none⟩ = some (.int .i64 0) := (blk_cell BK202.out 2).trans rfl
   have hfs22 := blk_frozen BK202.out 2
   have hns22_0 := NB187_202.out
   have hns22_1 := NB188_202.out
   have hms22_0 := NB202_187.out
   have hms22_1 := NB202_188.out
   have hs23 : w19.cell? ⟨gb202, 3, none⟩ = some (.int .i64 0) := (blk_cell BK202.out 3).trans rfl
   have hfs23 := blk_frozen BK202.out 3
   have hns23_0 := NB187_202.out
   have hns23_1 := NB188_202.out
   have hms23_0 := NB202_187.out
   have hms23_1 := NB202_188.out
   refine skip_ (w1 := ?_) (by rfl) rfl ?_ ?_
   rotate_left
   ·go_simp
    rfl
   refine hK.out _ _ ⟨((cell_far (p := ⟨gb202, _, none⟩) NB187_202.out _).trans (((cell_far (p := ⟨gb202, _, none⟩) NB187_202.out _).trans (((cell_far (p := ⟨gb202, _, none⟩) NB187_202.out _).trans (((cell_far (p := ⟨gb202, _, none⟩) NB187_202.out _).trans (hHeld.1)))))))), ((cell_far (p := ⟨gb202, _, none⟩) NB187_202.out _).trans (((cell_far (p := ⟨gb202, _, none⟩) NB187_202.out _).trans (((cell_far (p := ⟨gb202, _, none⟩) NB187_202.out _).trans (((cell_far (p := ⟨gb202, _, none⟩) NB187_202.out _).trans (hHeld.2.1)))))))), ((cell_far (p := ⟨gb202, _, none⟩) NB187_202.out _).trans (((cell_far (p := ⟨gb202, _, none⟩) NB187_202.out _).trans (((cell_far (p := ⟨gb202, _, none⟩) NB187_202.out _).trans (((cell_far (p := ⟨gb202, _, none⟩) NB187_202.out _).trans (hHeld.2.2.1)))))))), ((cell_far (p := ⟨gb202, _, none⟩) NB187_202.out _).trans (((cell_far (p := ⟨gb202, _, none⟩) NB187_202.out _).trans (((cell_far (p := ⟨gb202, _, none⟩) NB187_202.out _).trans (((cell_far (p := ⟨gb202, _, none⟩) NB187_202.out _).trans (hHeld.2.2.2.1)))))))), ((cell_far (p := ⟨gb202, _, none⟩) NB188_202.out _).trans (((cell_far (p := ⟨gb202, _, none⟩) NB188_202.out _).trans (((cell_far (p := ⟨gb202, _, none⟩) NB188_202.out _).trans (((cell_far (p := ⟨gb202, _, none⟩) NB188_202.out _).trans (hHeld.2.2.2.2.1)))))))), ((cell_far (p := ⟨gb202, _, none⟩) NB188_202.out _).trans (((cell_far (p := ⟨gb202, _, none⟩) NB188_202.out _).trans (((cell_far (p := ⟨gb202, _, none⟩) NB188_202.out _).trans (((cell_far (p := ⟨gb202, _, none⟩) NB188_202.out _).trans (hHeld.2.2.2.2.2.1)))))))), ((cell_far (p := ⟨gb202, _, none⟩) NB188_202.out _).trans (((cell_far (p := ⟨gb202, _, none⟩) NB188_202.out _).trans (((cell_far (p := ⟨gb202, _, none⟩) NB188_202.out _).trans (((cell_far (p := ⟨gb202, _, none⟩) NB188_202.out _).trans (hHeld.2.2.2.2.2.2.1)))))))), ((cell_far (p := ⟨gb202, _, none⟩) NB188_202.out _).trans (((cell_far (p := ⟨gb202, _, none⟩) NB188_202.out _).trans (((cell_far (p := ⟨gb202, _, none⟩) NB188_202.out _).trans (((cell_far (p := ⟨gb202, _, none⟩) NB188_202.out _).trans (hHeld.2.2.2.2.2.2.2))))))))⟩ (fun hHeld => ?_)
   clear hK K
   refine pure_ (i := 10) (N := some 6) (v := ?_) (a' := ?_) #[true, true, true, true, true, true, true, true, true, true, true] rfl rfl (any_of HT_.out (by kernel_rfl)) (fun _ _ _ h => h) (Or.inl ⟨by rfl, ?_⟩) ?_ ?_
   rotate_left
   ·intro w'
    go_simp
    with_reducible rfl
   rotate_left
   ·simp only [Act.put, List.setIfInBounds_toArray, List.set_cons_zero, List.set_cons_succ, i64_w, i32_w]
    rfl
   refine done_ (done_of HT_.out (by kernel_rfl)) ?_
   try go_wp2
   have n0_ : Aside0 (((((w19.setCell ⟨gb202, 0, none⟩ (.int .i64 t197)).setCell ⟨gb202, 1, none⟩ (.int .i64 t198)).setCell ⟨gb202, 2, none⟩ (.int .i64 t199)).setCell ⟨gb202, 3, none⟩ (.int .i64 t200)).heap[gb187]? = some (.cells #[.int .i64 a0_0, .int .i64 a0_1, .int .i64 a0_2, .int .i64 a0_3] 23 (0, 0))) := ⟨by (with_reducible repeat first | apply bN | apply bD | apply bA); refine blk_far ?_ NB187_202.out _; (with_reducible repeat first | apply bN | apply bD | apply bA); refine blk_far ?_ NB187_202.out _; (with_reducible repeat first | apply bN | apply bD | apply bA); refine blk_far ?_ NB187_202.out _; (with_reducible repeat first | apply bN | apply bD | apply bA); refine blk_far ?_ NB187_202.out _; (with_reducible repeat first | apply bN | apply bD | apply bA); exact BK187.out⟩
   have n1_ : Aside0 (((((w19.setCell ⟨gb202, 0, none⟩ (.int .i64 t197)).setCell ⟨gb202, 1, none⟩ (.int .i64 t198)).setCell ⟨gb202, 2, none⟩ (.int .i64 t199)).setCell ⟨gb202, 3, none⟩ (.int .i64 t200)).heap[gb188]? = some (.cells #[.int .i64 a1_0, .int .i64 a1_1, .int .i64 a1_2, .int .i64 a1_3] 23 (0, 0))) := ⟨by (with_reducible repeat first | apply bN | apply bD | apply bA); refine blk_far ?_ NB188_202.out _; (with_reducible repeat first | apply bN | apply bD | apply bA); refine blk_far ?_ NB188_202.out _; (with_reducible repeat first | apply bN | apply bD | apply bA); refine blk_far ?_ NB188_202.out _; (with_reducible repeat first | apply bN | apply bD | apply bA); refine blk_far ?_ NB188_202.out _; (with_reducible repeat first | apply bN | apply bD | apply bA); exact BK188.out⟩
   have n2_ : Aside0 (((((w19.setCell ⟨gb202, 0, none⟩ (.int .i64 t197)).setCell ⟨gb202, 1, none⟩ (.int .i64 t198)).setCell ⟨gb202, 2, none⟩ (.int .i64 t199)).setCell ⟨gb202, 3, none⟩ (.int .i64 t200)).heap[gb202]? = some (.cells #[.int .i64 t197, .int .i64 t198, .int .i64 t199, .int .i64 t200] 25 (0, 0))) := ⟨by (with_reducible repeat first | apply bN | apply bD | apply bA); refine blk_put (cs := #[.int .i64 t197, .int .i64 t198, .int .i64 t199, .int .i64 0]) ?_ 3 _ rfl; (with_reducible repeat first | apply bN | apply bD | apply bA); refine blk_put (cs := #[.int .i64 t197, .int .i64 t198, .int .i64 0, .int .i64 0]) ?_ 2 _ rfl; (with_reducible repeat first | apply bN | apply bD | apply bA); refine blk_put (cs := #[.int .i64 t197, .int .i64 0, .int .i64 0, .int .i64 0]) ?_ 1 _ rfl; (with_reducible repeat first | apply bN | apply bD | apply bA); refine blk_put (cs := #[.int .i64 0, .int .i64 0, .int .i64 0, .int .i64 0]) ?_ 0 _ rfl; (with_reducible repeat first | apply bN | apply bD | apply bA); exact BK202.out⟩
   have n3_ : Aside0 (Below w.heap.size w ((((w19.setCell ⟨gb202, 0, none⟩ (.int .i64 t197)).setCell ⟨gb202, 1, none⟩ (.int .i64 t198)).setCell ⟨gb202, 2, none⟩ (.int .i64 t199)).setCell ⟨gb202, 3, none⟩ (.int .i64 t200))) := ⟨by repeat first | (with_reducible first | exact HB.out | apply vA | apply vN | apply vD | refine vS ?_ GE187.out | refine vS ?_ GE188.out | refine vS ?_ GE202.out) | exact HB.out⟩
   (try clear BK187)
   (try clear BK188)
   (try clear BK202)
   (try clear HB)
   generalize ((((w19.setCell ⟨gb202, 0, none⟩ (.int .i64 t197)).setCell ⟨gb202, 1, none⟩ (.int .i64 t198)).setCell ⟨gb202, 2, none⟩ (.int .i64 t199)).setCell ⟨gb202, 3, none⟩ (.int .i64 t200)) = w24 at n0_ n1_ n2_ n3_ ⊢
   have BK187 := n0_
   have BK188 := n1_
   have BK202 := n2_
   have HB := n3_
   clear n0_ n1_ n2_ n3_
   have n0_ := Aside0.mk (blk_drew BK187.out)
   have n1_ := Aside0.mk (blk_drew BK188.out)
   have n2_ := Aside0.mk (blk_drew BK202.out)
   have n3_ := Aside0.mk (below_drew1 HB.out)
   clear BK187
   clear BK188
   clear BK202
   clear HB
   have BK187 := n0_
   have BK188 := n1_
   have BK202 := n2_
   have HB := n3_
   clear n0_ n1_ n2_ n3_
   refine start_ (n := 11) (S := fun w' => w'.cell? ⟨gb187, 0, none⟩ = some (.int .i64 a0_0) ∧ w'.cell? ⟨gb187, 1, none⟩ = some (.int .i64 a0_1) ∧ w'.cell? ⟨gb187, 2, none⟩ = some (.int .i64 a0_2) ∧ w'.cell? ⟨gb187, 3, none⟩ = some (.int .i64 a0_3) ∧ w'.cell? ⟨gb188, 0, none⟩ = some (.int .i64 a1_0) ∧ w'.cell? ⟨gb188, 1, none⟩ = some (.int .i64 a1_1) ∧ w'.cell? ⟨gb188, 2, none⟩ = some (.int .i64 a1_2) ∧ w'.cell? ⟨gb188, 3, none⟩ = some (.int .i64 a1_3)) (ds := []) #[false, false, false, false, false, false, false, false, false, false, false] (by kernel_rfl) rfl rfl ⟨(blk_cell BK187.out 0).trans rfl, (blk_cell BK187.out 1).trans rfl, (blk_cell BK187.out 2).trans rfl, (blk_cell BK187.out 3).trans rfl, (blk_cell BK188.out 0).trans rfl, (blk_cell BK188.out 1).trans rfl, (blk_cell BK188.out 2).trans rfl, (blk_cell BK188.out 3).trans rfl⟩ (fun hHeld => ?_); refine with_tabW laws_FnExactRangeMeet.tab2 laws_FnExactRangeMeet.bits2 (fun HT_ HW_ => ?_)
   generalize w24.drew = w25 at BK187 BK188 BK202 HB hHeld ⊢
   refine take_ (i := 0) (N := some 18) (v := ?_) (a' := ?_) #[true, false, false, false, false, false, false, false, false, false, false] rfl rfl (take_ofW HT_.out HW_.out (by kernel_rfl)) (fun _ _ _ h => h) (Or.inl ⟨by rfl, ?_⟩) hHeld ?_ ?_
   rotate_left
   ·rintro w' ⟨s0, s1, s2, s3, s4, s5, s6, s7⟩
    go_simp
    with_reducible rfl
   rotate_left
   ·simp only [Act.put, List.setIfInBounds_toArray, List.set_cons_zero, List.set_cons_succ, i64_w, i32_w]
    rfl
   refine take_ (i := 2) (N := some 20) (v := ?_) (a' := ?_) #[true, false, true, false, false, false, false, false, false, false, false] rfl rfl (take_ofW HT_.out HW_.out (by kernel_rfl)) (fun _ _ _ h => h) (Or.inl ⟨by rfl, ?_⟩) hHeld ?_ ?_
   rotate_left
   ·rintro w' ⟨s0, s1, s2, s3, s4, s5, s6, s7⟩
    go_simp
    with_reducible rfl
   rotate_left
   ·simp only [Act.put, List.setIfInBounds_toArray, List.set_cons_zero, List.set_cons_succ, i64_w, i32_w]
    rfl
   refine join_ (σ := Nat) 2 #[true, true, true, true, true, true, true, true, true, false, false] (fun s_ => [(19, .agg #[.int .i64 t203, .int .i64 t204, .int .i64 t205, .int .i64 t206]), (21, .agg #[.int .i64 t207, .int .i64 t208, .int .i64 t209, .int .i64 t210]), (22, .tuple #[.agg #[.int .i64 t211, .int .i64 t212, .int .i64 t213, .int .i64 t214], .bool t215]), (7, .pointer (some ⟨s_, 0, none⟩)), (17, .tuple #[.agg #[.int .i64 t211, .int .i64 t212, .int .i64 t213, .int .i64 t214], .bool t215]), (23, .agg #[.int .i64 t211, .int .i64 t212, .int .i64 t213, .int .i64 t214]), (24, .bool t215)]) (fun s_ w' => (w'.cell? ⟨gb187, 0, none⟩ = some (.int .i64 a0_0) ∧ w'.cell? ⟨gb187, 1, none⟩ = some (.int .i64 a0_1) ∧ w'.cell? ⟨gb187, 2, none⟩ = some (.int .i64 a0_2) ∧ w'.cell? ⟨gb187, 3, none⟩ = some (.int .i64 a0_3) ∧ w'.cell? ⟨gb188, 0, none⟩ = some (.int .i64 a1_0) ∧ w'.cell? ⟨gb188, 1, none⟩ = some (.int .i64 a1_1) ∧ w'.cell? ⟨gb188, 2, none⟩ = some (.int .i64 a1_2) ∧ w'.cell? ⟨gb188, 3, none⟩ = some (.int .i64 a1_3)) ∧ (w'.heap[gb187]? = some (.cells #[.int .i64 a0_0, .int .i64 a0_1, .int .i64 a0_2, .int .i64 a0_3] 23 (0, 0))) ∧ (w'.heap[gb188]? = some (.cells #[.int .i64 a1_0, .int .i64 a1_1, .int .i64 a1_2, .int .i64 a1_3] 23 (0, 0))) ∧ (w'.heap[gb202]? = some (.cells #[.int .i64 t197, .int .i64 t198, .int .i64 t199, .int .i64 t200] 25 (0, 0))) ∧ (w'.heap[s_]? = some (.cells #[.int .i64 0, .int .i64 0, .int .i64 0, .int .i64 0] 25 (0, 0))) ∧ (w.heap.size ≤ s_) ∧ (w.heap.size ≤ s_) ∧ (gb187 ≠ s_) ∧ (s_ ≠ gb187) ∧ (gb188 ≠ s_) ∧ (s_ ≠ gb188) ∧ (gb202 ≠ s_) ∧ (s_ ≠ gb202) ∧ (Below w.heap.size w w')) ?_ ?_
   rotate_left
   ·intro hCont
    refine two_ (i := 1) (j := 8) (Ni := some 19) (Nj := some 7) #[true, true, true, false, false, false, false, false, false, false, false] #[true, false, true, false, false, false, false, false, true, false, false] rfl rfl rfl rfl (two_of HT_.out (by kernel_rfl)) (by decide) (by decide) (fun K hK => ?_) (fun K hK => ?_)
    ·skip
     refine goes_ Try.func16 (by kernel_rfl) rfl #[.agg #[.int .i64 a0_0, .int .i64 a0_1, .int .i64 a0_2, .int .i64 a0_3]] (by rfl) rfl rfl (by (try simp only [List.map_toArray, List.map_cons, List.map_nil]); first | done | rfl | (simp only [List.length_drop, List.length_take]; rfl)) ?_
     with_reducible refine (laws_toRange.calls a0_0 a0_1 a0_2 a0_3 t203 t204 t205 t206 _ A6.out).mono ?_
     rintro e w26 ⟨rfl, hb⟩
     refine ⟨_, rfl, ?_⟩
     have n0_ := zb BK187 hb rfl
     have n1_ := zb BK188 hb rfl
     have n2_ := zb BK202 hb rfl
     have n3_ := Aside0.mk (below_step (by repeat first | (with_reducible first | exact HB.out | apply vA | apply vN | apply vD | refine vS ?_ GE187.out | refine vS ?_ GE188.out | refine vS ?_ GE202.out) | exact HB.out) hb)
     clear BK187
     clear BK188
     clear BK202
     clear HB
     have BK187 := n0_
     have BK188 := n1_
     have BK202 := n2_
     have HB := n3_
     clear n0_ n1_ n2_ n3_
     (try clear hb)
     (try clear hb2)
     (try clear hk)
     (try clear hi)
     refine hK.out _ _ ⟨(blk_cell BK187.out 0).trans rfl, (blk_cell BK187.out 1).trans rfl, (blk_cell BK187.out 2).trans rfl, (blk_cell BK187.out 3).trans rfl, (blk_cell BK188.out 0).trans rfl, (blk_cell BK188.out 1).trans rfl, (blk_cell BK188.out 2).trans rfl, (blk_cell BK188.out 3).trans rfl⟩ (fun hHeld => ?_)
     clear hK K
     refine norm_ (a' := ?_) ?_ ?_
     rotate_left
     ·show Act.put _ (some 19) _ = _
      simp only [Act.put, List.setIfInBounds_toArray, List.set_cons_zero, List.set_cons_succ, i64_w, i32_w]
      rfl
     refine two_ (i := 3) (j := 8) (Ni := some 21) (Nj := some 7) #[true, true, true, true, false, false, false, false, false, false, false] #[true, true, true, false, false, false, false, false, true, false, false] rfl rfl rfl rfl (two_of HT_.out (by kernel_rfl)) (by decide) (by decide) (fun K hK => ?_) (fun K hK => ?_)
     ·skip
      refine goes_ Try.func16 (by kernel_rfl) rfl #[.agg #[.int .i64 a1_0, .int .i64 a1_1, .int .i64 a1_2, .int .i64 a1_3]] (by rfl) rfl rfl (by (try simp only [List.map_toArray, List.map_cons, List.map_nil]); first | done | rfl | (simp only [List.length_drop, List.length_take]; rfl)) ?_
      with_reducible refine (laws_toRange.calls a1_0 a1_1 a1_2 a1_3 t207 t208 t209 t210 _ A7.out).mono ?_
      rintro e w27 ⟨rfl, hb⟩
      refine ⟨_, rfl, ?_⟩
      have n0_ := zb BK187 hb rfl
      have n1_ := zb BK188 hb rfl
      have n2_ := zb BK202 hb rfl
      have n3_ := Aside0.mk (below_step (by repeat first | (with_reducible first | exact HB.out | apply vA | apply vN | apply vD | refine vS ?_ GE187.out | refine vS ?_ GE188.out | refine vS ?_ GE202.out) | exact HB.out) hb)
      clear BK187
      clear BK188
      clear BK202
      clear HB
      have BK187 := n0_
      have BK188 := n1_
      have BK202 := n2_
      have HB := n3_
      clear n0_ n1_ n2_ n3_
      (try clear hb)
      (try clear hb2)
      (try clear hk)
      (try clear hi)
      refine hK.out _ _ ⟨(blk_cell BK187.out 0).trans rfl, (blk_cell BK187.out 1).trans rfl, (blk_cell BK187.out 2).trans rfl, (blk_cell BK187.out 3).trans rfl, (blk_cell BK188.out 0).trans rfl, (blk_cell BK188.out 1).trans rfl, (blk_cell BK188.out 2).trans rfl, (blk_cell BK188.out 3).trans rfl⟩ (fun hHeld => ?_)
      clear hK K
      refine norm_ (a' := ?_) ?_ ?_
      rotate_left
      ·show Act.put _ (some 21) _ = _
       simp only [Act.put, List.setIfInBounds_toArray, List.set_cons_zero, List.set_cons_succ, i64_w, i32_w]
       rfl
      refine two_ (i := 4) (j := 8) (Ni := some 22) (Nj := some 7) #[true, true, true, true, true, false, false, false, false, false, false] #[true, true, true, true, false, false, false, false, true, false, false] rfl rfl rfl rfl (two_of HT_.out (by kernel_rfl)) (by decide) (by decide) (fun K hK => ?_) (fun K hK => ?_)
      ·skip
       refine goes_ Try.func38 (by kernel_rfl) rfl #[.agg #[.int .i64 t203, .int .i64 t204, .int .i64 t205, .int .i64 t206], .agg #[.int .i64 t207, .int .i64 t208, .int .i64 t209, .int .i64 t210]] (by rfl) rfl rfl (by (try simp only [List.map_toArray, List.map_cons, List.map_nil]); first | done | rfl | (simp only [List.length_drop, List.length_take]; rfl)) ?_
       with_reducible refine (impl_RangeMeet.calls k t203 t204 t205 t206 t207 t208 t209 t210 t211 t212 t213 t214 t215 _ A8.out).mono ?_
       rintro e w28 ⟨rfl, hb⟩
       refine ⟨_, rfl, ?_⟩
       have n0_ := zb BK187 hb rfl
       have n1_ := zb BK188 hb rfl
       have n2_ := zb BK202 hb rfl
       have n3_ := Aside0.mk (below_step (by repeat first | (with_reducible first | exact HB.out | apply vA | apply vN | apply vD | refine vS ?_ GE187.out | refine vS ?_ GE188.out | refine vS ?_ GE202.out) | exact HB.out) hb)
       clear BK187
       clear BK188
       clear BK202
       clear HB
       have BK187 := n0_
       have BK188 := n1_
       have BK202 := n2_
       have HB := n3_
       clear n0_ n1_ n2_ n3_
       (try clear hb)
       (try clear hb2)
       (try clear hk)
       (try clear hi)
       refine hK.out _ _ ⟨(blk_cell BK187.out 0).trans rfl, (blk_cell BK187.out 1).trans rfl, (blk_cell BK187.out 2).trans rfl, (blk_cell BK187.out 3).trans rfl, (blk_cell BK188.out 0).trans rfl, (blk_cell BK188.out 1).trans rfl, (blk_cell BK188.out 2).trans rfl, (blk_cell BK188.out 3).trans rfl⟩ (fun hHeld => ?_)
       clear hK K
       refine norm_ (a' := ?_) ?_ ?_
       rotate_left
       ·show Act.put _ (some 22) _ = _
        simp only [Act.put, List.setIfInBounds_toArray, List.set_cons_zero, List.set_cons_succ, i64_w, i32_w]
        rfl
       refine pure_ (i := 5) (N := some 17) (v := ?_) (a' := ?_) #[true, true, true, true, true, true, false, false, false, false, false] rfl rfl (any_of HT_.out (by kernel_rfl)) (fun _ _ _ h => h) (Or.inl ⟨by rfl, ?_⟩) ?_ ?_
       rotate_left
       ·intro w'
        go_simp
        with_reducible rfl
       rotate_left
       ·simp only [Act.put, List.setIfInBounds_toArray, List.set_cons_zero, List.set_cons_succ, i64_w, i32_w]
        rfl
       refine pure_ (i := 6) (N := some 23) (v := ?_) (a' := ?_) #[true, true, true, true, true, true, true, false, false, false, false] rfl rfl (any_of HT_.out (by kernel_rfl)) (fun _ _ _ h => h) (Or.inl ⟨by rfl, ?_⟩) ?_ ?_
       rotate_left
       ·intro w'
        go_simp
        with_reducible rfl
       rotate_left
       ·simp only [Act.put, List.setIfInBounds_toArray, List.set_cons_zero, List.set_cons_succ, i64_w, i32_w]
        rfl
       refine pure_ (i := 7) (N := some 24) (v := ?_) (a' := ?_) #[true, true, true, true, true, true, true, true, false, false, false] rfl rfl (any_of HT_.out (by kernel_rfl)) (fun _ _ _ h => h) (Or.inl ⟨by rfl, ?_⟩) ?_ ?_
       rotate_left
       ·intro w'
        go_simp
        with_reducible rfl
       rotate_left
       ·simp only [Act.put, List.setIfInBounds_toArray, List.set_cons_zero, List.set_cons_succ, i64_w, i32_w]
        rfl
       refine one_ (i := 8) (N := some 7) #[true, true, true, true, true, true, true, true, true, false, false] rfl rfl (one_of HT_.out (by kernel_rfl)) (by decide) (fun K hK => ?_)
       refine box_step ?hg (N := 7) ?hd (cs := #[.int .i64 0, .int .i64 0, .int .i64 0, .int .i64 0]) (t := 25) ?hr ?_; (case hd => rfl); (case hg => rfl); (case hr => first | (go_simp; done) | (go_simp; rfl))
       intro gb216 hg w29 hbox hb
       have n0_ := zb BK187 hb rfl
       have n1_ := zb BK188 hb rfl
       have n2_ := zb BK202 hb rfl
       have n3_ := Aside0.mk (below_step (by repeat first | (with_reducible first | exact HB.out | apply vA | apply vN | apply vD | refine vS ?_ GE187.out | refine vS ?_ GE188.out | refine vS ?_ GE202.out) | exact HB.out) hb)
       have n4_ := Aside0.mk (hbox)
       have n5_ := Aside0.mk ((by rw [hg]; exact (below_size (by repeat first | (with_reducible first | exact HB.out | apply vA | apply vN | apply vD | refine vS ?_ GE187.out | refine vS ?_ GE188.out | refine vS ?_ GE202.out) | exact HB.out)) : w.heap.size ≤ gb216))
       have n6_ := Aside0.mk ((by rw [hg]; exact (below_size (by repeat first | (with_reducible first | exact HB.out | apply vA | apply vN | apply vD | refine vS ?_ GE187.out | refine vS ?_ GE188.out | refine vS ?_ GE202.out) | exact HB.out)) : w.heap.size ≤ gb216))
       have n7_ := zl BK187 hg rfl
       have n8_ := zg BK187 hg rfl
       have n9_ := zl BK188 hg rfl
       have n10_ := zg BK188 hg rfl
       have n11_ := zl BK202 hg rfl
       have n12_ := zg BK202 hg rfl
       clear BK187
       clear BK188
       clear BK202
       clear HB
       have BK187 := n0_
       have BK188 := n1_
       have BK202 := n2_
       have HB := n3_
       have BK216 := n4_
       have GW216 := n5_
       have GE216 := n6_
       have NB187_216 := n7_
       have NB216_187 := n8_
       have NB188_216 := n9_
       have NB216_188 := n10_
       have NB202_216 := n11_
       have NB216_202 := n12_
       clear n0_ n1_ n2_ n3_ n4_ n5_ n6_ n7_ n8_ n9_ n10_ n11_ n12_
       clear hb hbox hg
       refine hK.out _ _ ⟨(blk_cell BK187.out 0).trans rfl, (blk_cell BK187.out 1).trans rfl, (blk_cell BK187.out 2).trans rfl, (blk_cell BK187.out 3).trans rfl, (blk_cell BK188.out 0).trans rfl, (blk_cell BK188.out 1).trans rfl, (blk_cell BK188.out 2).trans rfl, (blk_cell BK188.out 3).trans rfl⟩ (fun hHeld => ?_)
       clear hK K
       refine norm_ (a' := ?_) ?_ ?_
       rotate_left
       ·show Act.put _ (some 7) _ = _
        simp only [Act.put, List.setIfInBounds_toArray, List.set_cons_zero, List.set_cons_succ, i64_w, i32_w]
        rfl
       exact norm_ (by simp only [putAll, Act.put, List.setIfInBounds_toArray, List.set_cons_zero, List.set_cons_succ]) (hCont (gb216) _ ⟨hHeld, (by (with_reducible repeat first | apply bN | apply bD | apply bA); exact BK187.out), (by (with_reducible repeat first | apply bN | apply bD | apply bA); exact BK188.out), (by (with_reducible repeat first | apply bN | apply bD | apply bA); exact BK202.out), (by (with_reducible repeat first | apply bN | apply bD | apply bA); exact BK216.out), GW216.out, GE216.out, NB187_216.out, NB216_187.out, NB188_216.out, NB216_188.out, NB202_216.out, NB216_202.out, (by repeat first | (with_reducible first | exact HB.out | apply vA | apply vN | apply vD | refine vS ?_ GE187.out | refine vS ?_ GE188.out | refine vS ?_ GE202.out | refine vS ?_ GE216.out) | exact HB.out)⟩)
      ·skip
       refine box_step ?hg (N := 7) ?hd (cs := #[.int .i64 0, .int .i64 0, .int .i64 0, .int .i64 0]) (t := 25) ?hr ?_; (case hd => rfl); (case hg => rfl); (case hr => first | (go_simp; done) | (go_simp; rfl))
       intro gb216 hg w28 hbox hb
       have n0_ := zb BK187 hb rfl
       have n1_ := zb BK188 hb rfl
       have n2_ := zb BK202 hb rfl
       have n3_ := Aside0.mk (below_step (by repeat first | (with_reducible first | exact HB.out | apply vA | apply vN | apply vD | refine vS ?_ GE187.out | refine vS ?_ GE188.out | refine vS ?_ GE202.out) | exact HB.out) hb)
       have n4_ := Aside0.mk (hbox)
       have n5_ := Aside0.mk ((by rw [hg]; exact (below_size (by repeat first | (with_reducible first | exact HB.out | apply vA | apply vN | apply vD | refine vS ?_ GE187.out | refine vS ?_ GE188.out | refine vS ?_ GE202.out) | exact HB.out)) : w.heap.size ≤ gb216))
       have n6_ := Aside0.mk ((by rw [hg]; exact (below_size (by repeat first | (with_reducible first | exact HB.out | apply vA | apply vN | apply vD | refine vS ?_ GE187.out | refine vS ?_ GE188.out | refine vS ?_ GE202.out) | exact HB.out)) : w.heap.size ≤ gb216))
       have n7_ := zl BK187 hg rfl
       have n8_ := zg BK187 hg rfl
       have n9_ := zl BK188 hg rfl
       have n10_ := zg BK188 hg rfl
       have n11_ := zl BK202 hg rfl
       have n12_ := zg BK202 hg rfl
       clear BK187
       clear BK188
       clear BK202
       clear HB
       have BK187 := n0_
       have BK188 := n1_
       have BK202 := n2_
       have HB := n3_
       have BK216 := n4_
       have GW216 := n5_
       have GE216 := n6_
       have NB187_216 := n7_
       have NB216_187 := n8_
       have NB188_216 := n9_
       have NB216_188 := n10_
       have NB202_216 := n11_
       have NB216_202 := n12_
       clear n0_ n1_ n2_ n3_ n4_ n5_ n6_ n7_ n8_ n9_ n10_ n11_ n12_
       clear hb hbox hg
       refine hK.out _ _ ⟨(blk_cell BK187.out 0).trans rfl, (blk_cell BK187.out 1).trans rfl, (blk_cell BK187.out 2).trans rfl, (blk_cell BK187.out 3).trans rfl, (blk_cell BK188.out 0).trans rfl, (blk_cell BK188.out 1).trans rfl, (blk_cell BK188.out 2).trans rfl, (blk_cell BK188.out 3).trans rfl⟩ (fun hHeld => ?_)
       clear hK K
       refine norm_ (a' := ?_) ?_ ?_
       rotate_left
       ·show Act.put _ (some 7) _ = _
        simp only [Act.put, List.setIfInBounds_toArray, List.set_cons_zero, List.set_cons_succ, i64_w, i32_w]
        rfl
       refine one_ (i := 4) (N := some 22) #[true, true, true, true, true, false, false, false, true, false, false] rfl rfl (one_of HT_.out (by kernel_rfl)) (by decide) (fun K hK => ?_)
       refine goes_ Try.func38 (by kernel_rfl) rfl #[.agg #[.int .i64 t203, .int .i64 t204, .int .i64 t205, .int .i64 t206], .agg #[.int .i64 t207, .int .i64 t208, .int .i64 t209, .int .i64 t210]] (by rfl) rfl rfl (by (try simp only [List.map_toArray, List.map_cons, List.map_nil]); first | done | rfl | (simp only [List.length_drop, List.length_take]; rfl)) ?_
       with_reducible refine (impl_RangeMeet.calls k t203 t204 t205 t206 t207 t208 t209 t210 t211 t212 t213 t214 t215 _ A8.out).mono ?_
       rintro e w29 ⟨rfl, hb⟩
       refine ⟨_, rfl, ?_⟩
       have n0_ := zb BK187 hb rfl
       have n1_ := zb BK188 hb rfl
       have n2_ := zb BK202 hb rfl
       have n3_ := zb BK216 hb rfl
       have n4_ := Aside0.mk (below_step (by repeat first | (with_reducible first | exact HB.out | apply vA | apply vN | apply vD | refine vS ?_ GE187.out | refine vS ?_ GE188.out | refine vS ?_ GE202.out | refine vS ?_ GE216.out) | exact HB.out) hb)
       clear BK187
       clear BK188
       clear BK202
       clear BK216
       clear HB
       have BK187 := n0_
       have BK188 := n1_
       have BK202 := n2_
       have BK216 := n3_
       have HB := n4_
       clear n0_ n1_ n2_ n3_ n4_
       (try clear hb)
       (try clear hb2)
       (try clear hk)
       (try clear hi)
       refine hK.out _ _ ⟨(blk_cell BK187.out 0).trans rfl, (blk_cell BK187.out 1).trans rfl, (blk_cell BK187.out 2).trans rfl, (blk_cell BK187.out 3).trans rfl, (blk_cell BK188.out 0).trans rfl, (blk_cell BK188.out 1).trans rfl, (blk_cell BK188.out 2).trans rfl, (blk_cell BK188.out 3).trans rfl⟩ (fun hHeld => ?_)
       clear hK K
       refine norm_ (a' := ?_) ?_ ?_
       rotate_left
       ·show Act.put _ (some 22) _ = _
        simp only [Act.put, List.setIfInBounds_toArray, List.set_cons_zero, List.set_cons_succ, i64_w, i32_w]
        rfl
       refine pure_ (i := 5) (N := some 17) (v := ?_) (a' := ?_) #[true, true, true, true, true, true, false, false, true, false, false] rfl rfl (any_of HT_.out (by kernel_rfl)) (fun _ _ _ h => h) (Or.inl ⟨by rfl, ?_⟩) ?_ ?_
       rotate_left
       ·intro w'
        go_simp
        with_reducible rfl
       rotate_left
       ·simp only [Act.put, List.setIfInBounds_toArray, List.set_cons_zero, List.set_cons_succ, i64_w, i32_w]
        rfl
       refine pure_ (i := 6) (N := some 23) (v := ?_) (a' := ?_) #[true, true, true, true, true, true, true, false, true, false, false] rfl rfl (any_of HT_.out (by kernel_rfl)) (fun _ _ _ h => h) (Or.inl ⟨by rfl, ?_⟩) ?_ ?_
       rotate_left
       ·intro w'
        go_simp
        with_reducible rfl
       rotate_left
       ·simp only [Act.put, List.setIfInBounds_toArray, List.set_cons_zero, List.set_cons_succ, i64_w, i32_w]
        rfl
       refine pure_ (i := 7) (N := some 24) (v := ?_) (a' := ?_) #[true, true, true, true, true, true, true, true, true, false, false] rfl rfl (any_of HT_.out (by kernel_rfl)) (fun _ _ _ h => h) (Or.inl ⟨by rfl, ?_⟩) ?_ ?_
       rotate_left
       ·intro w'
        go_simp
        with_reducible rfl
       rotate_left
       ·simp only [Act.put, List.setIfInBounds_toArray, List.set_cons_zero, List.set_cons_succ, i64_w, i32_w]
        rfl
       exact norm_ (by simp only [putAll, Act.put, List.setIfInBounds_toArray, List.set_cons_zero, List.set_cons_succ]) (hCont (gb216) _ ⟨hHeld, (by (with_reducible repeat first | apply bN | apply bD | apply bA); exact BK187.out), (by (with_reducible repeat first | apply bN | apply bD | apply bA); exact BK188.out), (by (with_reducible repeat first | apply bN | apply bD | apply bA); exact BK202.out), (by (with_reducible repeat first | apply bN | apply bD | apply bA); exact BK216.out), GW216.out, GE216.out, NB187_216.out, NB216_187.out, NB188_216.out, NB216_188.out, NB202_216.out, NB216_202.out, (by repeat first | (with_reducible first | exact HB.out | apply vA | apply vN | apply vD | refine vS ?_ GE187.out | refine vS ?_ GE188.out | refine vS ?_ GE202.out | refine vS ?_ GE216.out) | exact HB.out)⟩)
     ·skip
      refine box_step ?hg (N := 7) ?hd (cs := #[.int .i64 0, .int .i64 0, .int .i64 0, .int .i64 0]) (t := 25) ?hr ?_; (case hd => rfl); (case hg => rfl); (case hr => first | (go_simp; done) | (go_simp; rfl))
      intro gb216 hg w27 hbox hb
      have n0_ := zb BK187 hb rfl
      have n1_ := zb BK188 hb rfl
      have n2_ := zb BK202 hb rfl
      have n3_ := Aside0.mk (below_step (by repeat first | (with_reducible first | exact HB.out | apply vA | apply vN | apply vD | refine vS ?_ GE187.out | refine vS ?_ GE188.out | refine vS ?_ GE202.out) | exact HB.out) hb)
      have n4_ := Aside0.mk (hbox)
      have n5_ := Aside0.mk ((by rw [hg]; exact (below_size (by repeat first | (with_reducible first | exact HB.out | apply vA | apply vN | apply vD | refine vS ?_ GE187.out | refine vS ?_ GE188.out | refine vS ?_ GE202.out) | exact HB.out)) : w.heap.size ≤ gb216))
      have n6_ := Aside0.mk ((by rw [hg]; exact (below_size (by repeat first | (with_reducible first | exact HB.out | apply vA | apply vN | apply vD | refine vS ?_ GE187.out | refine vS ?_ GE188.out | refine vS ?_ GE202.out) | exact HB.out)) : w.heap.size ≤ gb216))
      have n7_ := zl BK187 hg rfl
      have n8_ := zg BK187 hg rfl
      have n9_ := zl BK188 hg rfl
      have n10_ := zg BK188 hg rfl
      have n11_ := zl BK202 hg rfl
      have n12_ := zg BK202 hg rfl
      clear BK187
      clear BK188
      clear BK202
      clear HB
      have BK187 := n0_
      have BK188 := n1_
      have BK202 := n2_
      have HB := n3_
      have BK216 := n4_
      have GW216 := n5_
      have GE216 := n6_
      have NB187_216 := n7_
      have NB216_187 := n8_
      have NB188_216 := n9_
      have NB216_188 := n10_
      have NB202_216 := n11_
      have NB216_202 := n12_
      clear n0_ n1_ n2_ n3_ n4_ n5_ n6_ n7_ n8_ n9_ n10_ n11_ n12_
      clear hb hbox hg
      refine hK.out _ _ ⟨(blk_cell BK187.out 0).trans rfl, (blk_cell BK187.out 1).trans rfl, (blk_cell BK187.out 2).trans rfl, (blk_cell BK187.out 3).trans rfl, (blk_cell BK188.out 0).trans rfl, (blk_cell BK188.out 1).trans rfl, (blk_cell BK188.out 2).trans rfl, (blk_cell BK188.out 3).trans rfl⟩ (fun hHeld => ?_)
      clear hK K
      refine norm_ (a' := ?_) ?_ ?_
      rotate_left
      ·show Act.put _ (some 7) _ = _
       simp only [Act.put, List.setIfInBounds_toArray, List.set_cons_zero, List.set_cons_succ, i64_w, i32_w]
       rfl
      refine one_ (i := 3) (N := some 21) #[true, true, true, true, false, false, false, false, true, false, false] rfl rfl (one_of HT_.out (by kernel_rfl)) (by decide) (fun K hK => ?_)
      refine goes_ Try.func16 (by kernel_rfl) rfl #[.agg #[.int .i64 a1_0, .int .i64 a1_1, .int .i64 a1_2, .int .i64 a1_3]] (by rfl) rfl rfl (by (try simp only [List.map_toArray, List.map_cons, List.map_nil]); first | done | rfl | (simp only [List.length_drop, List.length_take]; rfl)) ?_
      with_reducible refine (laws_toRange.calls a1_0 a1_1 a1_2 a1_3 t207 t208 t209 t210 _ A7.out).mono ?_
      rintro e w28 ⟨rfl, hb⟩
      refine ⟨_, rfl, ?_⟩
      have n0_ := zb BK187 hb rfl
      have n1_ := zb BK188 hb rfl
      have n2_ := zb BK202 hb rfl
      have n3_ := zb BK216 hb rfl
      have n4_ := Aside0.mk (below_step (by repeat first | (with_reducible first | exact HB.out | apply vA | apply vN | apply vD | refine vS ?_ GE187.out | refine vS ?_ GE188.out | refine vS ?_ GE202.out | refine vS ?_ GE216.out) | exact HB.out) hb)
      clear BK187
      clear BK188
      clear BK202
      clear BK216
      clear HB
      have BK187 := n0_
      have BK188 := n1_
      have BK202 := n2_
      have BK216 := n3_
      have HB := n4_
      clear n0_ n1_ n2_ n3_ n4_
      (try clear hb)
      (try clear hb2)
      (try clear hk)
      (try clear hi)
      refine hK.out _ _ ⟨(blk_cell BK187.out 0).trans rfl, (blk_cell BK187.out 1).trans rfl, (blk_cell BK187.out 2).trans rfl, (blk_cell BK187.out 3).trans rfl, (blk_cell BK188.out 0).trans rfl, (blk_cell BK188.out 1).trans rfl, (blk_cell BK188.out 2).trans rfl, (blk_cell BK188.out 3).trans rfl⟩ (fun hHeld => ?_)
      clear hK K
      refine norm_ (a' := ?_) ?_ ?_
      rotate_left
      ·show Act.put _ (some 21) _ = _
       simp only [Act.put, List.setIfInBounds_toArray, List.set_cons_zero, List.set_cons_succ, i64_w, i32_w]
       rfl
      refine one_ (i := 4) (N := some 22) #[true, true, true, true, true, false, false, false, true, false, false] rfl rfl (one_of HT_.out (by kernel_rfl)) (by decide) (fun K hK => ?_)
      refine goes_ Try.func38 (by kernel_rfl) rfl #[.agg #[.int .i64 t203, .int .i64 t204, .int .i64 t205, .int .i64 t206], .agg #[.int .i64 t207, .int .i64 t208, .int .i64 t209, .int .i64 t210]] (by rfl) rfl rfl (by (try simp only [List.map_toArray, List.map_cons, List.map_nil]); first | done | rfl | (simp only [List.length_drop, List.length_take]; rfl)) ?_
      with_reducible refine (impl_RangeMeet.calls k t203 t204 t205 t206 t207 t208 t209 t210 t211 t212 t213 t214 t215 _ A8.out).mono ?_
      rintro e w29 ⟨rfl, hb⟩
      refine ⟨_, rfl, ?_⟩
      have n0_ := zb BK187 hb rfl
      have n1_ := zb BK188 hb rfl
      have n2_ := zb BK202 hb rfl
      have n3_ := zb BK216 hb rfl
      have n4_ := Aside0.mk (below_step (by repeat first | (with_reducible first | exact HB.out | apply vA | apply vN | apply vD | refine vS ?_ GE187.out | refine vS ?_ GE188.out | refine vS ?_ GE202.out | refine vS ?_ GE216.out) | exact HB.out) hb)
      clear BK187
      clear BK188
      clear BK202
      clear BK216
      clear HB
      have BK187 := n0_
      have BK188 := n1_
      have BK202 := n2_
      have BK216 := n3_
      have HB := n4_
      clear n0_ n1_ n2_ n3_ n4_
      (try clear hb)
      (try clear hb2)
      (try clear hk)
      (try clear hi)
      refine hK.out _ _ ⟨(blk_cell BK187.out 0).trans rfl, (blk_cell BK187.out 1).trans rfl, (blk_cell BK187.out 2).trans rfl, (blk_cell BK187.out 3).trans rfl, (blk_cell BK188.out 0).trans rfl, (blk_cell BK188.out 1).trans rfl, (blk_cell BK188.out 2).trans rfl, (blk_cell BK188.out 3).trans rfl⟩ (fun hHeld => ?_)
      clear hK K
      refine norm_ (a' := ?_) ?_ ?_
      rotate_left
      ·show Act.put _ (some 22) _ = _
       simp only [Act.put, List.setIfInBounds_toArray, List.set_cons_zero, List.set_cons_succ, i64_w, i32_w]
       rfl
      refine pure_ (i := 5) (N := some 17) (v := ?_) (a' := ?_) #[true, true, true, true, true, true, false, false, true, false, false] rfl rfl (any_of HT_.out (by kernel_rfl)) (fun _ _ _ h => h) (Or.inl ⟨by rfl, ?_⟩) ?_ ?_
      rotate_left
      ·intro w'
       go_simp
       with_reducible rfl
      rotate_left
      ·simp only [Act.put, List.setIfInBounds_toArray, List.set_cons_zero, List.set_cons_succ, i64_w, i32_w]
       rfl
      refine pure_ (i := 6) (N := some 23) (v := ?_) (a' := ?_) #[true, true, true, true, true, true, true, false, true, false, false] rfl rfl (any_of HT_.out (by kernel_rfl)) (fun _ _ _ h => h) (Or.inl ⟨by rfl, ?_⟩) ?_ ?_
      rotate_left
      ·intro w'
       go_simp
       with_reducible rfl
      rotate_left
      ·simp only [Act.put, List.setIfInBounds_toArray, List.set_cons_zero, List.set_cons_succ, i64_w, i32_w]
       rfl
      refine pure_ (i := 7) (N := some 24) (v := ?_) (a' := ?_) #[true, true, true, true, true, true, true, true, true, false, false] rfl rfl (any_of HT_.out (by kernel_rfl)) (fun _ _ _ h => h) (Or.inl ⟨by rfl, ?_⟩) ?_ ?_
      rotate_left
      ·intro w'
       go_simp
       with_reducible rfl
      rotate_left
      ·simp only [Act.put, List.setIfInBounds_toArray, List.set_cons_zero, List.set_cons_succ, i64_w, i32_w]
       rfl
      exact norm_ (by simp only [putAll, Act.put, List.setIfInBounds_toArray, List.set_cons_zero, List.set_cons_succ]) (hCont (gb216) _ ⟨hHeld, (by (with_reducible repeat first | apply bN | apply bD | apply bA); exact BK187.out), (by (with_reducible repeat first | apply bN | apply bD | apply bA); exact BK188.out), (by (with_reducible repeat first | apply bN | apply bD | apply bA); exact BK202.out), (by (with_reducible repeat first | apply bN | apply bD | apply bA); exact BK216.out), GW216.out, GE216.out, NB187_216.out, NB216_187.out, NB188_216.out, NB216_188.out, NB202_216.out, NB216_202.out, (by repeat first | (with_reducible first | exact HB.out | apply vA | apply vN | apply vD | refine vS ?_ GE187.out | refine vS ?_ GE188.out | refine vS ?_ GE202.out | refine vS ?_ GE216.out) | exact HB.out)⟩)
    ·skip
     refine box_step ?hg (N := 7) ?hd (cs := #[.int .i64 0, .int .i64 0, .int .i64 0, .int .i64 0]) (t := 25) ?hr ?_; (case hd => rfl); (case hg => rfl); (case hr => first | (go_simp; done) | (go_simp; rfl))
     intro gb216 hg w26 hbox hb
     have n0_ := zb BK187 hb rfl
     have n1_ := zb BK188 hb rfl
     have n2_ := zb BK202 hb rfl
     have n3_ := Aside0.mk (below_step (by repeat first | (with_reducible first | exact HB.out | apply vA | apply vN | apply vD | refine vS ?_ GE187.out | refine vS ?_ GE188.out | refine vS ?_ GE202.out) | exact HB.out) hb)
     have n4_ := Aside0.mk (hbox)
     have n5_ := Aside0.mk ((by rw [hg]; exact (below_size (by repeat first | (with_reducible first | exact HB.out | apply vA | apply vN | apply vD | refine vS ?_ GE187.out | refine vS ?_ GE188.out | refine vS ?_ GE202.out) | exact HB.out)) : w.heap.size ≤ gb216))
     have n6_ := Aside0.mk ((by rw [hg]; exact (below_size (by repeat first | (with_reducible first | exact HB.out | apply vA | apply vN | apply vD | refine vS ?_ GE187.out | refine vS ?_ GE188.out | refine vS ?_ GE202.out) | exact HB.out)) : w.heap.size ≤ gb216))
     have n7_ := zl BK187 hg rfl
     have n8_ := zg BK187 hg rfl
     have n9_ := zl BK188 hg rfl
     have n10_ := zg BK188 hg rfl
     have n11_ := zl BK202 hg rfl
     have n12_ := zg BK202 hg rfl
     clear BK187
     clear BK188
     clear BK202
     clear HB
     have BK187 := n0_
     have BK188 := n1_
     have BK202 := n2_
     have HB := n3_
     have BK216 := n4_
     have GW216 := n5_
     have GE216 := n6_
     have NB187_216 := n7_
     have NB216_187 := n8_
     have NB188_216 := n9_
     have NB216_188 := n10_
     have NB202_216 := n11_
     have NB216_202 := n12_
     clear n0_ n1_ n2_ n3_ n4_ n5_ n6_ n7_ n8_ n9_ n10_ n11_ n12_
     clear hb hbox hg
     refine hK.out _ _ ⟨(blk_cell BK187.out 0).trans rfl, (blk_cell BK187.out 1).trans rfl, (blk_cell BK187.out 2).trans rfl, (blk_cell BK187.out 3).trans rfl, (blk_cell BK188.out 0).trans rfl, (blk_cell BK188.out 1).trans rfl, (blk_cell BK188.out 2).trans rfl, (blk_cell BK188.out 3).trans rfl⟩ (fun hHeld => ?_)
     clear hK K
     refine norm_ (a' := ?_) ?_ ?_
     rotate_left
     ·show Act.put _ (some 7) _ = _
      simp only [Act.put, List.setIfInBounds_toArray, List.set_cons_zero, List.set_cons_succ, i64_w, i32_w]
      rfl
     refine one_ (i := 1) (N := some 19) #[true, true, true, false, false, false, false, false, true, false, false] rfl rfl (one_of HT_.out (by kernel_rfl)) (by decide) (fun K hK => ?_)
     refine goes_ Try.func16 (by kernel_rfl) rfl #[.agg #[.int .i64 a0_0, .int .i64 a0_1, .int .i64 a0_2, .int .i64 a0_3]] (by rfl) rfl rfl (by (try simp only [List.map_toArray, List.map_cons, List.map_nil]); first | done | rfl | (simp only [List.length_drop, List.length_take]; rfl)) ?_
     with_reducible refine (laws_toRange.calls a0_0 a0_1 a0_2 a0_3 t203 t204 t205 t206 _ A6.out).mono ?_
     rintro e w27 ⟨rfl, hb⟩
     refine ⟨_, rfl, ?_⟩
     have n0_ := zb BK187 hb rfl
     have n1_ := zb BK188 hb rfl
     have n2_ := zb BK202 hb rfl
     have n3_ := zb BK216 hb rfl
     have n4_ := Aside0.mk (below_step (by repeat first | (with_reducible first | exact HB.out | apply vA | apply vN | apply vD | refine vS ?_ GE187.out | refine vS ?_ GE188.out | refine vS ?_ GE202.out | refine vS ?_ GE216.out) | exact HB.out) hb)
     clear BK187
     clear BK188
     clear BK202
     clear BK216
     clear HB
     have BK187 := n0_
     have BK188 := n1_
     have BK202 := n2_
     have BK216 := n3_
     have HB := n4_
     clear n0_ n1_ n2_ n3_ n4_
     (try clear hb)
     (try clear hb2)
     (try clear hk)
     (try clear hi)
     refine hK.out _ _ ⟨(blk_cell BK187.out 0).trans rfl, (blk_cell BK187.out 1).trans rfl, (blk_cell BK187.out 2).trans rfl, (blk_cell BK187.out 3).trans rfl, (blk_cell BK188.out 0).trans rfl, (blk_cell BK188.out 1).trans rfl, (blk_cell BK188.out 2).trans rfl, (blk_cell BK188.out 3).trans rfl⟩ (fun hHeld => ?_)
     clear hK K
     refine norm_ (a' := ?_) ?_ ?_
     rotate_left
     ·show Act.put _ (some 19) _ = _
      simp only [Act.put, List.setIfInBounds_toArray, List.set_cons_zero, List.set_cons_succ, i64_w, i32_w]
      rfl
     refine one_ (i := 3) (N := some 21) #[true, true, true, true, false, false, false, false, true, false, false] rfl rfl (one_of HT_.out (by kernel_rfl)) (by decide) (fun K hK => ?_)
     refine goes_ Try.func16 (by kernel_rfl) rfl #[.agg #[.int .i64 a1_0, .int .i64 a1_1, .int .i64 a1_2, .int .i64 a1_3]] (by rfl) rfl rfl (by (try simp only [List.map_toArray, List.map_cons, List.map_nil]); first | done | rfl | (simp only [List.length_drop, List.length_take]; rfl)) ?_
     with_reducible refine (laws_toRange.calls a1_0 a1_1 a1_2 a1_3 t207 t208 t209 t210 _ A7.out).mono ?_
     rintro e w28 ⟨rfl, hb⟩
     refine ⟨_, rfl, ?_⟩
     have n0_ := zb BK187 hb rfl
     have n1_ := zb BK188 hb rfl
     have n2_ := zb BK202 hb rfl
     have n3_ := zb BK216 hb rfl
     have n4_ := Aside0.mk (below_step (by repeat first | (with_reducible first | exact HB.out | apply vA | apply vN | apply vD | refine vS ?_ GE187.out | refine vS ?_ GE188.out | refine vS ?_ GE202.out | refine vS ?_ GE216.out) | exact HB.out) hb)
     clear BK187
     clear BK188
     clear BK202
     clear BK216
     clear HB
     have BK187 := n0_
     have BK188 := n1_
     have BK202 := n2_
     have BK216 := n3_
     have HB := n4_
     clear n0_ n1_ n2_ n3_ n4_
     (try clear hb)
     (try clear hb2)
     (try clear hk)
     (try clear hi)
     refine hK.out _ _ ⟨(blk_cell BK187.out 0).trans rfl, (blk_cell BK187.out 1).trans rfl, (blk_cell BK187.out 2).trans rfl, (blk_cell BK187.out 3).trans rfl, (blk_cell BK188.out 0).trans rfl, (blk_cell BK188.out 1).trans rfl, (blk_cell BK188.out 2).trans rfl, (blk_cell BK188.out 3).trans rfl⟩ (fun hHeld => ?_)
     clear hK K
     refine norm_ (a' := ?_) ?_ ?_
     rotate_left
     ·show Act.put _ (some 21) _ = _
      simp only [Act.put, List.setIfInBounds_toArray, List.set_cons_zero, List.set_cons_succ, i64_w, i32_w]
      rfl
     refine one_ (i := 4) (N := some 22) #[true, true, true, true, true, false, false, false, true, false, false] rfl rfl (one_of HT_.out (by kernel_rfl)) (by decide) (fun K hK => ?_)
     refine goes_ Try.func38 (by kernel_rfl) rfl #[.agg #[.int .i64 t203, .int .i64 t204, .int .i64 t205, .int .i64 t206], .agg #[.int .i64 t207, .int .i64 t208, .int .i64 t209, .int .i64 t210]] (by rfl) rfl rfl (by (try simp only [List.map_toArray, List.map_cons, List.map_nil]); first | done | rfl | (simp only [List.length_drop, List.length_take]; rfl)) ?_
     with_reducible refine (impl_RangeMeet.calls k t203 t204 t205 t206 t207 t208 t209 t210 t211 t212 t213 t214 t215 _ A8.out).mono ?_
     rintro e w29 ⟨rfl, hb⟩
     refine ⟨_, rfl, ?_⟩
     have n0_ := zb BK187 hb rfl
     have n1_ := zb BK188 hb rfl
     have n2_ := zb BK202 hb rfl
     have n3_ := zb BK216 hb rfl
     have n4_ := Aside0.mk (below_step (by repeat first | (with_reducible first | exact HB.out | apply vA | apply vN | apply vD | refine vS ?_ GE187.out | refine vS ?_ GE188.out | refine vS ?_ GE202.out | refine vS ?_ GE216.out) | exact HB.out) hb)
     clear BK187
     clear BK188
     clear BK202
     clear BK216
     clear HB
     have BK187 := n0_
     have BK188 := n1_
     have BK202 := n2_
     have BK216 := n3_
     have HB := n4_
     clear n0_ n1_ n2_ n3_ n4_
     (try clear hb)
     (try clear hb2)
     (try clear hk)
     (try clear hi)
     refine hK.out _ _ ⟨(blk_cell BK187.out 0).trans rfl, (blk_cell BK187.out 1).trans rfl, (blk_cell BK187.out 2).trans rfl, (blk_cell BK187.out 3).trans rfl, (blk_cell BK188.out 0).trans rfl, (blk_cell BK188.out 1).trans rfl, (blk_cell BK188.out 2).trans rfl, (blk_cell BK188.out 3).trans rfl⟩ (fun hHeld => ?_)
     clear hK K
     refine norm_ (a' := ?_) ?_ ?_
     rotate_left
     ·show Act.put _ (some 22) _ = _
      simp only [Act.put, List.setIfInBounds_toArray, List.set_cons_zero, List.set_cons_succ, i64_w, i32_w]
      rfl
     refine pure_ (i := 5) (N := some 17) (v := ?_) (a' := ?_) #[true, true, true, true, true, true, false, false, true, false, false] rfl rfl (any_of HT_.out (by kernel_rfl)) (fun _ _ _ h => h) (Or.inl ⟨by rfl, ?_⟩) ?_ ?_
     rotate_left
     ·intro w'
      go_simp
      with_reducible rfl
     rotate_left
     ·simp only [Act.put, List.setIfInBounds_toArray, List.set_cons_zero, List.set_cons_succ, i64_w, i32_w]
      rfl
     refine pure_ (i := 6) (N := some 23) (v := ?_) (a' := ?_) #[true, true, true, true, true, true, true, false, true, false, false] rfl rfl (any_of HT_.out (by kernel_rfl)) (fun _ _ _ h => h) (Or.inl ⟨by rfl, ?_⟩) ?_ ?_
     rotate_left
     ·intro w'
      go_simp
      with_reducible rfl
     rotate_left
     ·simp only [Act.put, List.setIfInBounds_toArray, List.set_cons_zero, List.set_cons_succ, i64_w, i32_w]
      rfl
     refine pure_ (i := 7) (N := some 24) (v := ?_) (a' := ?_) #[true, true, true, true, true, true, true, true, true, false, false] rfl rfl (any_of HT_.out (by kernel_rfl)) (fun _ _ _ h => h) (Or.inl ⟨by rfl, ?_⟩) ?_ ?_
     rotate_left
     ·intro w'
      go_simp
      with_reducible rfl
     rotate_left
     ·simp only [Act.put, List.setIfInBounds_toArray, List.set_cons_zero, List.set_cons_succ, i64_w, i32_w]
      rfl
     exact norm_ (by simp only [putAll, Act.put, List.setIfInBounds_toArray, List.set_cons_zero, List.set_cons_succ]) (hCont (gb216) _ ⟨hHeld, (by (with_reducible repeat first | apply bN | apply bD | apply bA); exact BK187.out), (by (with_reducible repeat first | apply bN | apply bD | apply bA); exact BK188.out), (by (with_reducible repeat first | apply bN | apply bD | apply bA); exact BK202.out), (by (with_reducible repeat first | apply bN | apply bD | apply bA); exact BK216.out), GW216.out, GE216.out, NB187_216.out, NB216_187.out, NB188_216.out, NB216_188.out, NB202_216.out, NB216_202.out, (by repeat first | (with_reducible first | exact HB.out | apply vA | apply vN | apply vD | refine vS ?_ GE187.out | refine vS ?_ GE188.out | refine vS ?_ GE202.out | refine vS ?_ GE216.out) | exact HB.out)⟩)
   rintro gb216 w30 ⟨hS_, h0_, h1_, h2_, h3_, h4_, h5_, h6_, h7_, h8_, h9_, h10_, h11_, h12_⟩
   have n0_ : Aside0 (w30.heap[gb187]? = some (.cells #[.int .i64 a0_0, .int .i64 a0_1, .int .i64 a0_2, .int .i64 a0_3] 23 (0, 0))) := ⟨h0_⟩
   have n1_ : Aside0 (w30.heap[gb188]? = some (.cells #[.int .i64 a1_0, .int .i64 a1_1, .int .i64 a1_2, .int .i64 a1_3] 23 (0, 0))) := ⟨h1_⟩
   have n2_ : Aside0 (w30.heap[gb202]? = some (.cells #[.int .i64 t197, .int .i64 t198, .int .i64 t199, .int .i64 t200] 25 (0, 0))) := ⟨h2_⟩
   have n3_ : Aside0 (w30.heap[gb216]? = some (.cells #[.int .i64 0, .int .i64 0, .int .i64 0, .int .i64 0] 25 (0, 0))) := ⟨h3_⟩
   have n4_ : Aside0 (w.heap.size ≤ gb216) := ⟨h4_⟩
   have n5_ : Aside0 (w.heap.size ≤ gb216) := ⟨h5_⟩
   have n6_ : Aside0 (gb187 ≠ gb216) := ⟨h6_⟩
   have n7_ : Aside0 (gb216 ≠ gb187) := ⟨h7_⟩
   have n8_ : Aside0 (gb188 ≠ gb216) := ⟨h8_⟩
   have n9_ : Aside0 (gb216 ≠ gb188) := ⟨h9_⟩
   have n10_ : Aside0 (gb202 ≠ gb216) := ⟨h10_⟩
   have n11_ : Aside0 (gb216 ≠ gb202) := ⟨h11_⟩
   have n12_ : Aside0 (Below w.heap.size w w30) := ⟨h12_⟩
   clear BK187
   clear BK188
   clear BK202
   clear HB
   clear h0_ h1_ h2_ h3_ h4_ h5_ h6_ h7_ h8_ h9_ h10_ h11_ h12_
   have BK187 := n0_
   have BK188 := n1_
   have BK202 := n2_
   have BK216 := n3_
   have GW216 := n4_
   have GE216 := n5_
   have NB187_216 := n6_
   have NB216_187 := n7_
   have NB188_216 := n8_
   have NB216_188 := n9_
   have NB202_216 := n10_
   have NB216_202 := n11_
   have HB := n12_
   clear n0_ n1_ n2_ n3_ n4_ n5_ n6_ n7_ n8_ n9_ n10_ n11_ n12_
   have hHeld : w30.cell? ⟨gb187, 0, none⟩ = some (.int .i64 a0_0) ∧ w30.cell? ⟨gb187, 1, none⟩ = some (.int .i64 a0_1) ∧ w30.cell? ⟨gb187, 2, none⟩ = some (.int .i64 a0_2) ∧ w30.cell? ⟨gb187, 3, none⟩ = some (.int .i64 a0_3) ∧ w30.cell? ⟨gb188, 0, none⟩ = some (.int .i64 a1_0) ∧ w30.cell? ⟨gb188, 1, none⟩ = some (.int .i64 a1_1) ∧ w30.cell? ⟨gb188, 2, none⟩ = some (.int .i64 a1_2) ∧ w30.cell? ⟨gb188, 3, none⟩ = some (.int .i64 a1_3) := hS_
   refine norm_ (a' := ?_) ?_ ?_
   rotate_left
   ·simp only [putAll, Act.put, List.setIfInBounds_toArray, List.set_cons_zero, List.set_cons_succ]
    rfl
   refine one_ (i := 9) (N := none) #[true, true, true, true, true, true, true, true, true, true, false] rfl rfl (one_of HT_.out (by kernel_rfl)) (by decide) (fun K hK => ?_)
   have hs31 : w30.cell? ⟨gb216, 0, none⟩ = some (.int .i64 0) := (blk_cell BK216.out 0).trans rfl
   have hfs31 := blk_frozen BK216.out 0
   have hns31_0 := NB187_216.out
   have hns31_1 := NB188_216.out
   have hns31_2 := NB202_216.out
   have hms31_0 := NB216_187.out
   have hms31_1 := NB216_188.out
   have hms31_2 := NB216_202.out
   have hs32 : w30.cell? ⟨gb216, 1, none⟩ = some (.int .i64 0) := (blk_cell BK216.out 1).trans rfl
   have hfs32 := blk_frozen BK216.out 1
   have hns32_0 := NB187_216.out
   have hns32_1 := NB188_216.out
   have hns32_2 := NB202_216.out
   have hms32_0 := NB216_187.out
   have hms32_1 := NB216_188.out
   have hms32_2 := NB216_202.out
   have hs33 : w30.cell? ⟨gb216, 2, none⟩ = some (.int .i64 0) := (blk_cell BK216.out 2).trans rfl
   have hfs33 := blk_frozen BK216.out 2
   have hns33_0 := NB187_216.out
   have hns33_1 := NB188_216.out
   have hns33_2 := NB202_216.out
   have hms33_0 := NB216_187.out
   have hms33_1 := NB216_188.out
   have hms33_2 := NB216_202.out
   have hs34 : w30.cell? ⟨gb216, 3, none⟩ = some (.int .i64 0) := (blk_cell BK216.out 3).trans rfl
   have hfs34 := blk_frozen BK216.out 3
   have hns34_0 := NB187_216.out
   have hns34_1 := NB188_216.out
   have hns34_2 := NB202_216.out
   have hms34_0 := NB216_187.out
   have hms34_1 := NB216_188.out
   have hms34_2 := NB216_202.out
   refine skip_ (w1 := ?_) (by rfl) rfl ?_ ?_
   rotate_left
   ·go_simp
    rfl
   refine hK.out _ _ ⟨((cell_far (p := ⟨gb216, _, none⟩) NB187_216.out _).trans (((cell_far (p := ⟨gb216, _, none⟩) NB187_216.out _).trans (((cell_far (p := ⟨gb216, _, none⟩) NB187_216.out _).trans (((cell_far (p := ⟨gb216, _, none⟩) NB187_216.out _).trans (hHeld.1)))))))), ((cell_far (p := ⟨gb216, _, none⟩) NB187_216.out _).trans (((cell_far (p := ⟨gb216, _, none⟩) NB187_216.out _).trans (((cell_far (p := ⟨gb216, _, none⟩) NB187_216.out _).trans (((cell_far (p := ⟨gb216, _, none⟩) NB187_216.out _).trans (hHeld.2.1)))))))), ((cell_far (p := ⟨gb216, _, none⟩) NB187_216.out _).trans (((cell_far (p := ⟨gb216, _, none⟩) NB187_216.out _).trans (((cell_far (p := ⟨gb216, _, none⟩) NB187_216.out _).trans (((cell_far (p := ⟨gb216, _, none⟩) NB187_216.out _).trans (hHeld.2.2.1)))))))), ((cell_far (p := ⟨gb216, _, none⟩) NB187_216.out _).trans (((cell_far (p := ⟨gb216, _, none⟩) NB187_216.out _).trans (((cell_far (p := ⟨gb216, _, none⟩) NB187_216.out _).trans (((cell_far (p := ⟨gb216, _, none⟩) NB187_216.out _).trans (hHeld.2.2.2.1)))))))), ((cell_far (p := ⟨gb216, _, none⟩) NB188_216.out _).trans (((cell_far (p := ⟨gb216, _, none⟩) NB188_216.out _).trans (((cell_far (p := ⟨gb216, _, none⟩) NB188_216.out _).trans (((cell_far (p := ⟨gb216, _, none⟩) NB188_216.out _).trans (hHeld.2.2.2.2.1)))))))), ((cell_far (p := ⟨gb216, _, none⟩) NB188_216.out _).trans (((cell_far (p := ⟨gb216, _, none⟩) NB188_216.out _).trans (((cell_far (p := ⟨gb216, _, none⟩) NB188_216.out _).trans (((cell_far (p := ⟨gb216, _, none⟩) NB188_216.out _).trans (hHeld.2.2.2.2.2.1)))))))), ((cell_far (p := ⟨gb216, _, none⟩) NB188_216.out _).trans (((cell_far (p := ⟨gb216, _, none⟩) NB188_216.out _).trans (((cell_far (p := ⟨gb216, _, none⟩) NB188_216.out _).trans (((cell_far (p := ⟨gb216, _, none⟩) NB188_216.out _).trans (hHeld.2.2.2.2.2.2.1)))))))), ((cell_far (p := ⟨gb216, _, none⟩) NB188_216.out _).trans (((cell_far (p := ⟨gb216, _, none⟩) NB188_216.out _).trans (((cell_far (p := ⟨gb216, _, none⟩) NB188_216.out _).trans (((cell_far (p := ⟨gb216, _, none⟩) NB188_216.out _).trans (hHeld.2.2.2.2.2.2.2))))))))⟩ (fun hHeld => ?_)
   clear hK K
   refine pure_ (i := 10) (N := some 8) (v := ?_) (a' := ?_) #[true, true, true, true, true, true, true, true, true, true, true] rfl rfl (any_of HT_.out (by kernel_rfl)) (fun _ _ _ h => h) (Or.inl ⟨by rfl, ?_⟩) ?_ ?_
   rotate_left
   ·intro w'
    go_simp
    with_reducible rfl
   rotate_left
   ·simp only [Act.put, List.setIfInBounds_toArray, List.set_cons_zero, List.set_cons_succ, i64_w, i32_w]
    rfl
   refine done_ (done_of HT_.out (by kernel_rfl)) ?_
   have hnb35 := NB216_187.out
   have hnc35 := NB187_216.out
   have hnb36 := NB216_188.out
   have hnc36 := NB188_216.out
   have hnb37 := NB216_202.out
   have hnc37 := NB202_216.out
   obtain ⟨hcz38_0, hcz38_1, hcz38_2, hcz38_3, hfz38_0, hfz38_1, hfz38_2, hfz38_3⟩ := zc4 BK216
   have hnb39 := NB202_187.out
   have hnc39 := NB187_202.out
   have hnb40 := NB202_188.out
   have hnc40 := NB188_202.out
   obtain ⟨hcz41_0, hcz41_1, hcz41_2, hcz41_3, hfz41_0, hfz41_1, hfz41_2, hfz41_3⟩ := zc4 BK202
   try go_wp2_with (first | ((with_reducible refine gate_callee (f := 22) rfl ?_); refine goesL_ (some 27) rfl rfl Try.func22 (by kernel_rfl) rfl #[.agg #[.int .i64 t211, .int .i64 t212, .int .i64 t213, .int .i64 t214], .agg #[.int .i64 t197, .int .i64 t198, .int .i64 t199, .int .i64 t200]] rfl (by (try simp only [List.map_toArray, List.map_cons, List.map_nil]); first | done | rfl | (simp only [List.length_drop, List.length_take]; rfl)) ?_; (with_reducible refine (laws_eqRange.calls t211 t212 t213 t214 t197 t198 t199 t200 true _ A9.out).mono ?_); rintro e w42 ⟨rfl, hb⟩; refine ⟨_, rfl, ?_⟩; have n0_ := Aside0.mk (blk_below (g := gb187) (o := .cells #[.int .i64 a0_0, .int .i64 a0_1, .int .i64 a0_2, .int .i64 a0_3] 23 (0, 0)) (by (with_reducible repeat first | apply bN | apply bD | apply bA); refine blk_far ?_ NB187_216.out _; (with_reducible repeat first | apply bN | apply bD | apply bA); refine blk_far ?_ NB187_216.out _; (with_reducible repeat first | apply bN | apply bD | apply bA); refine blk_far ?_ NB187_216.out _; (with_reducible repeat first | apply bN | apply bD | apply bA); refine blk_far ?_ NB187_216.out _; (with_reducible repeat first | apply bN | apply bD | apply bA); exact BK187.out) hb); have n1_ := Aside0.mk (blk_below (g := gb188) (o := .cells #[.int .i64 a1_0, .int .i64 a1_1, .int .i64 a1_2, .int .i64 a1_3] 23 (0, 0)) (by (with_reducible repeat first | apply bN | apply bD | apply bA); refine blk_far ?_ NB188_216.out _; (with_reducible repeat first | apply bN | apply bD | apply bA); refine blk_far ?_ NB188_216.out _; (with_reducible repeat first | apply bN | apply bD | apply bA); refine blk_far ?_ NB188_216.out _; (with_reducible repeat first | apply bN | apply bD | apply bA); refine blk_far ?_ NB188_216.out _; (with_reducible repeat first | apply bN | apply bD | apply bA); exact BK188.out) hb); have n2_ := Aside0.mk (blk_below (g := gb202) (o := .cells #[.int .i64 t197, .int .i64 t198, .int .i64 t199, .int .i64 t200] 25 (0, 0)) (by (with_reducible repeat first | apply bN | apply bD | apply bA); refine blk_far ?_ NB202_216.out _; (with_reducible repeat first | apply bN | apply bD | apply bA); refine blk_far ?_ NB202_216.out _; (with_reducible repeat first | apply bN | apply bD | apply bA); refine blk_far ?_ NB202_216.out _; (with_reducible repeat first | apply bN | apply bD | apply bA); refine blk_far ?_ NB202_216.out _; (with_reducible repeat first | apply bN | apply bD | apply bA); exact BK202.out) hb); have n3_ := Aside0.mk (blk_below (g := gb216) (o := .cells #[.int .i64 t211, .int .i64 t212, .int .i64 t213, .int .i64 t214] 25 (0, 0)) (by (with_reducible repeat first | apply bN | apply bD | apply bA); refine blk_put (cs := #[.int .i64 t211, .int .i64 t212, .int .i64 t213, .int .i64 0]) ?_ 3 _ rfl; (with_reducible repeat first | apply bN | apply bD | apply bA); refine blk_put (cs := #[.int .i64 t211, .int .i64 t212, .int .i64 0, .int .i64 0]) ?_ 2 _ rfl; (with_reducible repeat first | apply bN | apply bD | apply bA); refine blk_put (cs := #[.int .i64 t211, .int .i64 0, .int .i64 0, .int .i64 0]) ?_ 1 _ rfl; (with_reducible repeat first | apply bN | apply bD | apply bA); refine blk_put (cs := #[.int .i64 0, .int .i64 0, .int .i64 0, .int .i64 0]) ?_ 0 _ rfl; (with_reducible repeat first | apply bN | apply bD | apply bA); exact BK216.out) hb); have n4_ := Aside0.mk (below_step (by repeat first | (with_reducible first | exact HB.out | apply vA | apply vN | apply vD | refine vS ?_ GE187.out | refine vS ?_ GE188.out | refine vS ?_ GE202.out | refine vS ?_ GE216.out) | exact HB.out) hb); clear BK187; clear BK188; clear BK202; clear BK216; clear HB; have BK187 := n0_; have BK188 := n1_; have BK202 := n2_; have BK216 := n3_; have HB := n4_; clear n0_ n1_ n2_ n3_ n4_; (try clear hb); (try clear hb2); (try clear hk); (try clear hi)))
   go_ret
   exact ⟨by first | rfl | (simp [errW_none, errW_some] <;> rfl) | (simp [*, errW_none, errW_some] <;> rfl), by repeat first | (with_reducible first | exact HB.out | apply vA | apply vN | apply vD | refine vS ?_ GE187.out | refine vS ?_ GE188.out | refine vS ?_ GE202.out | refine vS ?_ GE216.out) | exact HB.out⟩
 ·replace c10 := Bool.eq_false_iff.mpr c10
  subst c10
  rw [if_neg (show ¬ (false = true) by decide)] at H
  exact absurd H (by simp)

/-- THE ONE PURE STATEMENT of laws_FnExactRangeMeet. -/
def laws_FnExactRangeMeet.Pure : Prop := ∀ (a0_0 : Int) (a0_1 : Int) (a0_2 : Int) (a0_3 : Int) (a1_0 : Int) (a1_1 : Int) (a1_2 : Int) (a1_3 : Int), (Lit.int .i64 a0_0).wf = true → (Lit.int .i64 a0_1).wf = true → (Lit.int .i64 a0_2).wf = true → (Lit.int .i64 a0_3).wf = true → (Lit.int .i64 a1_0).wf = true → (Lit.int .i64 a1_1).wf = true → (Lit.int .i64 a1_2).wf = true → (Lit.int .i64 a1_3).wf = true → ∃ k, laws_FnExactRangeMeet.f k a0_0 a0_1 a0_2 a0_3 a1_0 a1_1 a1_2 a1_3 = some true
theorem laws_FnExactRangeMeet.walk (P : laws_FnExactRangeMeet.Pure) (a0_0 : Int) (a0_1 : Int) (a0_2 : Int) (a0_3 : Int) (a1_0 : Int) (a1_1 : Int) (a1_2 : Int) (a1_3 : Int) (w : World) (w0_0 : (Lit.int .i64 a0_0).wf = true) (w0_1 : (Lit.int .i64 a0_1).wf = true) (w0_2 : (Lit.int .i64 a0_2).wf = true) (w0_3 : (Lit.int .i64 a0_3).wf = true) (w1_0 : (Lit.int .i64 a1_0).wf = true) (w1_1 : (Lit.int .i64 a1_1).wf = true) (w1_2 : (Lit.int .i64 a1_2).wf = true) (w1_3 : (Lit.int .i64 a1_3).wf = true) :
  Calls Try.prog 13 #[.agg #[.int .i64 a0_0, .int .i64 a0_1, .int .i64 a0_2, .int .i64 a0_3], .agg #[.int .i64 a1_0, .int .i64 a1_1, .int .i64 a1_2, .int .i64 a1_3]] w fun e w' => e = .returned (.bool true) ∧ Below w.heap.size w w' := by
 obtain ⟨k, h⟩ := P a0_0 a0_1 a0_2 a0_3 a1_0 a1_1 a1_2 a1_3 w0_0 w0_1 w0_2 w0_3 w1_0 w1_1 w1_2 w1_3
 refine (laws_FnExactRangeMeet.calls k a0_0 a0_1 a0_2 a0_3 a1_0 a1_1 a1_2 a1_3 true w h).mono ?_
 rintro e w' ⟨rfl, hd⟩
 exact ⟨rfl, hd⟩

end Go.Proofs.Ytdpeffabhkhmbaa.Q
