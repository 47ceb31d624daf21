/- The machine's side of this seat's laws: Go functions as Lean functions, and their contracts. By a program of this work over the kit's print. -/
import Derived.Test.YtabencccbmjnbaaQ0
import Derived.Test.YtabencccbmjnbaaQ1
import Derived.Test.YtabencccbmjnbaaQ26
import Derived.Test.YtabencccbmjnbaaQ30
import Derived.Test.YtabencccbmjnbaaQ35
import Derived.Test.YtabencccbmjnbaaQ37
namespace Go.Proofs.Ytabencccbmjnbaa.Q
open Go.RowKit Go.Proofs.YtabencccbmjnbaaW.PrintWords Go.Proofs.YtabencccbmjnbaaW.PrintLast Go.Proofs.YtabencccbmjnbaaW.PrintMore
attribute [local go_sem] max2_int min2_int max_two min_two max_three min_three max_four min_four Go.Proofs.YtabencccbmjnbaaN.not_i64   -- for this text's walks alone
set_option linter.unusedVariables false
set_option linter.unusedSimpArgs false

attribute [local go_sem high] eqA24
/-! ### laws_FnTidyIn: function 11 -/
def laws_FnTidyIn.j0 : Nat → Bool → Int → Int → Int → Int → Int → Int → Int → Int → Option (Bool)
 | 0, _, _, _, _, _, _, _, _, _ => none
 | k + 1, x20, x904000, x904001, x904002, x904003, x909000, x909001, x909002, x909003 => if x20 = true then ((spec_RangeTidy.f k x904000 x904001 x904002 x904003).bind fun bt914 => (some (x909000 == bt914.1 && (x909001 == bt914.2.1 && (x909002 == bt914.2.2.1 && (x909003 == bt914.2.2.2)))))) else ((impl_RangeIn.f k x909000 x909001 x909002 x909003 x904000 x904001 x904002 x904003).bind fun t918 => (some t918))
def laws_FnTidyIn.f (k : Nat) (l0 : List Int) : Option (Bool) := if (l0.length : Int) > 1048576 then (some true) else ((spec_DrawRangeTidy.f k l0).bind fun bt899 => ((impl_RangeTidy.f k bt899.1 bt899.2.1 bt899.2.2.1 bt899.2.2.2).bind fun bt904 => ((spec_RangeTidy.f k bt899.1 bt899.2.1 bt899.2.2.1 bt899.2.2.2).bind fun bt909 => (if (!(bt904.1 == bt909.1) || (!(bt904.2.1 == bt909.2.1) || (!(bt904.2.2.1 == bt909.2.2.1) || (!(bt904.2.2.2 == bt909.2.2.2))))) = true then (laws_FnTidyIn.j0 k true bt899.1 bt899.2.1 bt899.2.2.1 bt899.2.2.2 bt904.1 bt904.2.1 bt904.2.2.1 bt904.2.2.2) else ((impl_RangeSome.f k bt899.1 bt899.2.1 bt899.2.2.1 bt899.2.2.2).bind fun t913 => (laws_FnTidyIn.j0 k (!t913) bt899.1 bt899.2.1 bt899.2.2.1 bt899.2.2.2 bt904.1 bt904.2.1 bt904.2.2.1 bt904.2.2.2))))))


def laws_FnTidyIn.T5 : Bool × List (List Nat × List Nat) := (true, [([], []), ([], []), ([1], [1]), ([0, 2], [0, 2]), ([3, 2], [3]), ([4], [4]), ([5, 4, 4], [4, 5]), ([6, 4], [4, 6]), ([4, 7], [4, 7])])
def laws_FnTidyIn.B5 : List Nat := [0, 0, 2, 7, 15, 31, 63, 127, 255]
theorem laws_FnTidyIn.tab5 : rtab .any (opsOf Try.f11 5) = laws_FnTidyIn.T5 := by kernel_rfl
theorem laws_FnTidyIn.bits5 : waitsOk laws_FnTidyIn.T5.2 laws_FnTidyIn.B5 = true := by kernel_rfl
set_option maxHeartbeats 8000000 in
set_option maxRecDepth 100000 in
theorem laws_FnTidyIn.calls (k : Nat) (A0 : Option Addr) (c0 : Nat) (l0 : List Int) (r : Bool) (w : World) (hr0 : Kd.C (Kd.int .u8) w A0 l0.length l0) (hc0 : l0.length ≤ c0) (h : laws_FnTidyIn.f k l0 = some r) :
  Calls Try.prog 11 #[.slice A0 l0.length c0] w fun e w' => e = .returned (.bool r) ∧ Below w.heap.size w w' := by
 have hu24 := Try.underlying24
 have HR0 := Aside0.mk hr0
 have HC0 := Aside0.mk hc0
 clear hr0 hc0
 have HB := Aside0.mk (Below.refl w.heap.size w)
 have H : (if (l0.length : Int) > 1048576 then (some true) else ((spec_DrawRangeTidy.f k l0).bind fun bt899 => ((impl_RangeTidy.f k bt899.1 bt899.2.1 bt899.2.2.1 bt899.2.2.2).bind fun bt904 => ((spec_RangeTidy.f k bt899.1 bt899.2.1 bt899.2.2.1 bt899.2.2.2).bind fun bt909 => (if (!(bt904.1 == bt909.1) || (!(bt904.2.1 == bt909.2.1) || (!(bt904.2.2.1 == bt909.2.2.1) || (!(bt904.2.2.2 == bt909.2.2.2))))) = true then (laws_FnTidyIn.j0 k true bt899.1 bt899.2.1 bt899.2.2.1 bt899.2.2.2 bt904.1 bt904.2.1 bt904.2.2.1 bt904.2.2.2) else ((impl_RangeSome.f k bt899.1 bt899.2.1 bt899.2.2.1 bt899.2.2.2).bind fun t913 => (laws_FnTidyIn.j0 k (!t913) bt899.1 bt899.2.1 bt899.2.2.1 bt899.2.2.2 bt904.1 bt904.2.1 bt904.2.2.1 bt904.2.2.2))))))) = some r := h
 clear h
 by_cases c2 : (l0.length : Int) > 1048576
 ·rw [if_pos c2] at H
  have c2b0 : decide (1048576 < (l0.length : Int)) = true := decide_eq_true c2
  have c2b1 : decide (1048576 < l0.length) = true := decide_eq_true (by omega)
  clear c2
  obtain rfl := Option.some.inj H
  go_enter Try.func11, Try.ntmps11
  go_wp2
  go_ret
  exact ⟨by first | rfl | (simp [errW_none, errW_some] <;> rfl) | (simp [*, errW_none, errW_some] <;> rfl), by repeat first | (with_reducible first | exact HB.out | apply vA | apply vN | apply vD) | exact HB.out⟩
 ·rw [if_neg c2] at H
  have c2b0 : decide (1048576 < (l0.length : Int)) = false := decide_eq_false c2
  have c2b1 : decide (1048576 < l0.length) = false := decide_eq_false (by omega)
  clear c2
  replace H := Option.bind_eq_some_iff.mp H
  obtain ⟨⟨t899, t900, t901, t902⟩, A30, H⟩ := H
  try dsimp only at H
  have A3 := Aside0.mk A30
  clear A30
  replace H := Option.bind_eq_some_iff.mp H
  obtain ⟨⟨t904, t905, t906, t907⟩, A40, H⟩ := H
  try dsimp only at H
  have A4 := Aside0.mk A40
  clear A40
  have HC5 := Aside0.mk H
  clear H
  go_enter Try.func11, Try.ntmps11
  go_upto_region 5 with (first | ((with_reducible refine gate_callee (f := 42) rfl ?_); refine goesL_ (some 9) rfl rfl Try.func42 (by kernel_rfl) rfl #[.slice A0 l0.length c0] rfl (by (try simp only [List.map_toArray, List.map_cons, List.map_nil]); first | done | rfl | (simp only [List.length_drop, List.length_take]; rfl)) ?_; (with_reducible refine (spec_DrawRangeTidy.calls k _ _ l0 t899 t900 t901 t902 _ ?side1 ?side2 A3.out).mono ?_); (case side1 => repeat (first | exact HR0.out | (with_reducible refine Kd.C_alloc ?_ _) | (with_reducible refine Kd.C_drewN ?_ _) | (with_reducible refine Kd.C_drew ?_))); (case side2 => exact HC0.out); rintro e w6 ⟨rfl, hb⟩; refine ⟨_, rfl, ?_⟩; have n0_ := Aside0.mk (below_step (by repeat first | (with_reducible first | exact HB.out | apply vA | apply vN | apply vD) | exact HB.out) hb); clear HB; have HB := n0_; clear n0_; (try clear hb); (try clear hb2); (try clear hk); (try clear hi)) | ((with_reducible refine gate_dst (N := 3) rfl ?_); refine box_event ?hg (N := 3) ?hd (cs := #[.int .i64 0, .int .i64 0, .int .i64 0, .int .i64 0]) (t := 24) ?hr ?_; (case hd => rfl); (case hg => rfl); (case hr => first | (go_simp; done) | (go_simp; rfl)); intro gb903 hg w7 hbox hb; have n0_ := Aside0.mk (below_step (by repeat first | (with_reducible first | exact HB.out | apply vA | apply vN | apply vD) | exact HB.out) hb); have n1_ := Aside0.mk (hbox); have n2_ := Aside0.mk ((by rw [hg]; exact (below_size (by repeat first | (with_reducible first | exact HB.out | apply vA | apply vN | apply vD) | exact HB.out)) : w.heap.size ≤ gb903)); have n3_ := n2_; clear HB; have HB := n0_; have BK903 := n1_; have GW903 := n2_; have GE903 := n3_; clear n0_ n1_ n2_ n3_; clear hb hbox hg; obtain ⟨hcz8_0, hcz8_1, hcz8_2, hcz8_3, hfz8_0, hfz8_1, hfz8_2, hfz8_3⟩ := zc4 BK903) | ((with_reducible refine gate_callee (f := 31) rfl ?_); refine goesL_ (some 11) rfl rfl Try.func31 (by kernel_rfl) rfl #[.agg #[.int .i64 t899, .int .i64 t900, .int .i64 t901, .int .i64 t902]] rfl (by (try simp only [List.map_toArray, List.map_cons, List.map_nil]); first | done | rfl | (simp only [List.length_drop, List.length_take]; rfl)) ?_; (with_reducible refine (impl_RangeTidy.calls k t899 t900 t901 t902 t904 t905 t906 t907 _ A4.out).mono ?_); rintro e w9 ⟨rfl, hb⟩; refine ⟨_, rfl, ?_⟩; have n0_ := Aside0.mk (blk_below (g := gb903) (o := .cells #[.int .i64 t899, .int .i64 t900, .int .i64 t901, .int .i64 t902] 24 (0, 0)) (by (with_reducible repeat first | apply bN | apply bD | apply bA); refine blk_put (cs := #[.int .i64 t899, .int .i64 t900, .int .i64 t901, .int .i64 0]) ?_ 3 _ rfl; (with_reducible repeat first | apply bN | apply bD | apply bA); refine blk_put (cs := #[.int .i64 t899, .int .i64 t900, .int .i64 0, .int .i64 0]) ?_ 2 _ rfl; (with_reducible repeat first | apply bN | apply bD | apply bA); refine blk_put (cs := #[.int .i64 t899, .int .i64 0, .int .i64 0, .int .i64 0]) ?_ 1 _ rfl; (with_reducible repeat first | apply bN | apply bD | apply bA); refine blk_put (cs := #[.int .i64 0, .int .i64 0, .int .i64 0, .int .i64 0]) ?_ 0 _ rfl; (with_reducible repeat first | apply bN | apply bD | apply bA); exact BK903.out) hb); have n1_ := Aside0.mk (below_step (by repeat first | (with_reducible first | exact HB.out | apply vA | apply vN | apply vD | refine vS ?_ GE903.out) | exact HB.out) hb); clear BK903; clear HB; have BK903 := n0_; have HB := n1_; clear n0_ n1_; (try clear hb); (try clear hb2); (try clear hk); (try clear hi)) | ((with_reducible refine gate_dst (N := 4) rfl ?_); refine box_event ?hg (N := 4) ?hd (cs := #[.int .i64 0, .int .i64 0, .int .i64 0, .int .i64 0]) (t := 24) ?hr ?_; (case hd => rfl); (case hg => rfl); (case hr => first | (go_simp; done) | (go_simp; rfl)); intro gb908 hg w10 hbox hb; have n0_ := zb BK903 hb rfl; have n1_ := Aside0.mk (below_step (by repeat first | (with_reducible first | exact HB.out | apply vA | apply vN | apply vD | refine vS ?_ GE903.out) | exact HB.out) hb); have n2_ := Aside0.mk (hbox); have n3_ := Aside0.mk ((by rw [hg]; exact (below_size (by repeat first | (with_reducible first | exact HB.out | apply vA | apply vN | apply vD | refine vS ?_ GE903.out) | exact HB.out)) : w.heap.size ≤ gb908)); have n4_ := n3_; have n5_ := zl BK903 hg rfl; have n6_ := zg BK903 hg rfl; clear BK903; clear HB; have BK903 := n0_; have HB := n1_; have BK908 := n2_; have GW908 := n3_; have GE908 := n4_; have NB903_908 := n5_; have NB908_903 := n6_; clear n0_ n1_ n2_ n3_ n4_ n5_ n6_; clear hb hbox hg; have hnb11 := NB908_903.out; have hnc11 := NB903_908.out; obtain ⟨hcz12_0, hcz12_1, hcz12_2, hcz12_3, hfz12_0, hfz12_1, hfz12_2, hfz12_3⟩ := zc4 BK908))
  (try simp only [Act.put, List.setIfInBounds_toArray, List.set_cons_zero, List.set_cons_succ])
  go_cut [20] (fun v20 wc => ∃ (kq : Nat) (x20_4 : Bool), v20 = .bool x20_4 ∧ Aside0 (laws_FnTidyIn.j0 kq x20_4 t899 t900 t901 t902 t904 t905 t906 t907 = some r) ∧ Aside0 (kq ≤ k) ∧ Aside0 (wc.heap[gb903]? = some (.cells #[.int .i64 t899, .int .i64 t900, .int .i64 t901, .int .i64 t902] 24 (0, 0))) ∧ Aside0 (wc.heap[gb908]? = some (.cells #[.int .i64 t904, .int .i64 t905, .int .i64 t906, .int .i64 t907] 24 (0, 0))) ∧ Aside0 (Below w.heap.size w wc))
  case first =>
   have H := HC5.out
   clear HC5
   replace H := Option.bind_eq_some_iff.mp H
   obtain ⟨⟨t909, t910, t911, t912⟩, A130, H⟩ := H
   try dsimp only at H
   have A13 := Aside0.mk A130
   clear A130
   by_cases c14 : (!(t904 == t909) || (!(t905 == t910) || (!(t906 == t911) || (!(t907 == t912))))) = true
   ·rw [if_pos c14] at H
    have c14b0 : (!(t904 == t909) || (!(t905 == t910) || (!(t906 == t911) || (!(t907 == t912))))) = true := c14
    clear c14
    (first | rw [c14b0] | (simp only [i64_w, i32_w]; rw [c14b0]) | skip)
    have H' := Aside0.mk H
    clear H
    try go_wp2
    have n0_ : Aside0 (((((w10.setCell ⟨gb908, 0, none⟩ (.int .i64 t904)).setCell ⟨gb908, 1, none⟩ (.int .i64 t905)).setCell ⟨gb908, 2, none⟩ (.int .i64 t906)).setCell ⟨gb908, 3, none⟩ (.int .i64 t907)).heap[gb903]? = some (.cells #[.int .i64 t899, .int .i64 t900, .int .i64 t901, .int .i64 t902] 24 (0, 0))) := ⟨by (with_reducible repeat first | apply bN | apply bD | apply bA); refine blk_far ?_ NB903_908.out _; (with_reducible repeat first | apply bN | apply bD | apply bA); refine blk_far ?_ NB903_908.out _; (with_reducible repeat first | apply bN | apply bD | apply bA); refine blk_far ?_ NB903_908.out _; (with_reducible repeat first | apply bN | apply bD | apply bA); refine blk_far ?_ NB903_908.out _; (with_reducible repeat first | apply bN | apply bD | apply bA); exact BK903.out⟩
    have n1_ : Aside0 (((((w10.setCell ⟨gb908, 0, none⟩ (.int .i64 t904)).setCell ⟨gb908, 1, none⟩ (.int .i64 t905)).setCell ⟨gb908, 2, none⟩ (.int .i64 t906)).setCell ⟨gb908, 3, none⟩ (.int .i64 t907)).heap[gb908]? = some (.cells #[.int .i64 t904, .int .i64 t905, .int .i64 t906, .int .i64 t907] 24 (0, 0))) := ⟨by (with_reducible repeat first | apply bN | apply bD | apply bA); refine blk_put (cs := #[.int .i64 t904, .int .i64 t905, .int .i64 t906, .int .i64 0]) ?_ 3 _ rfl; (with_reducible repeat first | apply bN | apply bD | apply bA); refine blk_put (cs := #[.int .i64 t904, .int .i64 t905, .int .i64 0, .int .i64 0]) ?_ 2 _ rfl; (with_reducible repeat first | apply bN | apply bD | apply bA); refine blk_put (cs := #[.int .i64 t904, .int .i64 0, .int .i64 0, .int .i64 0]) ?_ 1 _ rfl; (with_reducible repeat first | apply bN | apply bD | apply bA); refine blk_put (cs := #[.int .i64 0, .int .i64 0, .int .i64 0, .int .i64 0]) ?_ 0 _ rfl; (with_reducible repeat first | apply bN | apply bD | apply bA); exact BK908.out⟩
    have n2_ : Aside0 (Below w.heap.size w ((((w10.setCell ⟨gb908, 0, none⟩ (.int .i64 t904)).setCell ⟨gb908, 1, none⟩ (.int .i64 t905)).setCell ⟨gb908, 2, none⟩ (.int .i64 t906)).setCell ⟨gb908, 3, none⟩ (.int .i64 t907))) := ⟨by repeat first | (with_reducible first | exact HB.out | apply vA | apply vN | apply vD | refine vS ?_ GE903.out | refine vS ?_ GE908.out) | exact HB.out⟩
    (try clear BK903)
    (try clear BK908)
    (try clear HB)
    generalize ((((w10.setCell ⟨gb908, 0, none⟩ (.int .i64 t904)).setCell ⟨gb908, 1, none⟩ (.int .i64 t905)).setCell ⟨gb908, 2, none⟩ (.int .i64 t906)).setCell ⟨gb908, 3, none⟩ (.int .i64 t907)) = w15 at n0_ n1_ n2_ ⊢
    have BK903 := n0_
    have BK908 := n1_
    have HB := n2_
    clear n0_ n1_ n2_
    have n0_ := Aside0.mk (blk_drew BK903.out)
    have n1_ := Aside0.mk (blk_drew BK908.out)
    have n2_ := Aside0.mk (below_drew1 HB.out)
    clear BK903
    clear BK908
    clear HB
    have BK903 := n0_
    have BK908 := n1_
    have HB := n2_
    clear n0_ n1_ n2_
    refine start_ (n := 9) (S := fun w' => w'.cell? ⟨gb908, 0, none⟩ = some (.int .i64 t904) ∧ w'.cell? ⟨gb908, 1, none⟩ = some (.int .i64 t905) ∧ w'.cell? ⟨gb908, 2, none⟩ = some (.int .i64 t906) ∧ w'.cell? ⟨gb908, 3, none⟩ = some (.int .i64 t907) ∧ w'.cell? ⟨gb903, 0, none⟩ = some (.int .i64 t899) ∧ w'.cell? ⟨gb903, 1, none⟩ = some (.int .i64 t900) ∧ w'.cell? ⟨gb903, 2, none⟩ = some (.int .i64 t901) ∧ w'.cell? ⟨gb903, 3, none⟩ = some (.int .i64 t902)) (ds := []) #[false, false, false, false, false, false, false, false, false] (by kernel_rfl) rfl rfl ⟨(blk_cell BK908.out 0).trans rfl, (blk_cell BK908.out 1).trans rfl, (blk_cell BK908.out 2).trans rfl, (blk_cell BK908.out 3).trans rfl, (blk_cell BK903.out 0).trans rfl, (blk_cell BK903.out 1).trans rfl, (blk_cell BK903.out 2).trans rfl, (blk_cell BK903.out 3).trans rfl⟩ (fun hHeld => ?_); refine with_tabW laws_FnTidyIn.tab5 laws_FnTidyIn.bits5 (fun HT_ HW_ => ?_)
    generalize w15.drew = w16 at BK903 BK908 HB hHeld ⊢
    refine take_ (i := 0) (N := some 12) (v := ?_) (a' := ?_) #[true, false, false, false, false, false, false, false, false] rfl rfl (take_ofW HT_.out HW_.out (by kernel_rfl)) (fun _ _ _ h => h) (Or.inl ⟨by rfl, ?_⟩) hHeld ?_ ?_
    rotate_left
    ·rintro w' ⟨s0, s1, s2, s3, s4, s5, s6, s7⟩
     go_simp
     with_reducible rfl
    rotate_left
    ·simp only [Act.put, List.setIfInBounds_toArray, List.set_cons_zero, List.set_cons_succ, i64_w, i32_w]
     rfl
    refine take_ (i := 1) (N := some 13) (v := ?_) (a' := ?_) #[true, true, false, false, false, false, false, false, false] rfl rfl (take_ofW HT_.out HW_.out (by kernel_rfl)) (fun _ _ _ h => h) (Or.inl ⟨by rfl, ?_⟩) hHeld ?_ ?_
    rotate_left
    ·rintro w' ⟨s0, s1, s2, s3, s4, s5, s6, s7⟩
     go_simp
     with_reducible rfl
    rotate_left
    ·simp only [Act.put, List.setIfInBounds_toArray, List.set_cons_zero, List.set_cons_succ, i64_w, i32_w]
     rfl
    refine one_ (i := 2) (N := some 14) #[true, true, true, false, false, false, false, false, false] rfl rfl (one_of HT_.out (by kernel_rfl)) (by decide) (fun K hK => ?_)
    refine goes_ Try.func43 (by kernel_rfl) rfl #[.agg #[.int .i64 t899, .int .i64 t900, .int .i64 t901, .int .i64 t902]] (by rfl) rfl rfl (by (try simp only [List.map_toArray, List.map_cons, List.map_nil]); first | done | rfl | (simp only [List.length_drop, List.length_take]; rfl)) ?_
    with_reducible refine (spec_RangeTidy.calls k t899 t900 t901 t902 t909 t910 t911 t912 _ A13.out).mono ?_
    rintro e w17 ⟨rfl, hb⟩
    refine ⟨_, rfl, ?_⟩
    have n0_ := zb BK903 hb rfl
    have n1_ := zb BK908 hb rfl
    have n2_ := Aside0.mk (below_step (by repeat first | (with_reducible first | exact HB.out | apply vA | apply vN | apply vD | refine vS ?_ GE903.out | refine vS ?_ GE908.out) | exact HB.out) hb)
    clear BK903
    clear BK908
    clear HB
    have BK903 := n0_
    have BK908 := n1_
    have HB := n2_
    clear n0_ n1_ n2_
    (try clear hb)
    (try clear hb2)
    (try clear hk)
    (try clear hi)
    refine hK.out _ _ ⟨(blk_cell BK908.out 0).trans rfl, (blk_cell BK908.out 1).trans rfl, (blk_cell BK908.out 2).trans rfl, (blk_cell BK908.out 3).trans rfl, (blk_cell BK903.out 0).trans rfl, (blk_cell BK903.out 1).trans rfl, (blk_cell BK903.out 2).trans rfl, (blk_cell BK903.out 3).trans rfl⟩ (fun hHeld => ?_)
    clear hK K
    refine norm_ (a' := ?_) ?_ ?_
    rotate_left
    ·show Act.put _ (some 14) _ = _
     simp only [Act.put, List.setIfInBounds_toArray, List.set_cons_zero, List.set_cons_succ, i64_w, i32_w]
     rfl
    refine pure_ (i := 3) (N := some 15) (v := ?_) (a' := ?_) #[true, true, true, true, false, false, false, false, false] rfl rfl (any_of HT_.out (by kernel_rfl)) (fun _ _ _ h => h) (Or.inl ⟨by rfl, ?_⟩) ?_ ?_
    rotate_left
    ·intro w'
     go_simp
     with_reducible rfl
    rotate_left
    ·simp only [Act.put, List.setIfInBounds_toArray, List.set_cons_zero, List.set_cons_succ, i64_w, i32_w]
     rfl
    refine pure_ (i := 4) (N := some 16) (v := ?_) (a' := ?_) #[true, true, true, true, true, false, false, false, false] rfl rfl (any_of HT_.out (by kernel_rfl)) (fun _ _ _ h => h) (Or.inl ⟨by rfl, ?_⟩) ?_ ?_
    rotate_left
    ·intro w'
     go_simp
     with_reducible rfl
    rotate_left
    ·simp only [Act.put, List.setIfInBounds_toArray, List.set_cons_zero, List.set_cons_succ, i64_w, i32_w]
     rfl
    refine pure_ (i := 5) (N := some 17) (v := undef) (a' := ?_) #[true, true, true, true, true, true, false, false, false] rfl rfl (any_of HT_.out (by kernel_rfl)) (fun _ _ _ h => h) (Or.inr ⟨by rfl, rfl⟩) ?_ ?_
    rotate_left
    ·simp only [Act.put, List.setIfInBounds_toArray, List.set_cons_zero, List.set_cons_succ, i64_w, i32_w]
     rfl
    refine pure_ (i := 6) (N := some 18) (v := undef) (a' := ?_) #[true, true, true, true, true, true, true, false, false] rfl rfl (any_of HT_.out (by kernel_rfl)) (fun _ _ _ h => h) (Or.inr ⟨by rfl, rfl⟩) ?_ ?_
    rotate_left
    ·simp only [Act.put, List.setIfInBounds_toArray, List.set_cons_zero, List.set_cons_succ, i64_w, i32_w]
     rfl
    refine pure_ (i := 7) (N := some 19) (v := undef) (a' := ?_) #[true, true, true, true, true, true, true, true, false] rfl rfl (any_of HT_.out (by kernel_rfl)) (fun _ _ _ h => h) (Or.inr ⟨by rfl, rfl⟩) ?_ ?_
    rotate_left
    ·simp only [Act.put, List.setIfInBounds_toArray, List.set_cons_zero, List.set_cons_succ, i64_w, i32_w]
     rfl
    refine pure_ (i := 8) (N := some 20) (v := ?_) (a' := ?_) #[true, true, true, true, true, true, true, true, true] rfl rfl (any_of HT_.out (by kernel_rfl)) (fun _ _ _ h => h) (Or.inl ⟨by rfl, ?_⟩) ?_ ?_
    rotate_left
    ·intro w'
     go_simp
     with_reducible rfl
    rotate_left
    ·simp only [Act.put, List.setIfInBounds_toArray, List.set_cons_zero, List.set_cons_succ, i64_w, i32_w]
     rfl
    refine done_ (done_of HT_.out (by kernel_rfl)) ?_
    try go_wp2
    go_meet
    case rel => exact ⟨_, (true), (by first | rfl | (simp; done) | (simp [*]; done)), H', ⟨by first | omega | exact Nat.le_refl _⟩, ⟨by (with_reducible repeat first | apply bN | apply bD | apply bA); exact BK903.out⟩, ⟨by (with_reducible repeat first | apply bN | apply bD | apply bA); exact BK908.out⟩, ⟨by repeat first | (with_reducible first | exact HB.out | apply vA | apply vN | apply vD | refine vS ?_ GE903.out | refine vS ?_ GE908.out) | exact HB.out⟩⟩
   ·rw [if_neg c14] at H
    have c14b0 : (!(t904 == t909) || (!(t905 == t910) || (!(t906 == t911) || (!(t907 == t912))))) = false := by simpa using c14
    clear c14
    (first | rw [c14b0] | (simp only [i64_w, i32_w]; rw [c14b0]) | skip)
    replace H := Option.bind_eq_some_iff.mp H
    obtain ⟨t913, A180, H⟩ := H
    try dsimp only at H
    have A18 := Aside0.mk A180
    clear A180
    have H' := Aside0.mk H
    clear H
    try go_wp2
    have n0_ : Aside0 (((((w10.setCell ⟨gb908, 0, none⟩ (.int .i64 t904)).setCell ⟨gb908, 1, none⟩ (.int .i64 t905)).setCell ⟨gb908, 2, none⟩ (.int .i64 t906)).setCell ⟨gb908, 3, none⟩ (.int .i64 t907)).heap[gb903]? = some (.cells #[.int .i64 t899, .int .i64 t900, .int .i64 t901, .int .i64 t902] 24 (0, 0))) := ⟨by (with_reducible repeat first | apply bN | apply bD | apply bA); refine blk_far ?_ NB903_908.out _; (with_reducible repeat first | apply bN | apply bD | apply bA); refine blk_far ?_ NB903_908.out _; (with_reducible repeat first | apply bN | apply bD | apply bA); refine blk_far ?_ NB903_908.out _; (with_reducible repeat first | apply bN | apply bD | apply bA); refine blk_far ?_ NB903_908.out _; (with_reducible repeat first | apply bN | apply bD | apply bA); exact BK903.out⟩
    have n1_ : Aside0 (((((w10.setCell ⟨gb908, 0, none⟩ (.int .i64 t904)).setCell ⟨gb908, 1, none⟩ (.int .i64 t905)).setCell ⟨gb908, 2, none⟩ (.int .i64 t906)).setCell ⟨gb908, 3, none⟩ (.int .i64 t907)).heap[gb908]? = some (.cells #[.int .i64 t904, .int .i64 t905, .int .i64 t906, .int .i64 t907] 24 (0, 0))) := ⟨by (with_reducible repeat first | apply bN | apply bD | apply bA); refine blk_put (cs := #[.int .i64 t904, .int .i64 t905, .int .i64 t906, .int .i64 0]) ?_ 3 _ rfl; (with_reducible repeat first | apply bN | apply bD | apply bA); refine blk_put (cs := #[.int .i64 t904, .int .i64 t905, .int .i64 0, .int .i64 0]) ?_ 2 _ rfl; (with_reducible repeat first | apply bN | apply bD | apply bA); refine blk_put (cs := #[.int .i64 t904, .int .i64 0, .int .i64 0, .int .i64 0]) ?_ 1 _ rfl; (with_reducible repeat first | apply bN | apply bD | apply bA); refine blk_put (cs := #[.int .i64 0, .int .i64 0, .int .i64 0, .int .i64 0]) ?_ 0 _ rfl; (with_reducible repeat first | apply bN | apply bD | apply bA); exact BK908.out⟩
    have n2_ : Aside0 (Below w.heap.size w ((((w10.setCell ⟨gb908, 0, none⟩ (.int .i64 t904)).setCell ⟨gb908, 1, none⟩ (.int .i64 t905)).setCell ⟨gb908, 2, none⟩ (.int .i64 t906)).setCell ⟨gb908, 3, none⟩ (.int .i64 t907))) := ⟨by repeat first | (with_reducible first | exact HB.out | apply vA | apply vN | apply vD | refine vS ?_ GE903.out | refine vS ?_ GE908.out) | exact HB.out⟩
    (try clear BK903)
    (try clear BK908)
    (try clear HB)
    generalize ((((w10.setCell ⟨gb908, 0, none⟩ (.int .i64 t904)).setCell ⟨gb908, 1, none⟩ (.int .i64 t905)).setCell ⟨gb908, 2, none⟩ (.int .i64 t906)).setCell ⟨gb908, 3, none⟩ (.int .i64 t907)) = w19 at n0_ n1_ n2_ ⊢
    have BK903 := n0_
    have BK908 := n1_
    have HB := n2_
    clear n0_ n1_ n2_
    have n0_ := Aside0.mk (blk_drew BK903.out)
    have n1_ := Aside0.mk (blk_drew BK908.out)
    have n2_ := Aside0.mk (below_drew1 HB.out)
    clear BK903
    clear BK908
    clear HB
    have BK903 := n0_
    have BK908 := n1_
    have HB := n2_
    clear n0_ n1_ n2_
    refine start_ (n := 9) (S := fun w' => w'.cell? ⟨gb908, 0, none⟩ = some (.int .i64 t904) ∧ w'.cell? ⟨gb908, 1, none⟩ = some (.int .i64 t905) ∧ w'.cell? ⟨gb908, 2, none⟩ = some (.int .i64 t906) ∧ w'.cell? ⟨gb908, 3, none⟩ = some (.int .i64 t907) ∧ w'.cell? ⟨gb903, 0, none⟩ = some (.int .i64 t899) ∧ w'.cell? ⟨gb903, 1, none⟩ = some (.int .i64 t900) ∧ w'.cell? ⟨gb903, 2, none⟩ = some (.int .i64 t901) ∧ w'.cell? ⟨gb903, 3, none⟩ = some (.int .i64 t902)) (ds := []) #[false, false, false, false, false, false, false, false, false] (by kernel_rfl) rfl rfl ⟨(blk_cell BK908.out 0).trans rfl, (blk_cell BK908.out 1).trans rfl, (blk_cell BK908.out 2).trans rfl, (blk_cell BK908.out 3).trans rfl, (blk_cell BK903.out 0).trans rfl, (blk_cell BK903.out 1).trans rfl, (blk_cell BK903.out 2).trans rfl, (blk_cell BK903.out 3).trans rfl⟩ (fun hHeld => ?_); refine with_tabW laws_FnTidyIn.tab5 laws_FnTidyIn.bits5 (fun HT_ HW_ => ?_)
    generalize w19.drew = w20 at BK903 BK908 HB hHeld ⊢
    refine take_ (i := 0) (N := some 12) (v := ?_) (a' := ?_) #[true, false, false, false, false, false, false, false, false] rfl rfl (take_ofW HT_.out HW_.out (by kernel_rfl)) (fun _ _ _ h => h) (Or.inl ⟨by rfl, ?_⟩) hHeld ?_ ?_
    rotate_left
    ·rintro w' ⟨s0, s1, s2, s3, s4, s5, s6, s7⟩
     go_simp
     with_reducible rfl
    rotate_left
    ·simp only [Act.put, List.setIfInBounds_toArray, List.set_cons_zero, List.set_cons_succ, i64_w, i32_w]
     rfl
    refine take_ (i := 1) (N := some 13) (v := ?_) (a' := ?_) #[true, true, false, false, false, false, false, false, false] rfl rfl (take_ofW HT_.out HW_.out (by kernel_rfl)) (fun _ _ _ h => h) (Or.inl ⟨by rfl, ?_⟩) hHeld ?_ ?_
    rotate_left
    ·rintro w' ⟨s0, s1, s2, s3, s4, s5, s6, s7⟩
     go_simp
     with_reducible rfl
    rotate_left
    ·simp only [Act.put, List.setIfInBounds_toArray, List.set_cons_zero, List.set_cons_succ, i64_w, i32_w]
     rfl
    refine one_ (i := 2) (N := some 14) #[true, true, true, false, false, false, false, false, false] rfl rfl (one_of HT_.out (by kernel_rfl)) (by decide) (fun K hK => ?_)
    refine goes_ Try.func43 (by kernel_rfl) rfl #[.agg #[.int .i64 t899, .int .i64 t900, .int .i64 t901, .int .i64 t902]] (by rfl) rfl rfl (by (try simp only [List.map_toArray, List.map_cons, List.map_nil]); first | done | rfl | (simp only [List.length_drop, List.length_take]; rfl)) ?_
    with_reducible refine (spec_RangeTidy.calls k t899 t900 t901 t902 t909 t910 t911 t912 _ A13.out).mono ?_
    rintro e w21 ⟨rfl, hb⟩
    refine ⟨_, rfl, ?_⟩
    have n0_ := zb BK903 hb rfl
    have n1_ := zb BK908 hb rfl
    have n2_ := Aside0.mk (below_step (by repeat first | (with_reducible first | exact HB.out | apply vA | apply vN | apply vD | refine vS ?_ GE903.out | refine vS ?_ GE908.out) | exact HB.out) hb)
    clear BK903
    clear BK908
    clear HB
    have BK903 := n0_
    have BK908 := n1_
    have HB := n2_
    clear n0_ n1_ n2_
    (try clear hb)
    (try clear hb2)
    (try clear hk)
    (try clear hi)
    refine hK.out _ _ ⟨(blk_cell BK908.out 0).trans rfl, (blk_cell BK908.out 1).trans rfl, (blk_cell BK908.out 2).trans rfl, (blk_cell BK908.out 3).trans rfl, (blk_cell BK903.out 0).trans rfl, (blk_cell BK903.out 1).trans rfl, (blk_cell BK903.out 2).trans rfl, (blk_cell BK903.out 3).trans rfl⟩ (fun hHeld => ?_)
    clear hK K
    refine norm_ (a' := ?_) ?_ ?_
    rotate_left
    ·show Act.put _ (some 14) _ = _
     simp only [Act.put, List.setIfInBounds_toArray, List.set_cons_zero, List.set_cons_succ, i64_w, i32_w]
     rfl
    refine pure_ (i := 3) (N := some 15) (v := ?_) (a' := ?_) #[true, true, true, true, false, false, false, false, false] rfl rfl (any_of HT_.out (by kernel_rfl)) (fun _ _ _ h => h) (Or.inl ⟨by rfl, ?_⟩) ?_ ?_
    rotate_left
    ·intro w'
     go_simp
     with_reducible rfl
    rotate_left
    ·simp only [Act.put, List.setIfInBounds_toArray, List.set_cons_zero, List.set_cons_succ, i64_w, i32_w]
     rfl
    refine pure_ (i := 4) (N := some 16) (v := ?_) (a' := ?_) #[true, true, true, true, true, false, false, false, false] rfl rfl (any_of HT_.out (by kernel_rfl)) (fun _ _ _ h => h) (Or.inl ⟨by rfl, ?_⟩) ?_ ?_
    rotate_left
    ·intro w'
     go_simp
     with_reducible rfl
    rotate_left
    ·simp only [Act.put, List.setIfInBounds_toArray, List.set_cons_zero, List.set_cons_succ, i64_w, i32_w]
     rfl
    refine take_ (i := 5) (N := some 17) (v := ?_) (a' := ?_) #[true, true, true, true, true, true, false, false, false] rfl rfl (take_ofW HT_.out HW_.out (by kernel_rfl)) (fun _ _ _ h => h) (Or.inl ⟨by rfl, ?_⟩) hHeld ?_ ?_
    rotate_left
    ·rintro w' ⟨s0, s1, s2, s3, s4, s5, s6, s7⟩
     go_simp
     with_reducible rfl
    rotate_left
    ·simp only [Act.put, List.setIfInBounds_toArray, List.set_cons_zero, List.set_cons_succ, i64_w, i32_w]
     rfl
    refine one_ (i := 6) (N := some 18) #[true, true, true, true, true, true, true, false, false] rfl rfl (one_of HT_.out (by kernel_rfl)) (by decide) (fun K hK => ?_)
    refine goes_ Try.func35 (by kernel_rfl) rfl #[.agg #[.int .i64 t899, .int .i64 t900, .int .i64 t901, .int .i64 t902]] (by rfl) rfl rfl (by (try simp only [List.map_toArray, List.map_cons, List.map_nil]); first | done | rfl | (simp only [List.length_drop, List.length_take]; rfl)) ?_
    with_reducible refine (impl_RangeSome.calls k t899 t900 t901 t902 t913 _ A18.out).mono ?_
    rintro e w22 ⟨rfl, hb⟩
    refine ⟨_, rfl, ?_⟩
    have n0_ := zb BK903 hb rfl
    have n1_ := zb BK908 hb rfl
    have n2_ := Aside0.mk (below_step (by repeat first | (with_reducible first | exact HB.out | apply vA | apply vN | apply vD | refine vS ?_ GE903.out | refine vS ?_ GE908.out) | exact HB.out) hb)
    clear BK903
    clear BK908
    clear HB
    have BK903 := n0_
    have BK908 := n1_
    have HB := n2_
    clear n0_ n1_ n2_
    (try clear hb)
    (try clear hb2)
    (try clear hk)
    (try clear hi)
    refine hK.out _ _ ⟨(blk_cell BK908.out 0).trans rfl, (blk_cell BK908.out 1).trans rfl, (blk_cell BK908.out 2).trans rfl, (blk_cell BK908.out 3).trans rfl, (blk_cell BK903.out 0).trans rfl, (blk_cell BK903.out 1).trans rfl, (blk_cell BK903.out 2).trans rfl, (blk_cell BK903.out 3).trans rfl⟩ (fun hHeld => ?_)
    clear hK K
    refine norm_ (a' := ?_) ?_ ?_
    rotate_left
    ·show Act.put _ (some 18) _ = _
     simp only [Act.put, List.setIfInBounds_toArray, List.set_cons_zero, List.set_cons_succ, i64_w, i32_w]
     rfl
    refine pure_ (i := 7) (N := some 19) (v := ?_) (a' := ?_) #[true, true, true, true, true, true, true, true, false] rfl rfl (any_of HT_.out (by kernel_rfl)) (fun _ _ _ h => h) (Or.inl ⟨by rfl, ?_⟩) ?_ ?_
    rotate_left
    ·intro w'
     go_simp
     with_reducible rfl
    rotate_left
    ·simp only [Act.put, List.setIfInBounds_toArray, List.set_cons_zero, List.set_cons_succ, i64_w, i32_w]
     rfl
    refine pure_ (i := 8) (N := some 20) (v := ?_) (a' := ?_) #[true, true, true, true, true, true, true, true, true] rfl rfl (any_of HT_.out (by kernel_rfl)) (fun _ _ _ h => h) (Or.inl ⟨by rfl, ?_⟩) ?_ ?_
    rotate_left
    ·intro w'
     go_simp
     with_reducible rfl
    rotate_left
    ·simp only [Act.put, List.setIfInBounds_toArray, List.set_cons_zero, List.set_cons_succ, i64_w, i32_w]
     rfl
    refine done_ (done_of HT_.out (by kernel_rfl)) ?_
    try go_wp2
    go_meet
    case rel => exact ⟨_, (!t913), (by first | rfl | (simp; done) | (simp [*]; done)), H', ⟨by first | omega | exact Nat.le_refl _⟩, ⟨by (with_reducible repeat first | apply bN | apply bD | apply bA); exact BK903.out⟩, ⟨by (with_reducible repeat first | apply bN | apply bD | apply bA); exact BK908.out⟩, ⟨by repeat first | (with_reducible first | exact HB.out | apply vA | apply vN | apply vD | refine vS ?_ GE903.out | refine vS ?_ GE908.out) | exact HB.out⟩⟩
  case rest =>
   clear HC5
   try clear c1
   try clear c2
   try clear c2b0
   try clear c2b1
   try clear p2
   try clear c3
   try clear c4
   try clear c11
   try clear c14
   try clear c14b0
   try clear hcz12_0
   try clear hcz12_1
   try clear hcz12_2
   try clear hcz12_3
   try clear hcz8_0
   try clear hcz8_1
   try clear hcz8_2
   try clear hcz8_3
   try clear hfz12_0
   try clear hfz12_1
   try clear hfz12_2
   try clear hfz12_3
   try clear hfz8_0
   try clear hfz8_1
   try clear hfz8_2
   try clear hfz8_3
   obtain ⟨kq, x20_4, rfl, HA, HJ4, BK903, BK908, HB⟩ := hcut
   cases kq with
   | zero => exact absurd HA.out (by simp [laws_FnTidyIn.j0])
   | succ kj4 =>
    have H := HA.out
    clear HA
    simp only [laws_FnTidyIn.j0] at H
    by_cases c23 : x20_4 = true
    ·subst c23
     rw [if_pos rfl] at H
     replace H := Option.bind_eq_some_iff.mp H
     obtain ⟨⟨t914, t915, t916, t917⟩, A240, H⟩ := H
     try dsimp only at H
     have A24 := Aside0.mk A240
     clear A240
     obtain rfl := Option.some.inj H
     try go_wp2
     have n0_ := Aside0.mk (blk_drew BK903.out)
     have n1_ := Aside0.mk (blk_drew BK908.out)
     have n2_ := Aside0.mk (below_drew1 HB.out)
     clear BK903
     clear BK908
     clear HB
     have BK903 := n0_
     have BK908 := n1_
     have HB := n2_
     clear n0_ n1_ n2_
     refine start_ (n := 5) (S := fun w' => w'.cell? ⟨gb908, 0, none⟩ = some (.int .i64 t904) ∧ w'.cell? ⟨gb908, 1, none⟩ = some (.int .i64 t905) ∧ w'.cell? ⟨gb908, 2, none⟩ = some (.int .i64 t906) ∧ w'.cell? ⟨gb908, 3, none⟩ = some (.int .i64 t907) ∧ w'.cell? ⟨gb903, 0, none⟩ = some (.int .i64 t899) ∧ w'.cell? ⟨gb903, 1, none⟩ = some (.int .i64 t900) ∧ w'.cell? ⟨gb903, 2, none⟩ = some (.int .i64 t901) ∧ w'.cell? ⟨gb903, 3, none⟩ = some (.int .i64 t902)) (ds := []) #[false, false, false, false, false] (by kernel_rfl) rfl rfl ⟨(blk_cell BK908.out 0).trans rfl, (blk_cell BK908.out 1).trans rfl, (blk_cell BK908.out 2).trans rfl, (blk_cell BK908.out 3).trans rfl, (blk_cell BK903.out 0).trans rfl, (blk_cell BK903.out 1).trans rfl, (blk_cell BK903.out 2).trans rfl, (blk_cell BK903.out 3).trans rfl⟩ (fun hHeld => ?_)
     generalize wc.drew = w25 at BK903 BK908 HB hHeld ⊢
     refine take_ (i := 0) (N := some 21) (v := ?_) (a' := ?_) #[true, false, false, false, false] rfl rfl (by kernel_rfl) (fun _ _ _ h => h) (Or.inl ⟨by rfl, ?_⟩) hHeld ?_ ?_
     rotate_left
     ·rintro w' ⟨s0, s1, s2, s3, s4, s5, s6, s7⟩
      go_simp
      with_reducible rfl
     rotate_left
     ·simp only [Act.put, List.setIfInBounds_toArray, List.set_cons_zero, List.set_cons_succ, i64_w, i32_w]
      rfl
     refine take_ (i := 1) (N := some 22) (v := ?_) (a' := ?_) #[true, true, false, false, false] rfl rfl (by kernel_rfl) (fun _ _ _ h => h) (Or.inl ⟨by rfl, ?_⟩) hHeld ?_ ?_
     rotate_left
     ·rintro w' ⟨s0, s1, s2, s3, s4, s5, s6, s7⟩
      go_simp
      with_reducible rfl
     rotate_left
     ·simp only [Act.put, List.setIfInBounds_toArray, List.set_cons_zero, List.set_cons_succ, i64_w, i32_w]
      rfl
     refine one_ (i := 2) (N := some 23) #[true, true, true, false, false] rfl rfl (by kernel_rfl) (by decide) (fun K hK => ?_)
     refine goes_ Try.func43 (by kernel_rfl) rfl #[.agg #[.int .i64 t899, .int .i64 t900, .int .i64 t901, .int .i64 t902]] (by rfl) rfl rfl (by (try simp only [List.map_toArray, List.map_cons, List.map_nil]); first | done | rfl | (simp only [List.length_drop, List.length_take]; rfl)) ?_
     with_reducible refine (spec_RangeTidy.calls kj4 t899 t900 t901 t902 t914 t915 t916 t917 _ A24.out).mono ?_
     rintro e w26 ⟨rfl, hb⟩
     refine ⟨_, rfl, ?_⟩
     have n0_ := zb BK903 hb rfl
     have n1_ := zb BK908 hb rfl
     have n2_ := Aside0.mk (below_step (by repeat first | (with_reducible first | exact HB.out | apply vA | apply vN | apply vD | refine vS ?_ GE903.out | refine vS ?_ GE908.out) | exact HB.out) hb)
     clear BK903
     clear BK908
     clear HB
     have BK903 := n0_
     have BK908 := n1_
     have HB := n2_
     clear n0_ n1_ n2_
     (try clear hb)
     (try clear hb2)
     (try clear hk)
     (try clear hi)
     refine hK.out _ _ ⟨(blk_cell BK908.out 0).trans rfl, (blk_cell BK908.out 1).trans rfl, (blk_cell BK908.out 2).trans rfl, (blk_cell BK908.out 3).trans rfl, (blk_cell BK903.out 0).trans rfl, (blk_cell BK903.out 1).trans rfl, (blk_cell BK903.out 2).trans rfl, (blk_cell BK903.out 3).trans rfl⟩ (fun hHeld => ?_)
     clear hK K
     refine norm_ (a' := ?_) ?_ ?_
     rotate_left
     ·show Act.put _ (some 23) _ = _
      simp only [Act.put, List.setIfInBounds_toArray, List.set_cons_zero, List.set_cons_succ, i64_w, i32_w]
      rfl
     refine pure_ (i := 3) (N := some 24) (v := ?_) (a' := ?_) #[true, true, true, true, false] rfl rfl (by kernel_rfl) (fun _ _ _ h => h) (Or.inl ⟨by rfl, ?_⟩) ?_ ?_
     rotate_left
     ·intro w'
      go_simp
      with_reducible rfl
     rotate_left
     ·simp only [Act.put, List.setIfInBounds_toArray, List.set_cons_zero, List.set_cons_succ, i64_w, i32_w]
      rfl
     refine pure_ (i := 4) (N := some 2) (v := ?_) (a' := ?_) #[true, true, true, true, true] rfl rfl (by kernel_rfl) (fun _ _ _ h => h) (Or.inl ⟨by rfl, ?_⟩) ?_ ?_
     rotate_left
     ·intro w'
      go_simp
      with_reducible rfl
     rotate_left
     ·simp only [Act.put, List.setIfInBounds_toArray, List.set_cons_zero, List.set_cons_succ, i64_w, i32_w]
      rfl
     refine done_ (by kernel_rfl) ?_
     try go_wp2
     go_ret
     exact ⟨by first | rfl | (simp [errW_none, errW_some] <;> rfl) | (simp [*, errW_none, errW_some] <;> rfl), by repeat first | (with_reducible first | exact HB.out | apply vA | apply vN | apply vD | refine vS ?_ GE903.out | refine vS ?_ GE908.out) | exact HB.out⟩
    ·replace c23 := Bool.eq_false_iff.mpr c23
     subst c23
     rw [if_neg (show ¬ (false = true) by decide)] at H
     replace H := Option.bind_eq_some_iff.mp H
     obtain ⟨t918, A270, H⟩ := H
     try dsimp only at H
     have A27 := Aside0.mk A270
     clear A270
     obtain rfl := Option.some.inj H
     have hnb28 := NB908_903.out
     have hnc28 := NB903_908.out
     obtain ⟨hcz29_0, hcz29_1, hcz29_2, hcz29_3, hfz29_0, hfz29_1, hfz29_2, hfz29_3⟩ := zc4 BK908
     obtain ⟨hcz30_0, hcz30_1, hcz30_2, hcz30_3, hfz30_0, hfz30_1, hfz30_2, hfz30_3⟩ := zc4 BK903
     go_wp2_with (first | ((with_reducible refine gate_callee (f := 40) rfl ?_); refine goesL_ (some 27) rfl rfl Try.func40 (by kernel_rfl) rfl #[.agg #[.int .i64 t904, .int .i64 t905, .int .i64 t906, .int .i64 t907], .agg #[.int .i64 t899, .int .i64 t900, .int .i64 t901, .int .i64 t902]] rfl (by (try simp only [List.map_toArray, List.map_cons, List.map_nil]); first | done | rfl | (simp only [List.length_drop, List.length_take]; rfl)) ?_; (with_reducible refine (impl_RangeIn.calls kj4 t904 t905 t906 t907 t899 t900 t901 t902 t918 _ A27.out).mono ?_); rintro e w31 ⟨rfl, hb⟩; refine ⟨_, rfl, ?_⟩; have n0_ := zb BK903 hb rfl; have n1_ := zb BK908 hb rfl; have n2_ := Aside0.mk (below_step (by repeat first | (with_reducible first | exact HB.out | apply vA | apply vN | apply vD | refine vS ?_ GE903.out | refine vS ?_ GE908.out) | exact HB.out) hb); clear BK903; clear BK908; clear HB; have BK903 := n0_; have BK908 := n1_; have HB := n2_; clear n0_ n1_ n2_; (try clear hb); (try clear hb2); (try clear hk); (try clear hi)))
     go_ret
     exact ⟨by first | rfl | (simp [errW_none, errW_some] <;> rfl) | (simp [*, errW_none, errW_some] <;> rfl), by repeat first | (with_reducible first | exact HB.out | apply vA | apply vN | apply vD | refine vS ?_ GE903.out | refine vS ?_ GE908.out) | exact HB.out⟩

/-- THE ONE PURE STATEMENT of laws_FnTidyIn: yours. -/
def laws_FnTidyIn.Pure : Prop := ∀ (l0 : List Int), l0.length ≤ maxLen → l0.length * 1 ≤ 140737488351232 → (∀ x ∈ l0, (Lit.int .u8 x).wf = true) → ∃ k, laws_FnTidyIn.f k l0 = some true
theorem laws_FnTidyIn.walk (P : laws_FnTidyIn.Pure) (a0 : Option Addr) (len0 cap0 : Nat) (z0 : List Int) (w : World) (w0 : (a0 = none ∧ len0 = 0 ∧ cap0 = 0 ∧ z0 = []) ∨ ∃ x, a0 = some x ∧ len0 ≤ cap0 ∧ cap0 ≤ maxLen ∧ z0.length = cap0 ∧ (∀ i, i < z0.length → w.cell? (x.add i) = some (.int .u8 (z0.getD i 0))) ∧ ∀ n ∈ z0, (Lit.int .u8 n).wf = true) (y0 : len0 * 1 ≤ 140737488351232) :
  Calls Try.prog 11 #[.slice a0 len0 cap0] w fun e w' => e = .returned (.bool true) ∧ Below w.heap.size w w' := by
 obtain ⟨l0, rfl, hr0, hm0, hw0, hc0⟩ := ReadsInt.ofRowC w0
 obtain ⟨k, h⟩ := P l0 hm0 y0 hw0
 refine (laws_FnTidyIn.calls k _ _ l0 true w (Kd.C_of_reads (d := (0 : Int)) (h1 := fun _ => rfl) hr0) hc0 h).mono ?_
 rintro e w' ⟨rfl, hd⟩
 exact ⟨rfl, hd⟩

end Go.Proofs.Ytabencccbmjnbaa.Q
