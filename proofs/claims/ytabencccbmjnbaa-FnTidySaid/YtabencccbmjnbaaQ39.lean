/- The machine's side of this seat's laws: Go functions as Lean functions, and their contracts. By a program of this work over the kit's print. -/
import Derived.Test.YtabencccbmjnbaaQ0
import Derived.Test.YtabencccbmjnbaaQ1
import Derived.Test.YtabencccbmjnbaaQ4
import Derived.Test.YtabencccbmjnbaaQ20
import Derived.Test.YtabencccbmjnbaaQ26
import Derived.Test.YtabencccbmjnbaaQ30
import Derived.Test.YtabencccbmjnbaaQ31
import Derived.Test.YtabencccbmjnbaaQ37
namespace Go.Proofs.Ytabencccbmjnbaa.Q
open Go.RowKit Go.Proofs.YtabencccbmjnbaaW.PrintWords Go.Proofs.YtabencccbmjnbaaW.PrintLast Go.Proofs.YtabencccbmjnbaaW.PrintMore
attribute [local go_sem] max2_int min2_int max_two min_two max_three min_three max_four min_four Go.Proofs.YtabencccbmjnbaaN.not_i64   -- for this text's walks alone
set_option linter.unusedVariables false
set_option linter.unusedSimpArgs false

attribute [local go_sem high] eqA24
/-! ### laws_FnTidy: function 12 -/
mutual
def laws_FnTidy.j0 : Nat → List Int → List Int → Bool → Option (Bool)
 | 0, _, _, _ => none
 | k + 1, x0, x1, x16 => if x16 = true then (some true) else ((spec_DrawRangeTidy.f k x0).bind fun bt919 => ((impl_RangeTidy.f k bt919.1 bt919.2.1 bt919.2.2.1 bt919.2.2.2).bind fun bt924 => ((spec_RangeTidy.f k bt919.1 bt919.2.1 bt919.2.2.1 bt919.2.2.2).bind fun bt929 => (if (!(bt924.1 == bt929.1) || (!(bt924.2.1 == bt929.2.1) || (!(bt924.2.2.1 == bt929.2.2.1) || (!(bt924.2.2.2 == bt929.2.2.2))))) = true then (laws_FnTidy.j1 k x1 true bt919.1 bt919.2.1 bt919.2.2.1 bt919.2.2.2 bt924.1 bt924.2.1 bt924.2.2.1 bt924.2.2.2) else ((impl_RangeOk.f bt919.1 bt919.2.1 bt919.2.2.1 bt919.2.2.2).bind fun t933 => (if t933 = true then ((impl_RangeSome.f k bt919.1 bt919.2.1 bt919.2.2.1 bt919.2.2.2).bind fun t934 => (laws_FnTidy.j1 k x1 (!t934) bt919.1 bt919.2.1 bt919.2.2.1 bt919.2.2.2 bt924.1 bt924.2.1 bt924.2.2.1 bt924.2.2.2)) else (laws_FnTidy.j1 k x1 true bt919.1 bt919.2.1 bt919.2.2.1 bt919.2.2.2 bt924.1 bt924.2.1 bt924.2.2.1 bt924.2.2.2)))))))
def laws_FnTidy.j1 : Nat → List Int → Bool → Int → Int → Int → Int → Int → Int → Int → Int → Option (Bool)
 | 0, _, _, _, _, _, _, _, _, _, _ => none
 | k + 1, x1, x34, x924000, x924001, x924002, x924003, x929000, x929001, x929002, x929003 => if x34 = true then ((spec_RangeTidy.f k x924000 x924001 x924002 x924003).bind fun bt935 => (some (x929000 == bt935.1 && (x929001 == bt935.2.1 && (x929002 == bt935.2.2.1 && (x929003 == bt935.2.2.2)))))) else ((spec_DrawRangeHas.f k x1).bind fun bt939 => ((impl_RangeOk.f x929000 x929001 x929002 x929003).bind fun t945 => (if t945 = true then ((impl_RangeHas.f x929000 x929001 x929002 x929003 bt939.2.2.2.2).bind fun t946 => ((impl_RangeHas.f x924000 x924001 x924002 x924003 bt939.2.2.2.2).bind fun t947 => (if (t946 == t947) = true then ((impl_RangeLeast.f k x929000 x929001 x929002 x929003).bind fun t948 => ((impl_RangeLeast.f k x924000 x924001 x924002 x924003).bind fun t949 => (if t948 = t949 then (if x929000 ≥ x924000 then (if x929001 ≤ x924001 then (some ((Go.bits .and .i64 x929003 x924003) == x929003)) else (none)) else (none)) else (none)))) else (none)))) else (none))))
end
def laws_FnTidy.f (k : Nat) (l0 : List Int) (l1 : List Int) : Option (Bool) := if (l0.length : Int) > 1048576 then (laws_FnTidy.j0 k l0 l1 true) else (laws_FnTidy.j0 k l0 l1 (decide ((l1.length : Int) > 1048576)))


def laws_FnTidy.T5 : Bool × List (List Nat × List Nat) := (true, [([], []), ([], []), ([1], [1]), ([0, 2], [0, 2]), ([3, 2], [3]), ([4], [4]), ([5, 4, 4], [4, 5]), ([6, 4], [4, 6]), ([4, 7], [4, 7]), ([8, 6], [8]), ([9], [9]), ([10, 9, 9], [9, 10]), ([11, 9], [9, 11]), ([9, 12], [9, 12])])
def laws_FnTidy.B5 : List Nat := [0, 0, 2, 7, 15, 31, 63, 127, 255, 511, 1023, 2047, 4095, 8191]
theorem laws_FnTidy.tab5 : rtab .any (opsOf Try.f12 5) = laws_FnTidy.T5 := by kernel_rfl
theorem laws_FnTidy.bits5 : waitsOk laws_FnTidy.T5.2 laws_FnTidy.B5 = true := by kernel_rfl
def laws_FnTidy.T8 : Bool × List (List Nat × List Nat) := (true, [([], []), ([0], [0]), ([1, 1], [1]), ([2], [2]), ([2], [2]), ([3, 4, 2, 2], [2, 3, 4]), ([2], [2]), ([2], [2]), ([6, 7, 5, 2], [2, 6, 7]), ([5, 8, 2], [2, 5, 8]), ([2, 9], [2, 9]), ([10, 8], [10]), ([11], [11]), ([12, 11, 11], [11, 12]), ([11], [11]), ([14, 13, 11], [11, 14]), ([13, 15, 11], [11, 13, 15]), ([11, 16], [11, 16]), ([17, 15], [17]), ([18], [18]), ([19, 18], [18, 19]), ([18], [18]), ([21, 18], [18, 21]), ([20, 22, 18], [18, 20, 22]), ([18, 23], [18, 23]), ([24, 18], [24]), ([25], [25]), ([26, 25], [25, 26]), ([25], [25]), ([28, 25], [25, 28]), ([27, 29, 25], [25, 27, 29]), ([25, 30], [25, 30]), ([31, 25], [31]), ([32], [32]), ([33, 32], [32, 33]), ([32], [32]), ([35, 32], [32, 35]), ([34, 36, 32], [32, 34, 36]), ([32], [32]), ([38, 32], [32, 38]), ([37, 39, 32], [32, 37, 39]), ([32, 40], [32, 40]), ([41, 32, 0, 1, 2, 3, 4, 5, 6, 7, 8, 9, 10, 11, 12, 13, 14, 15, 16, 17, 18, 19, 20, 21, 22, 23, 24, 25, 26, 27, 28, 29, 30, 31, 32, 33, 34, 35, 36, 37, 38, 39, 40, 41], [41])])
def laws_FnTidy.B8 : List Nat := [0, 1, 3, 7, 7, 31, 7, 7, 255, 511, 1023, 2047, 4095, 8191, 4095, 32767, 65535, 131071, 262143, 524287, 1048575, 524287, 2621439, 8388607, 16777215, 33554431, 67108863, 134217727, 67108863, 335544319, 1073741823, 2147483647, 4294967295, 8589934591, 17179869183, 8589934591, 42949672959, 137438953471, 8589934591, 283467841535, 1099511627775, 2199023255551, 4398046511103]
theorem laws_FnTidy.tab8 : rtab .any (opsOf Try.f12 8) = laws_FnTidy.T8 := by kernel_rfl
theorem laws_FnTidy.bits8 : waitsOk laws_FnTidy.T8.2 laws_FnTidy.B8 = true := by kernel_rfl
set_option maxHeartbeats 8000000 in
set_option maxRecDepth 100000 in
theorem laws_FnTidy.calls (k : Nat) (A0 : Option Addr) (c0 : Nat) (l0 : List Int) (A1 : Option Addr) (c1 : Nat) (l1 : List Int) (r : Bool) (w : World) (hr0 : Kd.C (Kd.int .u8) w A0 l0.length l0) (hc0 : l0.length ≤ c0) (hr1 : Kd.C (Kd.int .u8) w A1 l1.length l1) (hc1 : l1.length ≤ c1) (h : laws_FnTidy.f k l0 l1 = some r) :
  Calls Try.prog 12 #[.slice A0 l0.length c0, .slice A1 l1.length c1] w fun e w' => e = .returned (.bool r) ∧ Below w.heap.size w w' := by
 have hu24 := Try.underlying24
 have HR0 := Aside0.mk hr0
 have HC0 := Aside0.mk hc0
 clear hr0 hc0
 have HR1 := Aside0.mk hr1
 have HC1 := Aside0.mk hc1
 clear hr1 hc1
 have HB := Aside0.mk (Below.refl w.heap.size w)
 have H : (if (l0.length : Int) > 1048576 then (laws_FnTidy.j0 k l0 l1 true) else (laws_FnTidy.j0 k l0 l1 (decide ((l1.length : Int) > 1048576)))) = some r := h
 clear h
 have HC3 := Aside0.mk H
 clear H
 go_enter Try.func12, Try.ntmps12
 go_upto_region 1 with (fail)
 go_cut [16] (fun v16 wc => ∃ (kq : Nat) (x16_2 : Bool), v16 = .bool x16_2 ∧ Aside0 (laws_FnTidy.j0 kq l0 l1 x16_2 = some r) ∧ Aside0 (kq ≤ k) ∧ Aside0 (Below w.heap.size w wc))
 case first =>
  have H := HC3.out
  clear HC3
  by_cases c4 : (l0.length : Int) > 1048576
  ·rw [if_pos c4] at H
   have c4b0 : decide (1048576 < (l0.length : Int)) = true := decide_eq_true c4
   have c4b1 : decide (1048576 < l0.length) = true := decide_eq_true (by omega)
   clear c4
   (first | rw [c4b0] | (simp only [i64_w, i32_w]; rw [c4b0]) | skip)
   have H' := Aside0.mk H
   clear H
   go_wp2
   go_meet
   case rel => exact ⟨_, (true), (by first | rfl | (simp; done) | (simp [*]; done)), H', ⟨by first | omega | exact Nat.le_refl _⟩, ⟨by repeat first | (with_reducible first | exact HB.out | apply vA | apply vN | apply vD) | exact HB.out⟩⟩
  ·rw [if_neg c4] at H
   have c4b0 : decide (1048576 < (l0.length : Int)) = false := decide_eq_false c4
   have c4b1 : decide (1048576 < l0.length) = false := decide_eq_false (by omega)
   clear c4
   (first | rw [c4b0] | (simp only [i64_w, i32_w]; rw [c4b0]) | skip)
   have H' := Aside0.mk H
   clear H
   go_wp2
   go_meet
   case rel => exact ⟨_, (decide ((l1.length : Int) > 1048576)), (by first | rfl | (simp; done) | (simp [*]; done)), H', ⟨by first | omega | exact Nat.le_refl _⟩, ⟨by repeat first | (with_reducible first | exact HB.out | apply vA | apply vN | apply vD) | exact HB.out⟩⟩
 case rest =>
  clear HC3
  try clear c1
  try clear p2
  try clear c4
  try clear c4b0
  try clear c4b1
  obtain ⟨kq, x16_2, rfl, HA, HJ2, HB⟩ := hcut
  cases kq with
  | zero => exact absurd HA.out (by simp [laws_FnTidy.j0])
  | succ kj2 =>
   have H := HA.out
   clear HA
   simp only [laws_FnTidy.j0] at H
   by_cases c5 : x16_2 = true
   ·subst c5
    rw [if_pos rfl] at H
    obtain rfl := Option.some.inj H
    go_wp2
    go_ret
    exact ⟨by first | rfl | (simp [errW_none, errW_some] <;> rfl) | (simp [*, errW_none, errW_some] <;> rfl), by repeat first | (with_reducible first | exact HB.out | apply vA | apply vN | apply vD) | exact HB.out⟩
   ·replace c5 := Bool.eq_false_iff.mpr c5
    subst c5
    rw [if_neg (show ¬ (false = true) by decide)] at H
    replace H := Option.bind_eq_some_iff.mp H
    obtain ⟨⟨t919, t920, t921, t922⟩, A60, H⟩ := H
    try dsimp only at H
    have A6 := Aside0.mk A60
    clear A60
    replace H := Option.bind_eq_some_iff.mp H
    obtain ⟨⟨t924, t925, t926, t927⟩, A70, H⟩ := H
    try dsimp only at H
    have A7 := Aside0.mk A70
    clear A70
    have HC8 := Aside0.mk H
    clear H
    go_upto_region 5 with (first | ((with_reducible refine gate_callee (f := 42) rfl ?_); refine goesL_ (some 18) rfl rfl Try.func42 (by kernel_rfl) rfl #[.slice A0 l0.length c0] rfl (by (try simp only [List.map_toArray, List.map_cons, List.map_nil]); first | done | rfl | (simp only [List.length_drop, List.length_take]; rfl)) ?_; (with_reducible refine (spec_DrawRangeTidy.calls kj2 _ _ l0 t919 t920 t921 t922 _ ?side1 ?side2 A6.out).mono ?_); (case side1 => repeat (first | exact (Kd.C_below HR0.out HB.out) | (with_reducible refine Kd.C_alloc ?_ _) | (with_reducible refine Kd.C_drewN ?_ _) | (with_reducible refine Kd.C_drew ?_))); (case side2 => exact HC0.out); rintro e w9 ⟨rfl, hb⟩; refine ⟨_, rfl, ?_⟩; have n0_ := Aside0.mk (below_step (by repeat first | (with_reducible first | exact HB.out | apply vA | apply vN | apply vD) | exact HB.out) hb); clear HB; have HB := n0_; clear n0_; (try clear hb); (try clear hb2); (try clear hk); (try clear hi)) | ((with_reducible refine gate_dst (N := 5) rfl ?_); (try (refine gate_guard (by rfl) ?_; dsimp only)); refine box_event ?hg (N := 5) ?hd (cs := #[.int .i64 0, .int .i64 0, .int .i64 0, .int .i64 0]) (t := 24) ?hr ?_; (case hd => rfl); (case hg => rfl); (case hr => first | (go_simp; done) | (go_simp; rfl)); intro gb923 hg w10 hbox hb; have n0_ := Aside0.mk (below_step (by repeat first | (with_reducible first | exact HB.out | apply vA | apply vN | apply vD) | exact HB.out) hb); have n1_ := Aside0.mk (hbox); have n2_ := Aside0.mk ((by rw [hg]; exact (below_size (by repeat first | (with_reducible first | exact HB.out | apply vA | apply vN | apply vD) | exact HB.out)) : w.heap.size ≤ gb923)); have n3_ := n2_; clear HB; have HB := n0_; have BK923 := n1_; have GW923 := n2_; have GE923 := n3_; clear n0_ n1_ n2_ n3_; clear hb hbox hg; obtain ⟨hcz11_0, hcz11_1, hcz11_2, hcz11_3, hfz11_0, hfz11_1, hfz11_2, hfz11_3⟩ := zc4 BK923) | ((with_reducible refine gate_callee (f := 31) rfl ?_); refine goesL_ (some 20) rfl rfl Try.func31 (by kernel_rfl) rfl #[.agg #[.int .i64 t919, .int .i64 t920, .int .i64 t921, .int .i64 t922]] rfl (by (try simp only [List.map_toArray, List.map_cons, List.map_nil]); first | done | rfl | (simp only [List.length_drop, List.length_take]; rfl)) ?_; (with_reducible refine (impl_RangeTidy.calls kj2 t919 t920 t921 t922 t924 t925 t926 t927 _ A7.out).mono ?_); rintro e w12 ⟨rfl, hb⟩; refine ⟨_, rfl, ?_⟩; have n0_ := Aside0.mk (blk_below (g := gb923) (o := .cells #[.int .i64 t919, .int .i64 t920, .int .i64 t921, .int .i64 t922] 24 (0, 0)) (by (with_reducible repeat first | apply bN | apply bD | apply bA); refine blk_put (cs := #[.int .i64 t919, .int .i64 t920, .int .i64 t921, .int .i64 0]) ?_ 3 _ rfl; (with_reducible repeat first | apply bN | apply bD | apply bA); refine blk_put (cs := #[.int .i64 t919, .int .i64 t920, .int .i64 0, .int .i64 0]) ?_ 2 _ rfl; (with_reducible repeat first | apply bN | apply bD | apply bA); refine blk_put (cs := #[.int .i64 t919, .int .i64 0, .int .i64 0, .int .i64 0]) ?_ 1 _ rfl; (with_reducible repeat first | apply bN | apply bD | apply bA); refine blk_put (cs := #[.int .i64 0, .int .i64 0, .int .i64 0, .int .i64 0]) ?_ 0 _ rfl; (with_reducible repeat first | apply bN | apply bD | apply bA); exact BK923.out) hb); have n1_ := Aside0.mk (below_step (by repeat first | (with_reducible first | exact HB.out | apply vA | apply vN | apply vD | refine vS ?_ GE923.out) | exact HB.out) hb); clear BK923; clear HB; have BK923 := n0_; have HB := n1_; clear n0_ n1_; (try clear hb); (try clear hb2); (try clear hk); (try clear hi)) | ((with_reducible refine gate_dst (N := 6) rfl ?_); (try (refine gate_guard (by rfl) ?_; dsimp only)); refine box_event ?hg (N := 6) ?hd (cs := #[.int .i64 0, .int .i64 0, .int .i64 0, .int .i64 0]) (t := 24) ?hr ?_; (case hd => rfl); (case hg => rfl); (case hr => first | (go_simp; done) | (go_simp; rfl)); intro gb928 hg w13 hbox hb; have n0_ := zb BK923 hb rfl; have n1_ := Aside0.mk (below_step (by repeat first | (with_reducible first | exact HB.out | apply vA | apply vN | apply vD | refine vS ?_ GE923.out) | exact HB.out) hb); have n2_ := Aside0.mk (hbox); have n3_ := Aside0.mk ((by rw [hg]; exact (below_size (by repeat first | (with_reducible first | exact HB.out | apply vA | apply vN | apply vD | refine vS ?_ GE923.out) | exact HB.out)) : w.heap.size ≤ gb928)); have n4_ := n3_; have n5_ := zl BK923 hg rfl; have n6_ := zg BK923 hg rfl; clear BK923; clear HB; have BK923 := n0_; have HB := n1_; have BK928 := n2_; have GW928 := n3_; have GE928 := n4_; have NB923_928 := n5_; have NB928_923 := n6_; clear n0_ n1_ n2_ n3_ n4_ n5_ n6_; clear hb hbox hg; have hnb14 := NB928_923.out; have hnc14 := NB923_928.out; obtain ⟨hcz15_0, hcz15_1, hcz15_2, hcz15_3, hfz15_0, hfz15_1, hfz15_2, hfz15_3⟩ := zc4 BK928))
    (try simp only [Act.put, List.setIfInBounds_toArray, List.set_cons_zero, List.set_cons_succ])
    go_cut [34] (fun v34 wc => ∃ (kq : Nat) (x34_7 : Bool), v34 = .bool x34_7 ∧ Aside0 (laws_FnTidy.j1 kq l1 x34_7 t919 t920 t921 t922 t924 t925 t926 t927 = some r) ∧ Aside0 (kq ≤ kj2) ∧ Aside0 (wc.heap[gb923]? = some (.cells #[.int .i64 t919, .int .i64 t920, .int .i64 t921, .int .i64 t922] 24 (0, 0))) ∧ Aside0 (wc.heap[gb928]? = some (.cells #[.int .i64 t924, .int .i64 t925, .int .i64 t926, .int .i64 t927] 24 (0, 0))) ∧ Aside0 (Below w.heap.size w wc))
    case first =>
     have H := HC8.out
     clear HC8
     replace H := Option.bind_eq_some_iff.mp H
     obtain ⟨⟨t929, t930, t931, t932⟩, A160, H⟩ := H
     try dsimp only at H
     have A16 := Aside0.mk A160
     clear A160
     by_cases c17 : (!(t924 == t929) || (!(t925 == t930) || (!(t926 == t931) || (!(t927 == t932))))) = true
     ·rw [if_pos c17] at H
      have c17b0 : (!(t924 == t929) || (!(t925 == t930) || (!(t926 == t931) || (!(t927 == t932))))) = true := c17
      clear c17
      (first | rw [c17b0] | (simp only [i64_w, i32_w]; rw [c17b0]) | skip)
      have H' := Aside0.mk H
      clear H
      try go_wp2
      have n0_ : Aside0 (((((w13.setCell ⟨gb928, 0, none⟩ (.int .i64 t924)).setCell ⟨gb928, 1, none⟩ (.int .i64 t925)).setCell ⟨gb928, 2, none⟩ (.int .i64 t926)).setCell ⟨gb928, 3, none⟩ (.int .i64 t927)).heap[gb923]? = some (.cells #[.int .i64 t919, .int .i64 t920, .int .i64 t921, .int .i64 t922] 24 (0, 0))) := ⟨by (with_reducible repeat first | apply bN | apply bD | apply bA); refine blk_far ?_ NB923_928.out _; (with_reducible repeat first | apply bN | apply bD | apply bA); refine blk_far ?_ NB923_928.out _; (with_reducible repeat first | apply bN | apply bD | apply bA); refine blk_far ?_ NB923_928.out _; (with_reducible repeat first | apply bN | apply bD | apply bA); refine blk_far ?_ NB923_928.out _; (with_reducible repeat first | apply bN | apply bD | apply bA); exact BK923.out⟩
      have n1_ : Aside0 (((((w13.setCell ⟨gb928, 0, none⟩ (.int .i64 t924)).setCell ⟨gb928, 1, none⟩ (.int .i64 t925)).setCell ⟨gb928, 2, none⟩ (.int .i64 t926)).setCell ⟨gb928, 3, none⟩ (.int .i64 t927)).heap[gb928]? = some (.cells #[.int .i64 t924, .int .i64 t925, .int .i64 t926, .int .i64 t927] 24 (0, 0))) := ⟨by (with_reducible repeat first | apply bN | apply bD | apply bA); refine blk_put (cs := #[.int .i64 t924, .int .i64 t925, .int .i64 t926, .int .i64 0]) ?_ 3 _ rfl; (with_reducible repeat first | apply bN | apply bD | apply bA); refine blk_put (cs := #[.int .i64 t924, .int .i64 t925, .int .i64 0, .int .i64 0]) ?_ 2 _ rfl; (with_reducible repeat first | apply bN | apply bD | apply bA); refine blk_put (cs := #[.int .i64 t924, .int .i64 0, .int .i64 0, .int .i64 0]) ?_ 1 _ rfl; (with_reducible repeat first | apply bN | apply bD | apply bA); refine blk_put (cs := #[.int .i64 0, .int .i64 0, .int .i64 0, .int .i64 0]) ?_ 0 _ rfl; (with_reducible repeat first | apply bN | apply bD | apply bA); exact BK928.out⟩
      have n2_ : Aside0 (Below w.heap.size w ((((w13.setCell ⟨gb928, 0, none⟩ (.int .i64 t924)).setCell ⟨gb928, 1, none⟩ (.int .i64 t925)).setCell ⟨gb928, 2, none⟩ (.int .i64 t926)).setCell ⟨gb928, 3, none⟩ (.int .i64 t927))) := ⟨by repeat first | (with_reducible first | exact HB.out | apply vA | apply vN | apply vD | refine vS ?_ GE923.out | refine vS ?_ GE928.out) | exact HB.out⟩
      (try clear BK923)
      (try clear BK928)
      (try clear HB)
      generalize ((((w13.setCell ⟨gb928, 0, none⟩ (.int .i64 t924)).setCell ⟨gb928, 1, none⟩ (.int .i64 t925)).setCell ⟨gb928, 2, none⟩ (.int .i64 t926)).setCell ⟨gb928, 3, none⟩ (.int .i64 t927)) = w18 at n0_ n1_ n2_ ⊢
      have BK923 := n0_
      have BK928 := n1_
      have HB := n2_
      clear n0_ n1_ n2_
      have n0_ := Aside0.mk (blk_drew BK923.out)
      have n1_ := Aside0.mk (blk_drew BK928.out)
      have n2_ := Aside0.mk (below_drew1 HB.out)
      clear BK923
      clear BK928
      clear HB
      have BK923 := n0_
      have BK928 := n1_
      have HB := n2_
      clear n0_ n1_ n2_
      refine start_ (n := 14) (S := fun w' => w'.cell? ⟨gb928, 0, none⟩ = some (.int .i64 t924) ∧ w'.cell? ⟨gb928, 1, none⟩ = some (.int .i64 t925) ∧ w'.cell? ⟨gb928, 2, none⟩ = some (.int .i64 t926) ∧ w'.cell? ⟨gb928, 3, none⟩ = some (.int .i64 t927) ∧ w'.cell? ⟨gb923, 0, none⟩ = some (.int .i64 t919) ∧ w'.cell? ⟨gb923, 1, none⟩ = some (.int .i64 t920) ∧ w'.cell? ⟨gb923, 2, none⟩ = some (.int .i64 t921) ∧ w'.cell? ⟨gb923, 3, none⟩ = some (.int .i64 t922)) (ds := []) #[false, false, false, false, false, false, false, false, false, false, false, false, false, false] (by kernel_rfl) rfl rfl ⟨(blk_cell BK928.out 0).trans rfl, (blk_cell BK928.out 1).trans rfl, (blk_cell BK928.out 2).trans rfl, (blk_cell BK928.out 3).trans rfl, (blk_cell BK923.out 0).trans rfl, (blk_cell BK923.out 1).trans rfl, (blk_cell BK923.out 2).trans rfl, (blk_cell BK923.out 3).trans rfl⟩ (fun hHeld => ?_); refine with_tabW laws_FnTidy.tab5 laws_FnTidy.bits5 (fun HT_ HW_ => ?_)
      generalize w18.drew = w19 at BK923 BK928 HB hHeld ⊢
      refine take_ (i := 0) (N := some 21) (v := ?_) (a' := ?_) #[true, false, false, false, false, false, false, false, false, false, false, false, false, false] rfl rfl (take_ofW HT_.out HW_.out (by kernel_rfl)) (fun _ _ _ h => h) (Or.inl ⟨by rfl, ?_⟩) hHeld ?_ ?_
      rotate_left
      ·rintro w' ⟨s0, s1, s2, s3, s4, s5, s6, s7⟩
       go_simp
       with_reducible rfl
      rotate_left
      ·simp only [Act.put, List.setIfInBounds_toArray, List.set_cons_zero, List.set_cons_succ, i64_w, i32_w]
       rfl
      refine take_ (i := 1) (N := some 22) (v := ?_) (a' := ?_) #[true, true, false, false, false, false, false, false, false, false, false, false, false, false] rfl rfl (take_ofW HT_.out HW_.out (by kernel_rfl)) (fun _ _ _ h => h) (Or.inl ⟨by rfl, ?_⟩) hHeld ?_ ?_
      rotate_left
      ·rintro w' ⟨s0, s1, s2, s3, s4, s5, s6, s7⟩
       go_simp
       with_reducible rfl
      rotate_left
      ·simp only [Act.put, List.setIfInBounds_toArray, List.set_cons_zero, List.set_cons_succ, i64_w, i32_w]
       rfl
      refine one_ (i := 2) (N := some 23) #[true, true, true, false, false, false, false, false, false, false, false, false, false, false] rfl rfl (one_of HT_.out (by kernel_rfl)) (by decide) (fun K hK => ?_)
      refine goes_ Try.func43 (by kernel_rfl) rfl #[.agg #[.int .i64 t919, .int .i64 t920, .int .i64 t921, .int .i64 t922]] (by rfl) rfl rfl (by (try simp only [List.map_toArray, List.map_cons, List.map_nil]); first | done | rfl | (simp only [List.length_drop, List.length_take]; rfl)) ?_
      with_reducible refine (spec_RangeTidy.calls kj2 t919 t920 t921 t922 t929 t930 t931 t932 _ A16.out).mono ?_
      rintro e w20 ⟨rfl, hb⟩
      refine ⟨_, rfl, ?_⟩
      have n0_ := zb BK923 hb rfl
      have n1_ := zb BK928 hb rfl
      have n2_ := Aside0.mk (below_step (by repeat first | (with_reducible first | exact HB.out | apply vA | apply vN | apply vD | refine vS ?_ GE923.out | refine vS ?_ GE928.out) | exact HB.out) hb)
      clear BK923
      clear BK928
      clear HB
      have BK923 := n0_
      have BK928 := n1_
      have HB := n2_
      clear n0_ n1_ n2_
      (try clear hb)
      (try clear hb2)
      (try clear hk)
      (try clear hi)
      refine hK.out _ _ ⟨(blk_cell BK928.out 0).trans rfl, (blk_cell BK928.out 1).trans rfl, (blk_cell BK928.out 2).trans rfl, (blk_cell BK928.out 3).trans rfl, (blk_cell BK923.out 0).trans rfl, (blk_cell BK923.out 1).trans rfl, (blk_cell BK923.out 2).trans rfl, (blk_cell BK923.out 3).trans rfl⟩ (fun hHeld => ?_)
      clear hK K
      refine norm_ (a' := ?_) ?_ ?_
      rotate_left
      ·show Act.put _ (some 23) _ = _
       simp only [Act.put, List.setIfInBounds_toArray, List.set_cons_zero, List.set_cons_succ, i64_w, i32_w]
       rfl
      refine pure_ (i := 3) (N := some 24) (v := ?_) (a' := ?_) #[true, true, true, true, false, false, false, false, false, false, false, false, false, false] rfl rfl (any_of HT_.out (by kernel_rfl)) (fun _ _ _ h => h) (Or.inl ⟨by rfl, ?_⟩) ?_ ?_
      rotate_left
      ·intro w'
       go_simp
       with_reducible rfl
      rotate_left
      ·simp only [Act.put, List.setIfInBounds_toArray, List.set_cons_zero, List.set_cons_succ, i64_w, i32_w]
       rfl
      refine pure_ (i := 4) (N := some 25) (v := ?_) (a' := ?_) #[true, true, true, true, true, false, false, false, false, false, false, false, false, false] rfl rfl (any_of HT_.out (by kernel_rfl)) (fun _ _ _ h => h) (Or.inl ⟨by rfl, ?_⟩) ?_ ?_
      rotate_left
      ·intro w'
       go_simp
       with_reducible rfl
      rotate_left
      ·simp only [Act.put, List.setIfInBounds_toArray, List.set_cons_zero, List.set_cons_succ, i64_w, i32_w]
       rfl
      refine pure_ (i := 5) (N := some 26) (v := undef) (a' := ?_) #[true, true, true, true, true, true, false, false, false, false, false, false, false, false] rfl rfl (any_of HT_.out (by kernel_rfl)) (fun _ _ _ h => h) (Or.inr ⟨by rfl, rfl⟩) ?_ ?_
      rotate_left
      ·simp only [Act.put, List.setIfInBounds_toArray, List.set_cons_zero, List.set_cons_succ, i64_w, i32_w]
       rfl
      refine pure_ (i := 6) (N := some 27) (v := undef) (a' := ?_) #[true, true, true, true, true, true, true, false, false, false, false, false, false, false] rfl rfl (any_of HT_.out (by kernel_rfl)) (fun _ _ _ h => h) (Or.inr ⟨by rfl, rfl⟩) ?_ ?_
      rotate_left
      ·simp only [Act.put, List.setIfInBounds_toArray, List.set_cons_zero, List.set_cons_succ, i64_w, i32_w]
       rfl
      refine pure_ (i := 7) (N := some 28) (v := undef) (a' := ?_) #[true, true, true, true, true, true, true, true, false, false, false, false, false, false] rfl rfl (any_of HT_.out (by kernel_rfl)) (fun _ _ _ h => h) (Or.inr ⟨by rfl, rfl⟩) ?_ ?_
      rotate_left
      ·simp only [Act.put, List.setIfInBounds_toArray, List.set_cons_zero, List.set_cons_succ, i64_w, i32_w]
       rfl
      refine pure_ (i := 8) (N := some 29) (v := ?_) (a' := ?_) #[true, true, true, true, true, true, true, true, true, false, false, false, false, false] rfl rfl (any_of HT_.out (by kernel_rfl)) (fun _ _ _ h => h) (Or.inl ⟨by rfl, ?_⟩) ?_ ?_
      rotate_left
      ·intro w'
       go_simp
       with_reducible rfl
      rotate_left
      ·simp only [Act.put, List.setIfInBounds_toArray, List.set_cons_zero, List.set_cons_succ, i64_w, i32_w]
       rfl
      refine pure_ (i := 9) (N := some 30) (v := ?_) (a' := ?_) #[true, true, true, true, true, true, true, true, true, true, false, false, false, false] rfl rfl (any_of HT_.out (by kernel_rfl)) (fun _ _ _ h => h) (Or.inl ⟨by rfl, ?_⟩) ?_ ?_
      rotate_left
      ·intro w'
       go_simp
       with_reducible rfl
      rotate_left
      ·simp only [Act.put, List.setIfInBounds_toArray, List.set_cons_zero, List.set_cons_succ, i64_w, i32_w]
       rfl
      refine pure_ (i := 10) (N := some 31) (v := undef) (a' := ?_) #[true, true, true, true, true, true, true, true, true, true, true, false, false, false] rfl rfl (any_of HT_.out (by kernel_rfl)) (fun _ _ _ h => h) (Or.inr ⟨by rfl, rfl⟩) ?_ ?_
      rotate_left
      ·simp only [Act.put, List.setIfInBounds_toArray, List.set_cons_zero, List.set_cons_succ, i64_w, i32_w]
       rfl
      refine pure_ (i := 11) (N := some 32) (v := undef) (a' := ?_) #[true, true, true, true, true, true, true, true, true, true, true, true, false, false] rfl rfl (any_of HT_.out (by kernel_rfl)) (fun _ _ _ h => h) (Or.inr ⟨by rfl, rfl⟩) ?_ ?_
      rotate_left
      ·simp only [Act.put, List.setIfInBounds_toArray, List.set_cons_zero, List.set_cons_succ, i64_w, i32_w]
       rfl
      refine pure_ (i := 12) (N := some 33) (v := undef) (a' := ?_) #[true, true, true, true, true, true, true, true, true, true, true, true, true, false] rfl rfl (any_of HT_.out (by kernel_rfl)) (fun _ _ _ h => h) (Or.inr ⟨by rfl, rfl⟩) ?_ ?_
      rotate_left
      ·simp only [Act.put, List.setIfInBounds_toArray, List.set_cons_zero, List.set_cons_succ, i64_w, i32_w]
       rfl
      refine pure_ (i := 13) (N := some 34) (v := ?_) (a' := ?_) #[true, true, true, true, true, true, true, true, true, true, true, true, true, true] rfl rfl (any_of HT_.out (by kernel_rfl)) (fun _ _ _ h => h) (Or.inl ⟨by rfl, ?_⟩) ?_ ?_
      rotate_left
      ·intro w'
       go_simp
       with_reducible rfl
      rotate_left
      ·simp only [Act.put, List.setIfInBounds_toArray, List.set_cons_zero, List.set_cons_succ, i64_w, i32_w]
       rfl
      refine done_ (done_of HT_.out (by kernel_rfl)) ?_
      try go_wp2
      go_meet
      case rel => exact ⟨_, (true), (by first | rfl | (simp; done) | (simp [*]; done)), H', ⟨by have := HJ2.out; first | omega | exact Nat.le_refl _⟩, ⟨by (with_reducible repeat first | apply bN | apply bD | apply bA); exact BK923.out⟩, ⟨by (with_reducible repeat first | apply bN | apply bD | apply bA); exact BK928.out⟩, ⟨by repeat first | (with_reducible first | exact HB.out | apply vA | apply vN | apply vD | refine vS ?_ GE923.out | refine vS ?_ GE928.out) | exact HB.out⟩⟩
     ·rw [if_neg c17] at H
      have c17b0 : (!(t924 == t929) || (!(t925 == t930) || (!(t926 == t931) || (!(t927 == t932))))) = false := by simpa using c17
      clear c17
      (first | rw [c17b0] | (simp only [i64_w, i32_w]; rw [c17b0]) | skip)
      replace H := Option.bind_eq_some_iff.mp H
      obtain ⟨t933, A210, H⟩ := H
      try dsimp only at H
      have A21 := Aside0.mk A210
      clear A210
      by_cases c22 : t933 = true
      ·subst c22
       rw [if_pos rfl] at H
       replace H := Option.bind_eq_some_iff.mp H
       obtain ⟨t934, A230, H⟩ := H
       try dsimp only at H
       have A23 := Aside0.mk A230
       clear A230
       have H' := Aside0.mk H
       clear H
       try go_wp2
       have n0_ : Aside0 (((((w13.setCell ⟨gb928, 0, none⟩ (.int .i64 t924)).setCell ⟨gb928, 1, none⟩ (.int .i64 t925)).setCell ⟨gb928, 2, none⟩ (.int .i64 t926)).setCell ⟨gb928, 3, none⟩ (.int .i64 t927)).heap[gb923]? = some (.cells #[.int .i64 t919, .int .i64 t920, .int .i64 t921, .int .i64 t922] 24 (0, 0))) := ⟨by (with_reducible repeat first | apply bN | apply bD | apply bA); refine blk_far ?_ NB923_928.out _; (with_reducible repeat first | apply bN | apply bD | apply bA); refine blk_far ?_ NB923_928.out _; (with_reducible repeat first | apply bN | apply bD | apply bA); refine blk_far ?_ NB923_928.out _; (with_reducible repeat first | apply bN | apply bD | apply bA); refine blk_far ?_ NB923_928.out _; (with_reducible repeat first | apply bN | apply bD | apply bA); exact BK923.out⟩
       have n1_ : Aside0 (((((w13.setCell ⟨gb928, 0, none⟩ (.int .i64 t924)).setCell ⟨gb928, 1, none⟩ (.int .i64 t925)).setCell ⟨gb928, 2, none⟩ (.int .i64 t926)).setCell ⟨gb928, 3, none⟩ (.int .i64 t927)).heap[gb928]? = some (.cells #[.int .i64 t924, .int .i64 t925, .int .i64 t926, .int .i64 t927] 24 (0, 0))) := ⟨by (with_reducible repeat first | apply bN | apply bD | apply bA); refine blk_put (cs := #[.int .i64 t924, .int .i64 t925, .int .i64 t926, .int .i64 0]) ?_ 3 _ rfl; (with_reducible repeat first | apply bN | apply bD | apply bA); refine blk_put (cs := #[.int .i64 t924, .int .i64 t925, .int .i64 0, .int .i64 0]) ?_ 2 _ rfl; (with_reducible repeat first | apply bN | apply bD | apply bA); refine blk_put (cs := #[.int .i64 t924, .int .i64 0, .int .i64 0, .int .i64 0]) ?_ 1 _ rfl; (with_reducible repeat first | apply bN | apply bD | apply bA); refine blk_put (cs := #[.int .i64 0, .int .i64 0, .int .i64 0, .int .i64 0]) ?_ 0 _ rfl; (with_reducible repeat first | apply bN | apply bD | apply bA); exact BK928.out⟩
       have n2_ : Aside0 (Below w.heap.size w ((((w13.setCell ⟨gb928, 0, none⟩ (.int .i64 t924)).setCell ⟨gb928, 1, none⟩ (.int .i64 t925)).setCell ⟨gb928, 2, none⟩ (.int .i64 t926)).setCell ⟨gb928, 3, none⟩ (.int .i64 t927))) := ⟨by repeat first | (with_reducible first | exact HB.out | apply vA | apply vN | apply vD | refine vS ?_ GE923.out | refine vS ?_ GE928.out) | exact HB.out⟩
       (try clear BK923)
       (try clear BK928)
       (try clear HB)
       generalize ((((w13.setCell ⟨gb928, 0, none⟩ (.int .i64 t924)).setCell ⟨gb928, 1, none⟩ (.int .i64 t925)).setCell ⟨gb928, 2, none⟩ (.int .i64 t926)).setCell ⟨gb928, 3, none⟩ (.int .i64 t927)) = w24 at n0_ n1_ n2_ ⊢
       have BK923 := n0_
       have BK928 := n1_
       have HB := n2_
       clear n0_ n1_ n2_
       have n0_ := Aside0.mk (blk_drew BK923.out)
       have n1_ := Aside0.mk (blk_drew BK928.out)
       have n2_ := Aside0.mk (below_drew1 HB.out)
       clear BK923
       clear BK928
       clear HB
       have BK923 := n0_
       have BK928 := n1_
       have HB := n2_
       clear n0_ n1_ n2_
       refine start_ (n := 14) (S := fun w' => w'.cell? ⟨gb928, 0, none⟩ = some (.int .i64 t924) ∧ w'.cell? ⟨gb928, 1, none⟩ = some (.int .i64 t925) ∧ w'.cell? ⟨gb928, 2, none⟩ = some (.int .i64 t926) ∧ w'.cell? ⟨gb928, 3, none⟩ = some (.int .i64 t927) ∧ w'.cell? ⟨gb923, 0, none⟩ = some (.int .i64 t919) ∧ w'.cell? ⟨gb923, 1, none⟩ = some (.int .i64 t920) ∧ w'.cell? ⟨gb923, 2, none⟩ = some (.int .i64 t921) ∧ w'.cell? ⟨gb923, 3, none⟩ = some (.int .i64 t922)) (ds := []) #[false, false, false, false, false, false, false, false, false, false, false, false, false, false] (by kernel_rfl) rfl rfl ⟨(blk_cell BK928.out 0).trans rfl, (blk_cell BK928.out 1).trans rfl, (blk_cell BK928.out 2).trans rfl, (blk_cell BK928.out 3).trans rfl, (blk_cell BK923.out 0).trans rfl, (blk_cell BK923.out 1).trans rfl, (blk_cell BK923.out 2).trans rfl, (blk_cell BK923.out 3).trans rfl⟩ (fun hHeld => ?_); refine with_tabW laws_FnTidy.tab5 laws_FnTidy.bits5 (fun HT_ HW_ => ?_)
       generalize w24.drew = w25 at BK923 BK928 HB hHeld ⊢
       refine take_ (i := 0) (N := some 21) (v := ?_) (a' := ?_) #[true, false, false, false, false, false, false, false, false, false, false, false, false, false] rfl rfl (take_ofW HT_.out HW_.out (by kernel_rfl)) (fun _ _ _ h => h) (Or.inl ⟨by rfl, ?_⟩) hHeld ?_ ?_
       rotate_left
       ·rintro w' ⟨s0, s1, s2, s3, s4, s5, s6, s7⟩
        go_simp
        with_reducible rfl
       rotate_left
       ·simp only [Act.put, List.setIfInBounds_toArray, List.set_cons_zero, List.set_cons_succ, i64_w, i32_w]
        rfl
       refine take_ (i := 1) (N := some 22) (v := ?_) (a' := ?_) #[true, true, false, false, false, false, false, false, false, false, false, false, false, false] rfl rfl (take_ofW HT_.out HW_.out (by kernel_rfl)) (fun _ _ _ h => h) (Or.inl ⟨by rfl, ?_⟩) hHeld ?_ ?_
       rotate_left
       ·rintro w' ⟨s0, s1, s2, s3, s4, s5, s6, s7⟩
        go_simp
        with_reducible rfl
       rotate_left
       ·simp only [Act.put, List.setIfInBounds_toArray, List.set_cons_zero, List.set_cons_succ, i64_w, i32_w]
        rfl
       refine one_ (i := 2) (N := some 23) #[true, true, true, false, false, false, false, false, false, false, false, false, false, false] rfl rfl (one_of HT_.out (by kernel_rfl)) (by decide) (fun K hK => ?_)
       refine goes_ Try.func43 (by kernel_rfl) rfl #[.agg #[.int .i64 t919, .int .i64 t920, .int .i64 t921, .int .i64 t922]] (by rfl) rfl rfl (by (try simp only [List.map_toArray, List.map_cons, List.map_nil]); first | done | rfl | (simp only [List.length_drop, List.length_take]; rfl)) ?_
       with_reducible refine (spec_RangeTidy.calls kj2 t919 t920 t921 t922 t929 t930 t931 t932 _ A16.out).mono ?_
       rintro e w26 ⟨rfl, hb⟩
       refine ⟨_, rfl, ?_⟩
       have n0_ := zb BK923 hb rfl
       have n1_ := zb BK928 hb rfl
       have n2_ := Aside0.mk (below_step (by repeat first | (with_reducible first | exact HB.out | apply vA | apply vN | apply vD | refine vS ?_ GE923.out | refine vS ?_ GE928.out) | exact HB.out) hb)
       clear BK923
       clear BK928
       clear HB
       have BK923 := n0_
       have BK928 := n1_
       have HB := n2_
       clear n0_ n1_ n2_
       (try clear hb)
       (try clear hb2)
       (try clear hk)
       (try clear hi)
       refine hK.out _ _ ⟨(blk_cell BK928.out 0).trans rfl, (blk_cell BK928.out 1).trans rfl, (blk_cell BK928.out 2).trans rfl, (blk_cell BK928.out 3).trans rfl, (blk_cell BK923.out 0).trans rfl, (blk_cell BK923.out 1).trans rfl, (blk_cell BK923.out 2).trans rfl, (blk_cell BK923.out 3).trans rfl⟩ (fun hHeld => ?_)
       clear hK K
       refine norm_ (a' := ?_) ?_ ?_
       rotate_left
       ·show Act.put _ (some 23) _ = _
        simp only [Act.put, List.setIfInBounds_toArray, List.set_cons_zero, List.set_cons_succ, i64_w, i32_w]
        rfl
       refine pure_ (i := 3) (N := some 24) (v := ?_) (a' := ?_) #[true, true, true, true, false, false, false, false, false, false, false, false, false, false] rfl rfl (any_of HT_.out (by kernel_rfl)) (fun _ _ _ h => h) (Or.inl ⟨by rfl, ?_⟩) ?_ ?_
       rotate_left
       ·intro w'
        go_simp
        with_reducible rfl
       rotate_left
       ·simp only [Act.put, List.setIfInBounds_toArray, List.set_cons_zero, List.set_cons_succ, i64_w, i32_w]
        rfl
       refine pure_ (i := 4) (N := some 25) (v := ?_) (a' := ?_) #[true, true, true, true, true, false, false, false, false, false, false, false, false, false] rfl rfl (any_of HT_.out (by kernel_rfl)) (fun _ _ _ h => h) (Or.inl ⟨by rfl, ?_⟩) ?_ ?_
       rotate_left
       ·intro w'
        go_simp
        with_reducible rfl
       rotate_left
       ·simp only [Act.put, List.setIfInBounds_toArray, List.set_cons_zero, List.set_cons_succ, i64_w, i32_w]
        rfl
       refine take_ (i := 5) (N := some 26) (v := ?_) (a' := ?_) #[true, true, true, true, true, true, false, false, false, false, false, false, false, false] rfl rfl (take_ofW HT_.out HW_.out (by kernel_rfl)) (fun _ _ _ h => h) (Or.inl ⟨by rfl, ?_⟩) hHeld ?_ ?_
       rotate_left
       ·rintro w' ⟨s0, s1, s2, s3, s4, s5, s6, s7⟩
        go_simp
        with_reducible rfl
       rotate_left
       ·simp only [Act.put, List.setIfInBounds_toArray, List.set_cons_zero, List.set_cons_succ, i64_w, i32_w]
        rfl
       refine one_ (i := 6) (N := some 27) #[true, true, true, true, true, true, true, false, false, false, false, false, false, false] rfl rfl (one_of HT_.out (by kernel_rfl)) (by decide) (fun K hK => ?_)
       refine goes_ Try.func18 (by kernel_rfl) rfl #[.agg #[.int .i64 t919, .int .i64 t920, .int .i64 t921, .int .i64 t922]] (by rfl) rfl rfl (by (try simp only [List.map_toArray, List.map_cons, List.map_nil]); first | done | rfl | (simp only [List.length_drop, List.length_take]; rfl)) ?_
       with_reducible refine (impl_RangeOk.calls t919 t920 t921 t922 true _ A21.out).mono ?_
       rintro e w27 ⟨rfl, hb⟩
       refine ⟨_, rfl, ?_⟩
       have n0_ := zb BK923 hb rfl
       have n1_ := zb BK928 hb rfl
       have n2_ := Aside0.mk (below_step (by repeat first | (with_reducible first | exact HB.out | apply vA | apply vN | apply vD | refine vS ?_ GE923.out | refine vS ?_ GE928.out) | exact HB.out) hb)
       clear BK923
       clear BK928
       clear HB
       have BK923 := n0_
       have BK928 := n1_
       have HB := n2_
       clear n0_ n1_ n2_
       (try clear hb)
       (try clear hb2)
       (try clear hk)
       (try clear hi)
       refine hK.out _ _ ⟨(blk_cell BK928.out 0).trans rfl, (blk_cell BK928.out 1).trans rfl, (blk_cell BK928.out 2).trans rfl, (blk_cell BK928.out 3).trans rfl, (blk_cell BK923.out 0).trans rfl, (blk_cell BK923.out 1).trans rfl, (blk_cell BK923.out 2).trans rfl, (blk_cell BK923.out 3).trans rfl⟩ (fun hHeld => ?_)
       clear hK K
       refine norm_ (a' := ?_) ?_ ?_
       rotate_left
       ·show Act.put _ (some 27) _ = _
        simp only [Act.put, List.setIfInBounds_toArray, List.set_cons_zero, List.set_cons_succ, i64_w, i32_w]
        rfl
       refine pure_ (i := 7) (N := some 28) (v := ?_) (a' := ?_) #[true, true, true, true, true, true, true, true, false, false, false, false, false, false] rfl rfl (any_of HT_.out (by kernel_rfl)) (fun _ _ _ h => h) (Or.inl ⟨by rfl, ?_⟩) ?_ ?_
       rotate_left
       ·intro w'
        go_simp
        with_reducible rfl
       rotate_left
       ·simp only [Act.put, List.setIfInBounds_toArray, List.set_cons_zero, List.set_cons_succ, i64_w, i32_w]
        rfl
       refine pure_ (i := 8) (N := some 29) (v := ?_) (a' := ?_) #[true, true, true, true, true, true, true, true, true, false, false, false, false, false] rfl rfl (any_of HT_.out (by kernel_rfl)) (fun _ _ _ h => h) (Or.inl ⟨by rfl, ?_⟩) ?_ ?_
       rotate_left
       ·intro w'
        go_simp
        with_reducible rfl
       rotate_left
       ·simp only [Act.put, List.setIfInBounds_toArray, List.set_cons_zero, List.set_cons_succ, i64_w, i32_w]
        rfl
       refine pure_ (i := 9) (N := some 30) (v := ?_) (a' := ?_) #[true, true, true, true, true, true, true, true, true, true, false, false, false, false] rfl rfl (any_of HT_.out (by kernel_rfl)) (fun _ _ _ h => h) (Or.inl ⟨by rfl, ?_⟩) ?_ ?_
       rotate_left
       ·intro w'
        go_simp
        with_reducible rfl
       rotate_left
       ·simp only [Act.put, List.setIfInBounds_toArray, List.set_cons_zero, List.set_cons_succ, i64_w, i32_w]
        rfl
       refine take_ (i := 10) (N := some 31) (v := ?_) (a' := ?_) #[true, true, true, true, true, true, true, true, true, true, true, false, false, false] rfl rfl (take_ofW HT_.out HW_.out (by kernel_rfl)) (fun _ _ _ h => h) (Or.inl ⟨by rfl, ?_⟩) hHeld ?_ ?_
       rotate_left
       ·rintro w' ⟨s0, s1, s2, s3, s4, s5, s6, s7⟩
        go_simp
        with_reducible rfl
       rotate_left
       ·simp only [Act.put, List.setIfInBounds_toArray, List.set_cons_zero, List.set_cons_succ, i64_w, i32_w]
        rfl
       refine one_ (i := 11) (N := some 32) #[true, true, true, true, true, true, true, true, true, true, true, true, false, false] rfl rfl (one_of HT_.out (by kernel_rfl)) (by decide) (fun K hK => ?_)
       refine goes_ Try.func35 (by kernel_rfl) rfl #[.agg #[.int .i64 t919, .int .i64 t920, .int .i64 t921, .int .i64 t922]] (by rfl) rfl rfl (by (try simp only [List.map_toArray, List.map_cons, List.map_nil]); first | done | rfl | (simp only [List.length_drop, List.length_take]; rfl)) ?_
       with_reducible refine (impl_RangeSome.calls kj2 t919 t920 t921 t922 t934 _ A23.out).mono ?_
       rintro e w28 ⟨rfl, hb⟩
       refine ⟨_, rfl, ?_⟩
       have n0_ := zb BK923 hb rfl
       have n1_ := zb BK928 hb rfl
       have n2_ := Aside0.mk (below_step (by repeat first | (with_reducible first | exact HB.out | apply vA | apply vN | apply vD | refine vS ?_ GE923.out | refine vS ?_ GE928.out) | exact HB.out) hb)
       clear BK923
       clear BK928
       clear HB
       have BK923 := n0_
       have BK928 := n1_
       have HB := n2_
       clear n0_ n1_ n2_
       (try clear hb)
       (try clear hb2)
       (try clear hk)
       (try clear hi)
       refine hK.out _ _ ⟨(blk_cell BK928.out 0).trans rfl, (blk_cell BK928.out 1).trans rfl, (blk_cell BK928.out 2).trans rfl, (blk_cell BK928.out 3).trans rfl, (blk_cell BK923.out 0).trans rfl, (blk_cell BK923.out 1).trans rfl, (blk_cell BK923.out 2).trans rfl, (blk_cell BK923.out 3).trans rfl⟩ (fun hHeld => ?_)
       clear hK K
       refine norm_ (a' := ?_) ?_ ?_
       rotate_left
       ·show Act.put _ (some 32) _ = _
        simp only [Act.put, List.setIfInBounds_toArray, List.set_cons_zero, List.set_cons_succ, i64_w, i32_w]
        rfl
       refine pure_ (i := 12) (N := some 33) (v := ?_) (a' := ?_) #[true, true, true, true, true, true, true, true, true, true, true, true, true, false] rfl rfl (any_of HT_.out (by kernel_rfl)) (fun _ _ _ h => h) (Or.inl ⟨by rfl, ?_⟩) ?_ ?_
       rotate_left
       ·intro w'
        go_simp
        with_reducible rfl
       rotate_left
       ·simp only [Act.put, List.setIfInBounds_toArray, List.set_cons_zero, List.set_cons_succ, i64_w, i32_w]
        rfl
       refine pure_ (i := 13) (N := some 34) (v := ?_) (a' := ?_) #[true, true, true, true, true, true, true, true, true, true, true, true, true, true] rfl rfl (any_of HT_.out (by kernel_rfl)) (fun _ _ _ h => h) (Or.inl ⟨by rfl, ?_⟩) ?_ ?_
       rotate_left
       ·intro w'
        go_simp
        with_reducible rfl
       rotate_left
       ·simp only [Act.put, List.setIfInBounds_toArray, List.set_cons_zero, List.set_cons_succ, i64_w, i32_w]
        rfl
       refine done_ (done_of HT_.out (by kernel_rfl)) ?_
       try go_wp2
       go_meet
       case rel => exact ⟨_, (!t934), (by first | rfl | (simp; done) | (simp [*]; done)), H', ⟨by have := HJ2.out; first | omega | exact Nat.le_refl _⟩, ⟨by (with_reducible repeat first | apply bN | apply bD | apply bA); exact BK923.out⟩, ⟨by (with_reducible repeat first | apply bN | apply bD | apply bA); exact BK928.out⟩, ⟨by repeat first | (with_reducible first | exact HB.out | apply vA | apply vN | apply vD | refine vS ?_ GE923.out | refine vS ?_ GE928.out) | exact HB.out⟩⟩
      ·replace c22 := Bool.eq_false_iff.mpr c22
       subst c22
       rw [if_neg (show ¬ (false = true) by decide)] at H
       have H' := Aside0.mk H
       clear H
       try go_wp2
       have n0_ : Aside0 (((((w13.setCell ⟨gb928, 0, none⟩ (.int .i64 t924)).setCell ⟨gb928, 1, none⟩ (.int .i64 t925)).setCell ⟨gb928, 2, none⟩ (.int .i64 t926)).setCell ⟨gb928, 3, none⟩ (.int .i64 t927)).heap[gb923]? = some (.cells #[.int .i64 t919, .int .i64 t920, .int .i64 t921, .int .i64 t922] 24 (0, 0))) := ⟨by (with_reducible repeat first | apply bN | apply bD | apply bA); refine blk_far ?_ NB923_928.out _; (with_reducible repeat first | apply bN | apply bD | apply bA); refine blk_far ?_ NB923_928.out _; (with_reducible repeat first | apply bN | apply bD | apply bA); refine blk_far ?_ NB923_928.out _; (with_reducible repeat first | apply bN | apply bD | apply bA); refine blk_far ?_ NB923_928.out _; (with_reducible repeat first | apply bN | apply bD | apply bA); exact BK923.out⟩
       have n1_ : Aside0 (((((w13.setCell ⟨gb928, 0, none⟩ (.int .i64 t924)).setCell ⟨gb928, 1, none⟩ (.int .i64 t925)).setCell ⟨gb928, 2, none⟩ (.int .i64 t926)).setCell ⟨gb928, 3, none⟩ (.int .i64 t927)).heap[gb928]? = some (.cells #[.int .i64 t924, .int .i64 t925, .int .i64 t926, .int .i64 t927] 24 (0, 0))) := ⟨by (with_reducible repeat first | apply bN | apply bD | apply bA); refine blk_put (cs := #[.int .i64 t924, .int .i64 t925, .int .i64 t926, .int .i64 0]) ?_ 3 _ rfl; (with_reducible repeat first | apply bN | apply bD | apply bA); refine blk_put (cs := #[.int .i64 t924, .int .i64 t925, .int .i64 0, .int .i64 0]) ?_ 2 _ rfl; (with_reducible repeat first | apply bN | apply bD | apply bA); refine blk_put (cs := #[.int .i64 t924, .int .i64 0, .int .i64 0, .int .i64 0]) ?_ 1 _ rfl; (with_reducible repeat first | apply bN | apply bD | apply bA); refine blk_put (cs := #[.int .i64 0, .int .i64 0, .int .i64 0, .int .i64 0]) ?_ 0 _ rfl; (with_reducible repeat first | apply bN | apply bD | apply bA); exact BK928.out⟩
       have n2_ : Aside0 (Below w.heap.size w ((((w13.setCell ⟨gb928, 0, none⟩ (.int .i64 t924)).setCell ⟨gb928, 1, none⟩ (.int .i64 t925)).setCell ⟨gb928, 2, none⟩ (.int .i64 t926)).setCell ⟨gb928, 3, none⟩ (.int .i64 t927))) := ⟨by repeat first | (with_reducible first | exact HB.out | apply vA | apply vN | apply vD | refine vS ?_ GE923.out | refine vS ?_ GE928.out) | exact HB.out⟩
       (try clear BK923)
       (try clear BK928)
       (try clear HB)
       generalize ((((w13.setCell ⟨gb928, 0, none⟩ (.int .i64 t924)).setCell ⟨gb928, 1, none⟩ (.int .i64 t925)).setCell ⟨gb928, 2, none⟩ (.int .i64 t926)).setCell ⟨gb928, 3, none⟩ (.int .i64 t927)) = w29 at n0_ n1_ n2_ ⊢
       have BK923 := n0_
       have BK928 := n1_
       have HB := n2_
       clear n0_ n1_ n2_
       have n0_ := Aside0.mk (blk_drew BK923.out)
       have n1_ := Aside0.mk (blk_drew BK928.out)
       have n2_ := Aside0.mk (below_drew1 HB.out)
       clear BK923
       clear BK928
       clear HB
       have BK923 := n0_
       have BK928 := n1_
       have HB := n2_
       clear n0_ n1_ n2_
       refine start_ (n := 14) (S := fun w' => w'.cell? ⟨gb928, 0, none⟩ = some (.int .i64 t924) ∧ w'.cell? ⟨gb928, 1, none⟩ = some (.int .i64 t925) ∧ w'.cell? ⟨gb928, 2, none⟩ = some (.int .i64 t926) ∧ w'.cell? ⟨gb928, 3, none⟩ = some (.int .i64 t927) ∧ w'.cell? ⟨gb923, 0, none⟩ = some (.int .i64 t919) ∧ w'.cell? ⟨gb923, 1, none⟩ = some (.int .i64 t920) ∧ w'.cell? ⟨gb923, 2, none⟩ = some (.int .i64 t921) ∧ w'.cell? ⟨gb923, 3, none⟩ = some (.int .i64 t922)) (ds := []) #[false, false, false, false, false, false, false, false, false, false, false, false, false, false] (by kernel_rfl) rfl rfl ⟨(blk_cell BK928.out 0).trans rfl, (blk_cell BK928.out 1).trans rfl, (blk_cell BK928.out 2).trans rfl, (blk_cell BK928.out 3).trans rfl, (blk_cell BK923.out 0).trans rfl, (blk_cell BK923.out 1).trans rfl, (blk_cell BK923.out 2).trans rfl, (blk_cell BK923.out 3).trans rfl⟩ (fun hHeld => ?_); refine with_tabW laws_FnTidy.tab5 laws_FnTidy.bits5 (fun HT_ HW_ => ?_)
       generalize w29.drew = w30 at BK923 BK928 HB hHeld ⊢
       refine take_ (i := 0) (N := some 21) (v := ?_) (a' := ?_) #[true, false, false, false, false, false, false, false, false, false, false, false, false, false] rfl rfl (take_ofW HT_.out HW_.out (by kernel_rfl)) (fun _ _ _ h => h) (Or.inl ⟨by rfl, ?_⟩) hHeld ?_ ?_
       rotate_left
       ·rintro w' ⟨s0, s1, s2, s3, s4, s5, s6, s7⟩
        go_simp
        with_reducible rfl
       rotate_left
       ·simp only [Act.put, List.setIfInBounds_toArray, List.set_cons_zero, List.set_cons_succ, i64_w, i32_w]
        rfl
       refine take_ (i := 1) (N := some 22) (v := ?_) (a' := ?_) #[true, true, false, false, false, false, false, false, false, false, false, false, false, false] rfl rfl (take_ofW HT_.out HW_.out (by kernel_rfl)) (fun _ _ _ h => h) (Or.inl ⟨by rfl, ?_⟩) hHeld ?_ ?_
       rotate_left
       ·rintro w' ⟨s0, s1, s2, s3, s4, s5, s6, s7⟩
        go_simp
        with_reducible rfl
       rotate_left
       ·simp only [Act.put, List.setIfInBounds_toArray, List.set_cons_zero, List.set_cons_succ, i64_w, i32_w]
        rfl
       refine one_ (i := 2) (N := some 23) #[true, true, true, false, false, false, false, false, false, false, false, false, false, false] rfl rfl (one_of HT_.out (by kernel_rfl)) (by decide) (fun K hK => ?_)
       refine goes_ Try.func43 (by kernel_rfl) rfl #[.agg #[.int .i64 t919, .int .i64 t920, .int .i64 t921, .int .i64 t922]] (by rfl) rfl rfl (by (try simp only [List.map_toArray, List.map_cons, List.map_nil]); first | done | rfl | (simp only [List.length_drop, List.length_take]; rfl)) ?_
       with_reducible refine (spec_RangeTidy.calls kj2 t919 t920 t921 t922 t929 t930 t931 t932 _ A16.out).mono ?_
       rintro e w31 ⟨rfl, hb⟩
       refine ⟨_, rfl, ?_⟩
       have n0_ := zb BK923 hb rfl
       have n1_ := zb BK928 hb rfl
       have n2_ := Aside0.mk (below_step (by repeat first | (with_reducible first | exact HB.out | apply vA | apply vN | apply vD | refine vS ?_ GE923.out | refine vS ?_ GE928.out) | exact HB.out) hb)
       clear BK923
       clear BK928
       clear HB
       have BK923 := n0_
       have BK928 := n1_
       have HB := n2_
       clear n0_ n1_ n2_
       (try clear hb)
       (try clear hb2)
       (try clear hk)
       (try clear hi)
       refine hK.out _ _ ⟨(blk_cell BK928.out 0).trans rfl, (blk_cell BK928.out 1).trans rfl, (blk_cell BK928.out 2).trans rfl, (blk_cell BK928.out 3).trans rfl, (blk_cell BK923.out 0).trans rfl, (blk_cell BK923.out 1).trans rfl, (blk_cell BK923.out 2).trans rfl, (blk_cell BK923.out 3).trans rfl⟩ (fun hHeld => ?_)
       clear hK K
       refine norm_ (a' := ?_) ?_ ?_
       rotate_left
       ·show Act.put _ (some 23) _ = _
        simp only [Act.put, List.setIfInBounds_toArray, List.set_cons_zero, List.set_cons_succ, i64_w, i32_w]
        rfl
       refine pure_ (i := 3) (N := some 24) (v := ?_) (a' := ?_) #[true, true, true, true, false, false, false, false, false, false, false, false, false, false] rfl rfl (any_of HT_.out (by kernel_rfl)) (fun _ _ _ h => h) (Or.inl ⟨by rfl, ?_⟩) ?_ ?_
       rotate_left
       ·intro w'
        go_simp
        with_reducible rfl
       rotate_left
       ·simp only [Act.put, List.setIfInBounds_toArray, List.set_cons_zero, List.set_cons_succ, i64_w, i32_w]
        rfl
       refine pure_ (i := 4) (N := some 25) (v := ?_) (a' := ?_) #[true, true, true, true, true, false, false, false, false, false, false, false, false, false] rfl rfl (any_of HT_.out (by kernel_rfl)) (fun _ _ _ h => h) (Or.inl ⟨by rfl, ?_⟩) ?_ ?_
       rotate_left
       ·intro w'
        go_simp
        with_reducible rfl
       rotate_left
       ·simp only [Act.put, List.setIfInBounds_toArray, List.set_cons_zero, List.set_cons_succ, i64_w, i32_w]
        rfl
       refine take_ (i := 5) (N := some 26) (v := ?_) (a' := ?_) #[true, true, true, true, true, true, false, false, false, false, false, false, false, false] rfl rfl (take_ofW HT_.out HW_.out (by kernel_rfl)) (fun _ _ _ h => h) (Or.inl ⟨by rfl, ?_⟩) hHeld ?_ ?_
       rotate_left
       ·rintro w' ⟨s0, s1, s2, s3, s4, s5, s6, s7⟩
        go_simp
        with_reducible rfl
       rotate_left
       ·simp only [Act.put, List.setIfInBounds_toArray, List.set_cons_zero, List.set_cons_succ, i64_w, i32_w]
        rfl
       refine one_ (i := 6) (N := some 27) #[true, true, true, true, true, true, true, false, false, false, false, false, false, false] rfl rfl (one_of HT_.out (by kernel_rfl)) (by decide) (fun K hK => ?_)
       refine goes_ Try.func18 (by kernel_rfl) rfl #[.agg #[.int .i64 t919, .int .i64 t920, .int .i64 t921, .int .i64 t922]] (by rfl) rfl rfl (by (try simp only [List.map_toArray, List.map_cons, List.map_nil]); first | done | rfl | (simp only [List.length_drop, List.length_take]; rfl)) ?_
       with_reducible refine (impl_RangeOk.calls t919 t920 t921 t922 false _ A21.out).mono ?_
       rintro e w32 ⟨rfl, hb⟩
       refine ⟨_, rfl, ?_⟩
       have n0_ := zb BK923 hb rfl
       have n1_ := zb BK928 hb rfl
       have n2_ := Aside0.mk (below_step (by repeat first | (with_reducible first | exact HB.out | apply vA | apply vN | apply vD | refine vS ?_ GE923.out | refine vS ?_ GE928.out) | exact HB.out) hb)
       clear BK923
       clear BK928
       clear HB
       have BK923 := n0_
       have BK928 := n1_
       have HB := n2_
       clear n0_ n1_ n2_
       (try clear hb)
       (try clear hb2)
       (try clear hk)
       (try clear hi)
       refine hK.out _ _ ⟨(blk_cell BK928.out 0).trans rfl, (blk_cell BK928.out 1).trans rfl, (blk_cell BK928.out 2).trans rfl, (blk_cell BK928.out 3).trans rfl, (blk_cell BK923.out 0).trans rfl, (blk_cell BK923.out 1).trans rfl, (blk_cell BK923.out 2).trans rfl, (blk_cell BK923.out 3).trans rfl⟩ (fun hHeld => ?_)
       clear hK K
       refine norm_ (a' := ?_) ?_ ?_
       rotate_left
       ·show Act.put _ (some 27) _ = _
        simp only [Act.put, List.setIfInBounds_toArray, List.set_cons_zero, List.set_cons_succ, i64_w, i32_w]
        rfl
       refine pure_ (i := 7) (N := some 28) (v := ?_) (a' := ?_) #[true, true, true, true, true, true, true, true, false, false, false, false, false, false] rfl rfl (any_of HT_.out (by kernel_rfl)) (fun _ _ _ h => h) (Or.inl ⟨by rfl, ?_⟩) ?_ ?_
       rotate_left
       ·intro w'
        go_simp
        with_reducible rfl
       rotate_left
       ·simp only [Act.put, List.setIfInBounds_toArray, List.set_cons_zero, List.set_cons_succ, i64_w, i32_w]
        rfl
       refine pure_ (i := 8) (N := some 29) (v := ?_) (a' := ?_) #[true, true, true, true, true, true, true, true, true, false, false, false, false, false] rfl rfl (any_of HT_.out (by kernel_rfl)) (fun _ _ _ h => h) (Or.inl ⟨by rfl, ?_⟩) ?_ ?_
       rotate_left
       ·intro w'
        go_simp
        with_reducible rfl
       rotate_left
       ·simp only [Act.put, List.setIfInBounds_toArray, List.set_cons_zero, List.set_cons_succ, i64_w, i32_w]
        rfl
       refine pure_ (i := 9) (N := some 30) (v := ?_) (a' := ?_) #[true, true, true, true, true, true, true, true, true, true, false, false, false, false] rfl rfl (any_of HT_.out (by kernel_rfl)) (fun _ _ _ h => h) (Or.inl ⟨by rfl, ?_⟩) ?_ ?_
       rotate_left
       ·intro w'
        go_simp
        with_reducible rfl
       rotate_left
       ·simp only [Act.put, List.setIfInBounds_toArray, List.set_cons_zero, List.set_cons_succ, i64_w, i32_w]
        rfl
       refine pure_ (i := 10) (N := some 31) (v := undef) (a' := ?_) #[true, true, true, true, true, true, true, true, true, true, true, false, false, false] rfl rfl (any_of HT_.out (by kernel_rfl)) (fun _ _ _ h => h) (Or.inr ⟨by rfl, rfl⟩) ?_ ?_
       rotate_left
       ·simp only [Act.put, List.setIfInBounds_toArray, List.set_cons_zero, List.set_cons_succ, i64_w, i32_w]
        rfl
       refine pure_ (i := 11) (N := some 32) (v := undef) (a' := ?_) #[true, true, true, true, true, true, true, true, true, true, true, true, false, false] rfl rfl (any_of HT_.out (by kernel_rfl)) (fun _ _ _ h => h) (Or.inr ⟨by rfl, rfl⟩) ?_ ?_
       rotate_left
       ·simp only [Act.put, List.setIfInBounds_toArray, List.set_cons_zero, List.set_cons_succ, i64_w, i32_w]
        rfl
       refine pure_ (i := 12) (N := some 33) (v := undef) (a' := ?_) #[true, true, true, true, true, true, true, true, true, true, true, true, true, false] rfl rfl (any_of HT_.out (by kernel_rfl)) (fun _ _ _ h => h) (Or.inr ⟨by rfl, rfl⟩) ?_ ?_
       rotate_left
       ·simp only [Act.put, List.setIfInBounds_toArray, List.set_cons_zero, List.set_cons_succ, i64_w, i32_w]
        rfl
       refine pure_ (i := 13) (N := some 34) (v := ?_) (a' := ?_) #[true, true, true, true, true, true, true, true, true, true, true, true, true, true] rfl rfl (any_of HT_.out (by kernel_rfl)) (fun _ _ _ h => h) (Or.inl ⟨by rfl, ?_⟩) ?_ ?_
       rotate_left
       ·intro w'
        go_simp
        with_reducible rfl
       rotate_left
       ·simp only [Act.put, List.setIfInBounds_toArray, List.set_cons_zero, List.set_cons_succ, i64_w, i32_w]
        rfl
       refine done_ (done_of HT_.out (by kernel_rfl)) ?_
       try go_wp2
       go_meet
       case rel => exact ⟨_, (true), (by first | rfl | (simp; done) | (simp [*]; done)), H', ⟨by have := HJ2.out; first | omega | exact Nat.le_refl _⟩, ⟨by (with_reducible repeat first | apply bN | apply bD | apply bA); exact BK923.out⟩, ⟨by (with_reducible repeat first | apply bN | apply bD | apply bA); exact BK928.out⟩, ⟨by repeat first | (with_reducible first | exact HB.out | apply vA | apply vN | apply vD | refine vS ?_ GE923.out | refine vS ?_ GE928.out) | exact HB.out⟩⟩
    case rest =>
     clear HC8
     try clear c1
     try clear c2
     try clear p2
     try clear c3
     try clear c4
     try clear c4b0
     try clear c4b1
     try clear c5
     try clear c14
     try clear c17
     try clear c17b0
     try clear c18
     try clear c22
     try clear c31
     try clear hcz11_0
     try clear hcz11_1
     try clear hcz11_2
     try clear hcz11_3
     try clear hcz15_0
     try clear hcz15_1
     try clear hcz15_2
     try clear hcz15_3
     try clear hfz11_0
     try clear hfz11_1
     try clear hfz11_2
     try clear hfz11_3
     try clear hfz15_0
     try clear hfz15_1
     try clear hfz15_2
     try clear hfz15_3
     try clear p2
     obtain ⟨kq, x34_7, rfl, HA, HJ7, BK923, BK928, HB⟩ := hcut
     cases kq with
     | zero => exact absurd HA.out (by simp [laws_FnTidy.j1])
     | succ kj7 =>
      have H := HA.out
      clear HA
      simp only [laws_FnTidy.j1] at H
      by_cases c33 : x34_7 = true
      ·subst c33
       rw [if_pos rfl] at H
       replace H := Option.bind_eq_some_iff.mp H
       obtain ⟨⟨t935, t936, t937, t938⟩, A340, H⟩ := H
       try dsimp only at H
       have A34 := Aside0.mk A340
       clear A340
       obtain rfl := Option.some.inj H
       try go_wp2
       have n0_ := Aside0.mk (blk_drew BK923.out)
       have n1_ := Aside0.mk (blk_drew BK928.out)
       have n2_ := Aside0.mk (below_drew1 HB.out)
       clear BK923
       clear BK928
       clear HB
       have BK923 := n0_
       have BK928 := n1_
       have HB := n2_
       clear n0_ n1_ n2_
       refine start_ (n := 5) (S := fun w' => w'.cell? ⟨gb928, 0, none⟩ = some (.int .i64 t924) ∧ w'.cell? ⟨gb928, 1, none⟩ = some (.int .i64 t925) ∧ w'.cell? ⟨gb928, 2, none⟩ = some (.int .i64 t926) ∧ w'.cell? ⟨gb928, 3, none⟩ = some (.int .i64 t927) ∧ w'.cell? ⟨gb923, 0, none⟩ = some (.int .i64 t919) ∧ w'.cell? ⟨gb923, 1, none⟩ = some (.int .i64 t920) ∧ w'.cell? ⟨gb923, 2, none⟩ = some (.int .i64 t921) ∧ w'.cell? ⟨gb923, 3, none⟩ = some (.int .i64 t922)) (ds := []) #[false, false, false, false, false] (by kernel_rfl) rfl rfl ⟨(blk_cell BK928.out 0).trans rfl, (blk_cell BK928.out 1).trans rfl, (blk_cell BK928.out 2).trans rfl, (blk_cell BK928.out 3).trans rfl, (blk_cell BK923.out 0).trans rfl, (blk_cell BK923.out 1).trans rfl, (blk_cell BK923.out 2).trans rfl, (blk_cell BK923.out 3).trans rfl⟩ (fun hHeld => ?_)
       generalize wc.drew = w35 at BK923 BK928 HB hHeld ⊢
       refine take_ (i := 0) (N := some 35) (v := ?_) (a' := ?_) #[true, false, false, false, false] rfl rfl (by kernel_rfl) (fun _ _ _ h => h) (Or.inl ⟨by rfl, ?_⟩) hHeld ?_ ?_
       rotate_left
       ·rintro w' ⟨s0, s1, s2, s3, s4, s5, s6, s7⟩
        go_simp
        with_reducible rfl
       rotate_left
       ·simp only [Act.put, List.setIfInBounds_toArray, List.set_cons_zero, List.set_cons_succ, i64_w, i32_w]
        rfl
       refine take_ (i := 1) (N := some 36) (v := ?_) (a' := ?_) #[true, true, false, false, false] rfl rfl (by kernel_rfl) (fun _ _ _ h => h) (Or.inl ⟨by rfl, ?_⟩) hHeld ?_ ?_
       rotate_left
       ·rintro w' ⟨s0, s1, s2, s3, s4, s5, s6, s7⟩
        go_simp
        with_reducible rfl
       rotate_left
       ·simp only [Act.put, List.setIfInBounds_toArray, List.set_cons_zero, List.set_cons_succ, i64_w, i32_w]
        rfl
       refine one_ (i := 2) (N := some 37) #[true, true, true, false, false] rfl rfl (by kernel_rfl) (by decide) (fun K hK => ?_)
       refine goes_ Try.func43 (by kernel_rfl) rfl #[.agg #[.int .i64 t919, .int .i64 t920, .int .i64 t921, .int .i64 t922]] (by rfl) rfl rfl (by (try simp only [List.map_toArray, List.map_cons, List.map_nil]); first | done | rfl | (simp only [List.length_drop, List.length_take]; rfl)) ?_
       with_reducible refine (spec_RangeTidy.calls kj7 t919 t920 t921 t922 t935 t936 t937 t938 _ A34.out).mono ?_
       rintro e w36 ⟨rfl, hb⟩
       refine ⟨_, rfl, ?_⟩
       have n0_ := zb BK923 hb rfl
       have n1_ := zb BK928 hb rfl
       have n2_ := Aside0.mk (below_step (by repeat first | (with_reducible first | exact HB.out | apply vA | apply vN | apply vD | refine vS ?_ GE923.out | refine vS ?_ GE928.out) | exact HB.out) hb)
       clear BK923
       clear BK928
       clear HB
       have BK923 := n0_
       have BK928 := n1_
       have HB := n2_
       clear n0_ n1_ n2_
       (try clear hb)
       (try clear hb2)
       (try clear hk)
       (try clear hi)
       refine hK.out _ _ ⟨(blk_cell BK928.out 0).trans rfl, (blk_cell BK928.out 1).trans rfl, (blk_cell BK928.out 2).trans rfl, (blk_cell BK928.out 3).trans rfl, (blk_cell BK923.out 0).trans rfl, (blk_cell BK923.out 1).trans rfl, (blk_cell BK923.out 2).trans rfl, (blk_cell BK923.out 3).trans rfl⟩ (fun hHeld => ?_)
       clear hK K
       refine norm_ (a' := ?_) ?_ ?_
       rotate_left
       ·show Act.put _ (some 37) _ = _
        simp only [Act.put, List.setIfInBounds_toArray, List.set_cons_zero, List.set_cons_succ, i64_w, i32_w]
        rfl
       refine pure_ (i := 3) (N := some 38) (v := ?_) (a' := ?_) #[true, true, true, true, false] rfl rfl (by kernel_rfl) (fun _ _ _ h => h) (Or.inl ⟨by rfl, ?_⟩) ?_ ?_
       rotate_left
       ·intro w'
        go_simp
        with_reducible rfl
       rotate_left
       ·simp only [Act.put, List.setIfInBounds_toArray, List.set_cons_zero, List.set_cons_succ, i64_w, i32_w]
        rfl
       refine pure_ (i := 4) (N := some 4) (v := ?_) (a' := ?_) #[true, true, true, true, true] rfl rfl (by kernel_rfl) (fun _ _ _ h => h) (Or.inl ⟨by rfl, ?_⟩) ?_ ?_
       rotate_left
       ·intro w'
        go_simp
        with_reducible rfl
       rotate_left
       ·simp only [Act.put, List.setIfInBounds_toArray, List.set_cons_zero, List.set_cons_succ, i64_w, i32_w]
        rfl
       refine done_ (by kernel_rfl) ?_
       try go_wp2
       go_ret
       exact ⟨by first | rfl | (simp [errW_none, errW_some] <;> rfl) | (simp [*, errW_none, errW_some] <;> rfl), by repeat first | (with_reducible first | exact HB.out | apply vA | apply vN | apply vD | refine vS ?_ GE923.out | refine vS ?_ GE928.out) | exact HB.out⟩
      ·replace c33 := Bool.eq_false_iff.mpr c33
       subst c33
       rw [if_neg (show ¬ (false = true) by decide)] at H
       replace H := Option.bind_eq_some_iff.mp H
       obtain ⟨⟨t939, t940, t941, t942, t943⟩, A370, H⟩ := H
       try dsimp only at H
       have A37 := Aside0.mk A370
       clear A370
       replace H := Option.bind_eq_some_iff.mp H
       obtain ⟨t945, A380, H⟩ := H
       try dsimp only at H
       have A38 := Aside0.mk A380
       clear A380
       by_cases c39 : t945 = true
       ·subst c39
        rw [if_pos rfl] at H
        replace H := Option.bind_eq_some_iff.mp H
        obtain ⟨t946, A400, H⟩ := H
        try dsimp only at H
        have A40 := Aside0.mk A400
        clear A400
        replace H := Option.bind_eq_some_iff.mp H
        obtain ⟨t947, A410, H⟩ := H
        try dsimp only at H
        have A41 := Aside0.mk A410
        clear A410
        by_cases c42 : (t946 == t947) = true
        ·rw [if_pos c42] at H
         have c42b0 : (t946 == t947) = true := c42
         (try (have c42b1 : decide (t946 = t947) = true := by simpa using c42))
         (try (have c42b2 : (t946 == t947) = true := by simpa using c42))
         clear c42
         replace H := Option.bind_eq_some_iff.mp H
         obtain ⟨t948, A430, H⟩ := H
         try dsimp only at H
         have A43 := Aside0.mk A430
         clear A430
         replace H := Option.bind_eq_some_iff.mp H
         obtain ⟨t949, A440, H⟩ := H
         try dsimp only at H
         have A44 := Aside0.mk A440
         clear A440
         by_cases c45 : t948 = t949
         ·rw [if_pos c45] at H
          have c45b0 : (t948 == t949) = true := beq_iff_eq.mpr c45
          have c45b1 : (t948 != t949) = false := bne_eq_false_iff_eq.mpr c45
          clear c45
          by_cases c46 : t924 ≥ t919
          ·rw [if_pos c46] at H
           have c46b0 : decide (t919 ≤ t924) = true := decide_eq_true c46
           clear c46
           by_cases c47 : t925 ≤ t920
           ·rw [if_pos c47] at H
            have c47b0 : decide (t925 ≤ t920) = true := decide_eq_true c47
            clear c47
            obtain rfl := Option.some.inj H
            try go_wp2_with (first | ((with_reducible refine gate_callee (f := 37) rfl ?_); refine goesL_ (some 41) rfl rfl Try.func37 (by kernel_rfl) rfl #[.slice A1 l1.length c1] rfl (by (try simp only [List.map_toArray, List.map_cons, List.map_nil]); first | done | rfl | (simp only [List.length_drop, List.length_take]; rfl)) ?_; (with_reducible refine (spec_DrawRangeHas.calls kj7 _ _ l1 t939 t940 t941 t942 t943 _ ?side1 ?side2 A37.out).mono ?_); (case side1 => repeat (first | exact (Kd.C_below HR1.out HB.out) | (with_reducible refine Kd.C_alloc ?_ _) | (with_reducible refine Kd.C_drewN ?_ _) | (with_reducible refine Kd.C_drew ?_))); (case side2 => exact HC1.out); rintro e w48 ⟨rfl, hb⟩; refine ⟨_, rfl, ?_⟩; have n0_ := zb BK923 hb rfl; have n1_ := zb BK928 hb rfl; have n2_ := Aside0.mk (below_step (by repeat first | (with_reducible first | exact HB.out | apply vA | apply vN | apply vD | refine vS ?_ GE923.out | refine vS ?_ GE928.out) | exact HB.out) hb); clear BK923; clear BK928; clear HB; have BK923 := n0_; have BK928 := n1_; have HB := n2_; clear n0_ n1_ n2_; (try clear hb); (try clear hb2); (try clear hk); (try clear hi)) | ((with_reducible refine gate_dst (N := 7) rfl ?_); (try (refine gate_guard (by rfl) ?_; dsimp only)); refine box_event ?hg (N := 7) ?hd (cs := #[.int .i64 0, .int .i64 0, .int .i64 0, .int .i64 0]) (t := 24) ?hr ?_; (case hd => rfl); (case hg => rfl); (case hr => first | (go_simp; done) | (go_simp; rfl)); intro gb944 hg w49 hbox hb; have n0_ := zb BK923 hb rfl; have n1_ := zb BK928 hb rfl; have n2_ := Aside0.mk (below_step (by repeat first | (with_reducible first | exact HB.out | apply vA | apply vN | apply vD | refine vS ?_ GE923.out | refine vS ?_ GE928.out) | exact HB.out) hb); have n3_ := Aside0.mk (hbox); have n4_ := Aside0.mk ((by rw [hg]; exact (below_size (by repeat first | (with_reducible first | exact HB.out | apply vA | apply vN | apply vD | refine vS ?_ GE923.out | refine vS ?_ GE928.out) | exact HB.out)) : w.heap.size ≤ gb944)); have n5_ := n4_; have n6_ := zl BK923 hg rfl; have n7_ := zg BK923 hg rfl; have n8_ := zl BK928 hg rfl; have n9_ := zg BK928 hg rfl; clear BK923; clear BK928; clear HB; have BK923 := n0_; have BK928 := n1_; have HB := n2_; have BK944 := n3_; have GW944 := n4_; have GE944 := n5_; have NB923_944 := n6_; have NB944_923 := n7_; have NB928_944 := n8_; have NB944_928 := n9_; clear n0_ n1_ n2_ n3_ n4_ n5_ n6_ n7_ n8_ n9_; clear hb hbox hg; have hnb50 := NB944_923.out; have hnc50 := NB923_944.out; have hnb51 := NB944_928.out; have hnc51 := NB928_944.out; obtain ⟨hcz52_0, hcz52_1, hcz52_2, hcz52_3, hfz52_0, hfz52_1, hfz52_2, hfz52_3⟩ := zc4 BK944))
            have n0_ : Aside0 (((((w49.setCell ⟨gb944, 0, none⟩ (.int .i64 t939)).setCell ⟨gb944, 1, none⟩ (.int .i64 t940)).setCell ⟨gb944, 2, none⟩ (.int .i64 t941)).setCell ⟨gb944, 3, none⟩ (.int .i64 t942)).heap[gb923]? = some (.cells #[.int .i64 t919, .int .i64 t920, .int .i64 t921, .int .i64 t922] 24 (0, 0))) := ⟨by (with_reducible repeat first | apply bN | apply bD | apply bA); refine blk_far ?_ NB923_944.out _; (with_reducible repeat first | apply bN | apply bD | apply bA); refine blk_far ?_ NB923_944.out _; (with_reducible repeat first | apply bN | apply bD | apply bA); refine blk_far ?_ NB923_944.out _; (with_reducible repeat first | apply bN | apply bD | apply bA); refine blk_far ?_ NB923_944.out _; (with_reducible repeat first | apply bN | apply bD | apply bA); exact BK923.out⟩
            have n1_ : Aside0 (((((w49.setCell ⟨gb944, 0, none⟩ (.int .i64 t939)).setCell ⟨gb944, 1, none⟩ (.int .i64 t940)).setCell ⟨gb944, 2, none⟩ (.int .i64 t941)).setCell ⟨gb944, 3, none⟩ (.int .i64 t942)).heap[gb928]? = some (.cells #[.int .i64 t924, .int .i64 t925, .int .i64 t926, .int .i64 t927] 24 (0, 0))) := ⟨by (with_reducible repeat first | apply bN | apply bD | apply bA); refine blk_far ?_ NB928_944.out _; (with_reducible repeat first | apply bN | apply bD | apply bA); refine blk_far ?_ NB928_944.out _; (with_reducible repeat first | apply bN | apply bD | apply bA); refine blk_far ?_ NB928_944.out _; (with_reducible repeat first | apply bN | apply bD | apply bA); refine blk_far ?_ NB928_944.out _; (with_reducible repeat first | apply bN | apply bD | apply bA); exact BK928.out⟩
            have n2_ : Aside0 (((((w49.setCell ⟨gb944, 0, none⟩ (.int .i64 t939)).setCell ⟨gb944, 1, none⟩ (.int .i64 t940)).setCell ⟨gb944, 2, none⟩ (.int .i64 t941)).setCell ⟨gb944, 3, none⟩ (.int .i64 t942)).heap[gb944]? = some (.cells #[.int .i64 t939, .int .i64 t940, .int .i64 t941, .int .i64 t942] 24 (0, 0))) := ⟨by (with_reducible repeat first | apply bN | apply bD | apply bA); refine blk_put (cs := #[.int .i64 t939, .int .i64 t940, .int .i64 t941, .int .i64 0]) ?_ 3 _ rfl; (with_reducible repeat first | apply bN | apply bD | apply bA); refine blk_put (cs := #[.int .i64 t939, .int .i64 t940, .int .i64 0, .int .i64 0]) ?_ 2 _ rfl; (with_reducible repeat first | apply bN | apply bD | apply bA); refine blk_put (cs := #[.int .i64 t939, .int .i64 0, .int .i64 0, .int .i64 0]) ?_ 1 _ rfl; (with_reducible repeat first | apply bN | apply bD | apply bA); refine blk_put (cs := #[.int .i64 0, .int .i64 0, .int .i64 0, .int .i64 0]) ?_ 0 _ rfl; (with_reducible repeat first | apply bN | apply bD | apply bA); exact BK944.out⟩
            have n3_ : Aside0 (Below w.heap.size w ((((w49.setCell ⟨gb944, 0, none⟩ (.int .i64 t939)).setCell ⟨gb944, 1, none⟩ (.int .i64 t940)).setCell ⟨gb944, 2, none⟩ (.int .i64 t941)).setCell ⟨gb944, 3, none⟩ (.int .i64 t942))) := ⟨by repeat first | (with_reducible first | exact HB.out | apply vA | apply vN | apply vD | refine vS ?_ GE923.out | refine vS ?_ GE928.out | refine vS ?_ GE944.out) | exact HB.out⟩
            (try clear BK923)
            (try clear BK928)
            (try clear BK944)
            (try clear HB)
            generalize ((((w49.setCell ⟨gb944, 0, none⟩ (.int .i64 t939)).setCell ⟨gb944, 1, none⟩ (.int .i64 t940)).setCell ⟨gb944, 2, none⟩ (.int .i64 t941)).setCell ⟨gb944, 3, none⟩ (.int .i64 t942)) = w53 at n0_ n1_ n2_ n3_ ⊢
            have BK923 := n0_
            have BK928 := n1_
            have BK944 := n2_
            have HB := n3_
            clear n0_ n1_ n2_ n3_
            have n0_ := Aside0.mk (blk_drew BK923.out)
            have n1_ := Aside0.mk (blk_drew BK928.out)
            have n2_ := Aside0.mk (blk_drew BK944.out)
            have n3_ := Aside0.mk (below_drew1 HB.out)
            clear BK923
            clear BK928
            clear BK944
            clear HB
            have BK923 := n0_
            have BK928 := n1_
            have BK944 := n2_
            have HB := n3_
            clear n0_ n1_ n2_ n3_
            refine start_ (n := 43) (S := fun w' => w'.cell? ⟨gb928, 0, none⟩ = some (.int .i64 t924) ∧ w'.cell? ⟨gb928, 1, none⟩ = some (.int .i64 t925) ∧ w'.cell? ⟨gb928, 2, none⟩ = some (.int .i64 t926) ∧ w'.cell? ⟨gb928, 3, none⟩ = some (.int .i64 t927) ∧ w'.cell? ⟨gb923, 0, none⟩ = some (.int .i64 t919) ∧ w'.cell? ⟨gb923, 1, none⟩ = some (.int .i64 t920) ∧ w'.cell? ⟨gb923, 2, none⟩ = some (.int .i64 t921) ∧ w'.cell? ⟨gb923, 3, none⟩ = some (.int .i64 t922)) (ds := []) #[false, false, false, false, false, false, false, false, false, false, false, false, false, false, false, false, false, false, false, false, false, false, false, false, false, false, false, false, false, false, false, false, false, false, false, false, false, false, false, false, false, false, false] (by kernel_rfl) rfl rfl ⟨(blk_cell BK928.out 0).trans rfl, (blk_cell BK928.out 1).trans rfl, (blk_cell BK928.out 2).trans rfl, (blk_cell BK928.out 3).trans rfl, (blk_cell BK923.out 0).trans rfl, (blk_cell BK923.out 1).trans rfl, (blk_cell BK923.out 2).trans rfl, (blk_cell BK923.out 3).trans rfl⟩ (fun hHeld => ?_); refine with_tabW laws_FnTidy.tab8 laws_FnTidy.bits8 (fun HT_ HW_ => ?_)
            generalize w53.drew = w54 at BK923 BK928 BK944 HB hHeld ⊢
            refine take_ (i := 0) (N := some 44) (v := ?_) (a' := ?_) #[true, false, false, false, false, false, false, false, false, false, false, false, false, false, false, false, false, false, false, false, false, false, false, false, false, false, false, false, false, false, false, false, false, false, false, false, false, false, false, false, false, false, false] rfl rfl (take_ofW HT_.out HW_.out (by kernel_rfl)) (fun _ _ _ h => h) (Or.inl ⟨by rfl, ?_⟩) hHeld ?_ ?_
            rotate_left
            ·rintro w' ⟨s0, s1, s2, s3, s4, s5, s6, s7⟩
             go_simp
             with_reducible rfl
            rotate_left
            ·simp only [Act.put, List.setIfInBounds_toArray, List.set_cons_zero, List.set_cons_succ, i64_w, i32_w]
             rfl
            refine one_ (i := 1) (N := some 45) #[true, true, false, false, false, false, false, false, false, false, false, false, false, false, false, false, false, false, false, false, false, false, false, false, false, false, false, false, false, false, false, false, false, false, false, false, false, false, false, false, false, false, false] rfl rfl (one_of HT_.out (by kernel_rfl)) (by decide) (fun K hK => ?_)
            refine goes_ Try.func18 (by kernel_rfl) rfl #[.agg #[.int .i64 t924, .int .i64 t925, .int .i64 t926, .int .i64 t927]] (by rfl) rfl rfl (by (try simp only [List.map_toArray, List.map_cons, List.map_nil]); first | done | rfl | (simp only [List.length_drop, List.length_take]; rfl)) ?_
            with_reducible refine (impl_RangeOk.calls t924 t925 t926 t927 true _ A38.out).mono ?_
            rintro e w55 ⟨rfl, hb⟩
            refine ⟨_, rfl, ?_⟩
            have n0_ := zb BK923 hb rfl
            have n1_ := zb BK928 hb rfl
            have n2_ := zb BK944 hb rfl
            have n3_ := Aside0.mk (below_step (by repeat first | (with_reducible first | exact HB.out | apply vA | apply vN | apply vD | refine vS ?_ GE923.out | refine vS ?_ GE928.out | refine vS ?_ GE944.out) | exact HB.out) hb)
            clear BK923
            clear BK928
            clear BK944
            clear HB
            have BK923 := n0_
            have BK928 := n1_
            have BK944 := n2_
            have HB := n3_
            clear n0_ n1_ n2_ n3_
            (try clear hb)
            (try clear hb2)
            (try clear hk)
            (try clear hi)
            refine hK.out _ _ ⟨(blk_cell BK928.out 0).trans rfl, (blk_cell BK928.out 1).trans rfl, (blk_cell BK928.out 2).trans rfl, (blk_cell BK928.out 3).trans rfl, (blk_cell BK923.out 0).trans rfl, (blk_cell BK923.out 1).trans rfl, (blk_cell BK923.out 2).trans rfl, (blk_cell BK923.out 3).trans rfl⟩ (fun hHeld => ?_)
            clear hK K
            refine norm_ (a' := ?_) ?_ ?_
            rotate_left
            ·show Act.put _ (some 45) _ = _
             simp only [Act.put, List.setIfInBounds_toArray, List.set_cons_zero, List.set_cons_succ, i64_w, i32_w]
             rfl
            refine pure_ (i := 2) (N := some 46) (v := ?_) (a' := ?_) #[true, true, true, false, false, false, false, false, false, false, false, false, false, false, false, false, false, false, false, false, false, false, false, false, false, false, false, false, false, false, false, false, false, false, false, false, false, false, false, false, false, false, false] rfl rfl (any_of HT_.out (by kernel_rfl)) (fun _ _ _ h => h) (Or.inl ⟨by rfl, ?_⟩) ?_ ?_
            rotate_left
            ·intro w'
             go_simp
             with_reducible rfl
            rotate_left
            ·simp only [Act.put, List.setIfInBounds_toArray, List.set_cons_zero, List.set_cons_succ, i64_w, i32_w]
             rfl
            refine pure_ (i := 4) (N := some 48) (v := ?_) (a' := ?_) #[true, true, true, false, true, false, false, false, false, false, false, false, false, false, false, false, false, false, false, false, false, false, false, false, false, false, false, false, false, false, false, false, false, false, false, false, false, false, false, false, false, false, false] rfl rfl (any_of HT_.out (by kernel_rfl)) (fun _ _ _ h => h) (Or.inl ⟨by rfl, ?_⟩) ?_ ?_
            rotate_left
            ·intro w'
             go_simp
             with_reducible rfl
            rotate_left
            ·simp only [Act.put, List.setIfInBounds_toArray, List.set_cons_zero, List.set_cons_succ, i64_w, i32_w]
             rfl
            refine pure_ (i := 7) (N := some 51) (v := ?_) (a' := ?_) #[true, true, true, false, true, false, false, true, false, false, false, false, false, false, false, false, false, false, false, false, false, false, false, false, false, false, false, false, false, false, false, false, false, false, false, false, false, false, false, false, false, false, false] rfl rfl (any_of HT_.out (by kernel_rfl)) (fun _ _ _ h => h) (Or.inl ⟨by rfl, ?_⟩) ?_ ?_
            rotate_left
            ·intro w'
             go_simp
             with_reducible rfl
            rotate_left
            ·simp only [Act.put, List.setIfInBounds_toArray, List.set_cons_zero, List.set_cons_succ, i64_w, i32_w]
             rfl
            refine take_ (i := 3) (N := some 47) (v := ?_) (a' := ?_) #[true, true, true, true, true, false, false, true, false, false, false, false, false, false, false, false, false, false, false, false, false, false, false, false, false, false, false, false, false, false, false, false, false, false, false, false, false, false, false, false, false, false, false] rfl rfl (take_ofW HT_.out HW_.out (by kernel_rfl)) (fun _ _ _ h => h) (Or.inl ⟨by rfl, ?_⟩) hHeld ?_ ?_
            rotate_left
            ·rintro w' ⟨s0, s1, s2, s3, s4, s5, s6, s7⟩
             go_simp
             with_reducible rfl
            rotate_left
            ·simp only [Act.put, List.setIfInBounds_toArray, List.set_cons_zero, List.set_cons_succ, i64_w, i32_w]
             rfl
            refine take_ (i := 6) (N := some 50) (v := ?_) (a' := ?_) #[true, true, true, true, true, false, true, true, false, false, false, false, false, false, false, false, false, false, false, false, false, false, false, false, false, false, false, false, false, false, false, false, false, false, false, false, false, false, false, false, false, false, false] rfl rfl (take_ofW HT_.out HW_.out (by kernel_rfl)) (fun _ _ _ h => h) (Or.inl ⟨by rfl, ?_⟩) hHeld ?_ ?_
            rotate_left
            ·rintro w' ⟨s0, s1, s2, s3, s4, s5, s6, s7⟩
             go_simp
             with_reducible rfl
            rotate_left
            ·simp only [Act.put, List.setIfInBounds_toArray, List.set_cons_zero, List.set_cons_succ, i64_w, i32_w]
             rfl
            refine one_ (i := 5) (N := some 49) #[true, true, true, true, true, true, true, true, false, false, false, false, false, false, false, false, false, false, false, false, false, false, false, false, false, false, false, false, false, false, false, false, false, false, false, false, false, false, false, false, false, false, false] rfl rfl (one_of HT_.out (by kernel_rfl)) (by decide) (fun K hK => ?_)
            refine goes_ Try.func20 (by kernel_rfl) rfl #[.agg #[.int .i64 t924, .int .i64 t925, .int .i64 t926, .int .i64 t927], .int .i64 t943] (by rfl) rfl rfl (by (try simp only [List.map_toArray, List.map_cons, List.map_nil]); first | done | rfl | (simp only [List.length_drop, List.length_take]; rfl)) ?_
            with_reducible refine (impl_RangeHas.calls t924 t925 t926 t927 t943 t946 _ A40.out).mono ?_
            rintro e w56 ⟨rfl, hb⟩
            refine ⟨_, rfl, ?_⟩
            have n0_ := zb BK923 hb rfl
            have n1_ := zb BK928 hb rfl
            have n2_ := zb BK944 hb rfl
            have n3_ := Aside0.mk (below_step (by repeat first | (with_reducible first | exact HB.out | apply vA | apply vN | apply vD | refine vS ?_ GE923.out | refine vS ?_ GE928.out | refine vS ?_ GE944.out) | exact HB.out) hb)
            clear BK923
            clear BK928
            clear BK944
            clear HB
            have BK923 := n0_
            have BK928 := n1_
            have BK944 := n2_
            have HB := n3_
            clear n0_ n1_ n2_ n3_
            (try clear hb)
            (try clear hb2)
            (try clear hk)
            (try clear hi)
            refine hK.out _ _ ⟨(blk_cell BK928.out 0).trans rfl, (blk_cell BK928.out 1).trans rfl, (blk_cell BK928.out 2).trans rfl, (blk_cell BK928.out 3).trans rfl, (blk_cell BK923.out 0).trans rfl, (blk_cell BK923.out 1).trans rfl, (blk_cell BK923.out 2).trans rfl, (blk_cell BK923.out 3).trans rfl⟩ (fun hHeld => ?_)
            clear hK K
            refine norm_ (a' := ?_) ?_ ?_
            rotate_left
            ·show Act.put _ (some 49) _ = _
             simp only [Act.put, List.setIfInBounds_toArray, List.set_cons_zero, List.set_cons_succ, i64_w, i32_w]
             rfl
            refine one_ (i := 8) (N := some 52) #[true, true, true, true, true, true, true, true, true, false, false, false, false, false, false, false, false, false, false, false, false, false, false, false, false, false, false, false, false, false, false, false, false, false, false, false, false, false, false, false, false, false, false] rfl rfl (one_of HT_.out (by kernel_rfl)) (by decide) (fun K hK => ?_)
            refine goes_ Try.func20 (by kernel_rfl) rfl #[.agg #[.int .i64 t919, .int .i64 t920, .int .i64 t921, .int .i64 t922], .int .i64 t943] (by rfl) rfl rfl (by (try simp only [List.map_toArray, List.map_cons, List.map_nil]); first | done | rfl | (simp only [List.length_drop, List.length_take]; rfl)) ?_
            with_reducible refine (impl_RangeHas.calls t919 t920 t921 t922 t943 t947 _ A41.out).mono ?_
            rintro e w57 ⟨rfl, hb⟩
            refine ⟨_, rfl, ?_⟩
            have n0_ := zb BK923 hb rfl
            have n1_ := zb BK928 hb rfl
            have n2_ := zb BK944 hb rfl
            have n3_ := Aside0.mk (below_step (by repeat first | (with_reducible first | exact HB.out | apply vA | apply vN | apply vD | refine vS ?_ GE923.out | refine vS ?_ GE928.out | refine vS ?_ GE944.out) | exact HB.out) hb)
            clear BK923
            clear BK928
            clear BK944
            clear HB
            have BK923 := n0_
            have BK928 := n1_
            have BK944 := n2_
            have HB := n3_
            clear n0_ n1_ n2_ n3_
            (try clear hb)
            (try clear hb2)
            (try clear hk)
            (try clear hi)
            refine hK.out _ _ ⟨(blk_cell BK928.out 0).trans rfl, (blk_cell BK928.out 1).trans rfl, (blk_cell BK928.out 2).trans rfl, (blk_cell BK928.out 3).trans rfl, (blk_cell BK923.out 0).trans rfl, (blk_cell BK923.out 1).trans rfl, (blk_cell BK923.out 2).trans rfl, (blk_cell BK923.out 3).trans rfl⟩ (fun hHeld => ?_)
            clear hK K
            refine norm_ (a' := ?_) ?_ ?_
            rotate_left
            ·show Act.put _ (some 52) _ = _
             simp only [Act.put, List.setIfInBounds_toArray, List.set_cons_zero, List.set_cons_succ, i64_w, i32_w]
             rfl
            refine pure_ (i := 9) (N := some 53) (v := ?_) (a' := ?_) #[true, true, true, true, true, true, true, true, true, true, false, false, false, false, false, false, false, false, false, false, false, false, false, false, false, false, false, false, false, false, false, false, false, false, false, false, false, false, false, false, false, false, false] rfl rfl (any_of HT_.out (by kernel_rfl)) (fun _ _ _ h => h) (Or.inl ⟨by rfl, ?_⟩) ?_ ?_
            rotate_left
            ·intro w'
             go_simp
             with_reducible rfl
            rotate_left
            ·simp only [Act.put, List.setIfInBounds_toArray, List.set_cons_zero, List.set_cons_succ, i64_w, i32_w]
             rfl
            refine pure_ (i := 10) (N := some 54) (v := ?_) (a' := ?_) #[true, true, true, true, true, true, true, true, true, true, true, false, false, false, false, false, false, false, false, false, false, false, false, false, false, false, false, false, false, false, false, false, false, false, false, false, false, false, false, false, false, false, false] rfl rfl (any_of HT_.out (by kernel_rfl)) (fun _ _ _ h => h) (Or.inl ⟨by rfl, ?_⟩) ?_ ?_
            rotate_left
            ·intro w'
             go_simp
             with_reducible rfl
            rotate_left
            ·simp only [Act.put, List.setIfInBounds_toArray, List.set_cons_zero, List.set_cons_succ, i64_w, i32_w]
             rfl
            refine pure_ (i := 11) (N := some 55) (v := ?_) (a' := ?_) #[true, true, true, true, true, true, true, true, true, true, true, true, false, false, false, false, false, false, false, false, false, false, false, false, false, false, false, false, false, false, false, false, false, false, false, false, false, false, false, false, false, false, false] rfl rfl (any_of HT_.out (by kernel_rfl)) (fun _ _ _ h => h) (Or.inl ⟨by rfl, ?_⟩) ?_ ?_
            rotate_left
            ·intro w'
             go_simp
             with_reducible rfl
            rotate_left
            ·simp only [Act.put, List.setIfInBounds_toArray, List.set_cons_zero, List.set_cons_succ, i64_w, i32_w]
             rfl
            refine take_ (i := 12) (N := some 56) (v := ?_) (a' := ?_) #[true, true, true, true, true, true, true, true, true, true, true, true, true, false, false, false, false, false, false, false, false, false, false, false, false, false, false, false, false, false, false, false, false, false, false, false, false, false, false, false, false, false, false] rfl rfl (take_ofW HT_.out HW_.out (by kernel_rfl)) (fun _ _ _ h => h) (Or.inl ⟨by rfl, ?_⟩) hHeld ?_ ?_
            rotate_left
            ·rintro w' ⟨s0, s1, s2, s3, s4, s5, s6, s7⟩
             go_simp
             with_reducible rfl
            rotate_left
            ·simp only [Act.put, List.setIfInBounds_toArray, List.set_cons_zero, List.set_cons_succ, i64_w, i32_w]
             rfl
            refine take_ (i := 14) (N := some 58) (v := ?_) (a' := ?_) #[true, true, true, true, true, true, true, true, true, true, true, true, true, false, true, false, false, false, false, false, false, false, false, false, false, false, false, false, false, false, false, false, false, false, false, false, false, false, false, false, false, false, false] rfl rfl (take_ofW HT_.out HW_.out (by kernel_rfl)) (fun _ _ _ h => h) (Or.inl ⟨by rfl, ?_⟩) hHeld ?_ ?_
            rotate_left
            ·rintro w' ⟨s0, s1, s2, s3, s4, s5, s6, s7⟩
             go_simp
             with_reducible rfl
            rotate_left
            ·simp only [Act.put, List.setIfInBounds_toArray, List.set_cons_zero, List.set_cons_succ, i64_w, i32_w]
             rfl
            refine one_ (i := 13) (N := some 57) #[true, true, true, true, true, true, true, true, true, true, true, true, true, true, true, false, false, false, false, false, false, false, false, false, false, false, false, false, false, false, false, false, false, false, false, false, false, false, false, false, false, false, false] rfl rfl (one_of HT_.out (by kernel_rfl)) (by decide) (fun K hK => ?_)
            refine goes_ Try.func22 (by kernel_rfl) rfl #[.agg #[.int .i64 t924, .int .i64 t925, .int .i64 t926, .int .i64 t927]] (by rfl) rfl rfl (by (try simp only [List.map_toArray, List.map_cons, List.map_nil]); first | done | rfl | (simp only [List.length_drop, List.length_take]; rfl)) ?_
            with_reducible refine (impl_RangeLeast.calls kj7 t924 t925 t926 t927 t948 _ A43.out).mono ?_
            rintro e w58 ⟨rfl, hb⟩
            refine ⟨_, rfl, ?_⟩
            have n0_ := zb BK923 hb rfl
            have n1_ := zb BK928 hb rfl
            have n2_ := zb BK944 hb rfl
            have n3_ := Aside0.mk (below_step (by repeat first | (with_reducible first | exact HB.out | apply vA | apply vN | apply vD | refine vS ?_ GE923.out | refine vS ?_ GE928.out | refine vS ?_ GE944.out) | exact HB.out) hb)
            clear BK923
            clear BK928
            clear BK944
            clear HB
            have BK923 := n0_
            have BK928 := n1_
            have BK944 := n2_
            have HB := n3_
            clear n0_ n1_ n2_ n3_
            (try clear hb)
            (try clear hb2)
            (try clear hk)
            (try clear hi)
            refine hK.out _ _ ⟨(blk_cell BK928.out 0).trans rfl, (blk_cell BK928.out 1).trans rfl, (blk_cell BK928.out 2).trans rfl, (blk_cell BK928.out 3).trans rfl, (blk_cell BK923.out 0).trans rfl, (blk_cell BK923.out 1).trans rfl, (blk_cell BK923.out 2).trans rfl, (blk_cell BK923.out 3).trans rfl⟩ (fun hHeld => ?_)
            clear hK K
            refine norm_ (a' := ?_) ?_ ?_
            rotate_left
            ·show Act.put _ (some 57) _ = _
             simp only [Act.put, List.setIfInBounds_toArray, List.set_cons_zero, List.set_cons_succ, i64_w, i32_w]
             rfl
            refine one_ (i := 15) (N := some 59) #[true, true, true, true, true, true, true, true, true, true, true, true, true, true, true, true, false, false, false, false, false, false, false, false, false, false, false, false, false, false, false, false, false, false, false, false, false, false, false, false, false, false, false] rfl rfl (one_of HT_.out (by kernel_rfl)) (by decide) (fun K hK => ?_)
            refine goes_ Try.func22 (by kernel_rfl) rfl #[.agg #[.int .i64 t919, .int .i64 t920, .int .i64 t921, .int .i64 t922]] (by rfl) rfl rfl (by (try simp only [List.map_toArray, List.map_cons, List.map_nil]); first | done | rfl | (simp only [List.length_drop, List.length_take]; rfl)) ?_
            with_reducible refine (impl_RangeLeast.calls kj7 t919 t920 t921 t922 t949 _ A44.out).mono ?_
            rintro e w59 ⟨rfl, hb⟩
            refine ⟨_, rfl, ?_⟩
            have n0_ := zb BK923 hb rfl
            have n1_ := zb BK928 hb rfl
            have n2_ := zb BK944 hb rfl
            have n3_ := Aside0.mk (below_step (by repeat first | (with_reducible first | exact HB.out | apply vA | apply vN | apply vD | refine vS ?_ GE923.out | refine vS ?_ GE928.out | refine vS ?_ GE944.out) | exact HB.out) hb)
            clear BK923
            clear BK928
            clear BK944
            clear HB
            have BK923 := n0_
            have BK928 := n1_
            have BK944 := n2_
            have HB := n3_
            clear n0_ n1_ n2_ n3_
            (try clear hb)
            (try clear hb2)
            (try clear hk)
            (try clear hi)
            refine hK.out _ _ ⟨(blk_cell BK928.out 0).trans rfl, (blk_cell BK928.out 1).trans rfl, (blk_cell BK928.out 2).trans rfl, (blk_cell BK928.out 3).trans rfl, (blk_cell BK923.out 0).trans rfl, (blk_cell BK923.out 1).trans rfl, (blk_cell BK923.out 2).trans rfl, (blk_cell BK923.out 3).trans rfl⟩ (fun hHeld => ?_)
            clear hK K
            refine norm_ (a' := ?_) ?_ ?_
            rotate_left
            ·show Act.put _ (some 59) _ = _
             simp only [Act.put, List.setIfInBounds_toArray, List.set_cons_zero, List.set_cons_succ, i64_w, i32_w]
             rfl
            refine pure_ (i := 16) (N := some 60) (v := ?_) (a' := ?_) #[true, true, true, true, true, true, true, true, true, true, true, true, true, true, true, true, true, false, false, false, false, false, false, false, false, false, false, false, false, false, false, false, false, false, false, false, false, false, false, false, false, false, false] rfl rfl (any_of HT_.out (by kernel_rfl)) (fun _ _ _ h => h) (Or.inl ⟨by rfl, ?_⟩) ?_ ?_
            rotate_left
            ·intro w'
             go_simp
             with_reducible rfl
            rotate_left
            ·simp only [Act.put, List.setIfInBounds_toArray, List.set_cons_zero, List.set_cons_succ, i64_w, i32_w]
             rfl
            refine pure_ (i := 17) (N := some 61) (v := ?_) (a' := ?_) #[true, true, true, true, true, true, true, true, true, true, true, true, true, true, true, true, true, true, false, false, false, false, false, false, false, false, false, false, false, false, false, false, false, false, false, false, false, false, false, false, false, false, false] rfl rfl (any_of HT_.out (by kernel_rfl)) (fun _ _ _ h => h) (Or.inl ⟨by rfl, ?_⟩) ?_ ?_
            rotate_left
            ·intro w'
             go_simp
             with_reducible rfl
            rotate_left
            ·simp only [Act.put, List.setIfInBounds_toArray, List.set_cons_zero, List.set_cons_succ, i64_w, i32_w]
             rfl
            refine pure_ (i := 18) (N := some 62) (v := ?_) (a' := ?_) #[true, true, true, true, true, true, true, true, true, true, true, true, true, true, true, true, true, true, true, false, false, false, false, false, false, false, false, false, false, false, false, false, false, false, false, false, false, false, false, false, false, false, false] rfl rfl (any_of HT_.out (by kernel_rfl)) (fun _ _ _ h => h) (Or.inl ⟨by rfl, ?_⟩) ?_ ?_
            rotate_left
            ·intro w'
             go_simp
             with_reducible rfl
            rotate_left
            ·simp only [Act.put, List.setIfInBounds_toArray, List.set_cons_zero, List.set_cons_succ, i64_w, i32_w]
             rfl
            refine pure_ (i := 19) (N := some 63) (v := ?_) (a' := ?_) #[true, true, true, true, true, true, true, true, true, true, true, true, true, true, true, true, true, true, true, true, false, false, false, false, false, false, false, false, false, false, false, false, false, false, false, false, false, false, false, false, false, false, false] rfl rfl (any_of HT_.out (by kernel_rfl)) (fun _ _ _ h => h) (Or.inl ⟨by rfl, ?_⟩) ?_ ?_
            rotate_left
            ·intro w'
             go_simp
             with_reducible rfl
            rotate_left
            ·simp only [Act.put, List.setIfInBounds_toArray, List.set_cons_zero, List.set_cons_succ, i64_w, i32_w]
             rfl
            refine pure_ (i := 21) (N := some 65) (v := ?_) (a' := ?_) #[true, true, true, true, true, true, true, true, true, true, true, true, true, true, true, true, true, true, true, true, false, true, false, false, false, false, false, false, false, false, false, false, false, false, false, false, false, false, false, false, false, false, false] rfl rfl (any_of HT_.out (by kernel_rfl)) (fun _ _ _ h => h) (Or.inl ⟨by rfl, ?_⟩) ?_ ?_
            rotate_left
            ·intro w'
             go_simp
             with_reducible rfl
            rotate_left
            ·simp only [Act.put, List.setIfInBounds_toArray, List.set_cons_zero, List.set_cons_succ, i64_w, i32_w]
             rfl
            refine take_ (i := 20) (N := some 64) (v := ?_) (a' := ?_) #[true, true, true, true, true, true, true, true, true, true, true, true, true, true, true, true, true, true, true, true, true, true, false, false, false, false, false, false, false, false, false, false, false, false, false, false, false, false, false, false, false, false, false] rfl rfl (take_ofW HT_.out HW_.out (by kernel_rfl)) (fun _ _ _ h => h) (Or.inl ⟨by rfl, ?_⟩) hHeld ?_ ?_
            rotate_left
            ·rintro w' ⟨s0, s1, s2, s3, s4, s5, s6, s7⟩
             go_simp
             with_reducible rfl
            rotate_left
            ·simp only [Act.put, List.setIfInBounds_toArray, List.set_cons_zero, List.set_cons_succ, i64_w, i32_w]
             rfl
            refine take_ (i := 22) (N := some 66) (v := ?_) (a' := ?_) #[true, true, true, true, true, true, true, true, true, true, true, true, true, true, true, true, true, true, true, true, true, true, true, false, false, false, false, false, false, false, false, false, false, false, false, false, false, false, false, false, false, false, false] rfl rfl (take_ofW HT_.out HW_.out (by kernel_rfl)) (fun _ _ _ h => h) (Or.inl ⟨by rfl, ?_⟩) hHeld ?_ ?_
            rotate_left
            ·rintro w' ⟨s0, s1, s2, s3, s4, s5, s6, s7⟩
             go_simp
             with_reducible rfl
            rotate_left
            ·simp only [Act.put, List.setIfInBounds_toArray, List.set_cons_zero, List.set_cons_succ, i64_w, i32_w]
             rfl
            refine pure_ (i := 23) (N := some 67) (v := ?_) (a' := ?_) #[true, true, true, true, true, true, true, true, true, true, true, true, true, true, true, true, true, true, true, true, true, true, true, true, false, false, false, false, false, false, false, false, false, false, false, false, false, false, false, false, false, false, false] rfl rfl (any_of HT_.out (by kernel_rfl)) (fun _ _ _ h => h) (Or.inl ⟨by rfl, ?_⟩) ?_ ?_
            rotate_left
            ·intro w'
             go_simp
             with_reducible rfl
            rotate_left
            ·simp only [Act.put, List.setIfInBounds_toArray, List.set_cons_zero, List.set_cons_succ, i64_w, i32_w]
             rfl
            refine pure_ (i := 24) (N := some 68) (v := ?_) (a' := ?_) #[true, true, true, true, true, true, true, true, true, true, true, true, true, true, true, true, true, true, true, true, true, true, true, true, true, false, false, false, false, false, false, false, false, false, false, false, false, false, false, false, false, false, false] rfl rfl (any_of HT_.out (by kernel_rfl)) (fun _ _ _ h => h) (Or.inl ⟨by rfl, ?_⟩) ?_ ?_
            rotate_left
            ·intro w'
             go_simp
             with_reducible rfl
            rotate_left
            ·simp only [Act.put, List.setIfInBounds_toArray, List.set_cons_zero, List.set_cons_succ, i64_w, i32_w]
             rfl
            refine pure_ (i := 25) (N := some 69) (v := ?_) (a' := ?_) #[true, true, true, true, true, true, true, true, true, true, true, true, true, true, true, true, true, true, true, true, true, true, true, true, true, true, false, false, false, false, false, false, false, false, false, false, false, false, false, false, false, false, false] rfl rfl (any_of HT_.out (by kernel_rfl)) (fun _ _ _ h => h) (Or.inl ⟨by rfl, ?_⟩) ?_ ?_
            rotate_left
            ·intro w'
             go_simp
             with_reducible rfl
            rotate_left
            ·simp only [Act.put, List.setIfInBounds_toArray, List.set_cons_zero, List.set_cons_succ, i64_w, i32_w]
             rfl
            refine pure_ (i := 26) (N := some 70) (v := ?_) (a' := ?_) #[true, true, true, true, true, true, true, true, true, true, true, true, true, true, true, true, true, true, true, true, true, true, true, true, true, true, true, false, false, false, false, false, false, false, false, false, false, false, false, false, false, false, false] rfl rfl (any_of HT_.out (by kernel_rfl)) (fun _ _ _ h => h) (Or.inl ⟨by rfl, ?_⟩) ?_ ?_
            rotate_left
            ·intro w'
             go_simp
             with_reducible rfl
            rotate_left
            ·simp only [Act.put, List.setIfInBounds_toArray, List.set_cons_zero, List.set_cons_succ, i64_w, i32_w]
             rfl
            refine pure_ (i := 28) (N := some 72) (v := ?_) (a' := ?_) #[true, true, true, true, true, true, true, true, true, true, true, true, true, true, true, true, true, true, true, true, true, true, true, true, true, true, true, false, true, false, false, false, false, false, false, false, false, false, false, false, false, false, false] rfl rfl (any_of HT_.out (by kernel_rfl)) (fun _ _ _ h => h) (Or.inl ⟨by rfl, ?_⟩) ?_ ?_
            rotate_left
            ·intro w'
             go_simp
             with_reducible rfl
            rotate_left
            ·simp only [Act.put, List.setIfInBounds_toArray, List.set_cons_zero, List.set_cons_succ, i64_w, i32_w]
             rfl
            refine take_ (i := 27) (N := some 71) (v := ?_) (a' := ?_) #[true, true, true, true, true, true, true, true, true, true, true, true, true, true, true, true, true, true, true, true, true, true, true, true, true, true, true, true, true, false, false, false, false, false, false, false, false, false, false, false, false, false, false] rfl rfl (take_ofW HT_.out HW_.out (by kernel_rfl)) (fun _ _ _ h => h) (Or.inl ⟨by rfl, ?_⟩) hHeld ?_ ?_
            rotate_left
            ·rintro w' ⟨s0, s1, s2, s3, s4, s5, s6, s7⟩
             go_simp
             with_reducible rfl
            rotate_left
            ·simp only [Act.put, List.setIfInBounds_toArray, List.set_cons_zero, List.set_cons_succ, i64_w, i32_w]
             rfl
            refine take_ (i := 29) (N := some 73) (v := ?_) (a' := ?_) #[true, true, true, true, true, true, true, true, true, true, true, true, true, true, true, true, true, true, true, true, true, true, true, true, true, true, true, true, true, true, false, false, false, false, false, false, false, false, false, false, false, false, false] rfl rfl (take_ofW HT_.out HW_.out (by kernel_rfl)) (fun _ _ _ h => h) (Or.inl ⟨by rfl, ?_⟩) hHeld ?_ ?_
            rotate_left
            ·rintro w' ⟨s0, s1, s2, s3, s4, s5, s6, s7⟩
             go_simp
             with_reducible rfl
            rotate_left
            ·simp only [Act.put, List.setIfInBounds_toArray, List.set_cons_zero, List.set_cons_succ, i64_w, i32_w]
             rfl
            refine pure_ (i := 30) (N := some 74) (v := ?_) (a' := ?_) #[true, true, true, true, true, true, true, true, true, true, true, true, true, true, true, true, true, true, true, true, true, true, true, true, true, true, true, true, true, true, true, false, false, false, false, false, false, false, false, false, false, false, false] rfl rfl (any_of HT_.out (by kernel_rfl)) (fun _ _ _ h => h) (Or.inl ⟨by rfl, ?_⟩) ?_ ?_
            rotate_left
            ·intro w'
             go_simp
             with_reducible rfl
            rotate_left
            ·simp only [Act.put, List.setIfInBounds_toArray, List.set_cons_zero, List.set_cons_succ, i64_w, i32_w]
             rfl
            refine pure_ (i := 31) (N := some 75) (v := ?_) (a' := ?_) #[true, true, true, true, true, true, true, true, true, true, true, true, true, true, true, true, true, true, true, true, true, true, true, true, true, true, true, true, true, true, true, true, false, false, false, false, false, false, false, false, false, false, false] rfl rfl (any_of HT_.out (by kernel_rfl)) (fun _ _ _ h => h) (Or.inl ⟨by rfl, ?_⟩) ?_ ?_
            rotate_left
            ·intro w'
             go_simp
             with_reducible rfl
            rotate_left
            ·simp only [Act.put, List.setIfInBounds_toArray, List.set_cons_zero, List.set_cons_succ, i64_w, i32_w]
             rfl
            refine pure_ (i := 32) (N := some 76) (v := ?_) (a' := ?_) #[true, true, true, true, true, true, true, true, true, true, true, true, true, true, true, true, true, true, true, true, true, true, true, true, true, true, true, true, true, true, true, true, true, false, false, false, false, false, false, false, false, false, false] rfl rfl (any_of HT_.out (by kernel_rfl)) (fun _ _ _ h => h) (Or.inl ⟨by rfl, ?_⟩) ?_ ?_
            rotate_left
            ·intro w'
             go_simp
             with_reducible rfl
            rotate_left
            ·simp only [Act.put, List.setIfInBounds_toArray, List.set_cons_zero, List.set_cons_succ, i64_w, i32_w]
             rfl
            refine pure_ (i := 33) (N := some 77) (v := ?_) (a' := ?_) #[true, true, true, true, true, true, true, true, true, true, true, true, true, true, true, true, true, true, true, true, true, true, true, true, true, true, true, true, true, true, true, true, true, true, false, false, false, false, false, false, false, false, false] rfl rfl (any_of HT_.out (by kernel_rfl)) (fun _ _ _ h => h) (Or.inl ⟨by rfl, ?_⟩) ?_ ?_
            rotate_left
            ·intro w'
             go_simp
             with_reducible rfl
            rotate_left
            ·simp only [Act.put, List.setIfInBounds_toArray, List.set_cons_zero, List.set_cons_succ, i64_w, i32_w]
             rfl
            refine pure_ (i := 35) (N := some 79) (v := ?_) (a' := ?_) #[true, true, true, true, true, true, true, true, true, true, true, true, true, true, true, true, true, true, true, true, true, true, true, true, true, true, true, true, true, true, true, true, true, true, false, true, false, false, false, false, false, false, false] rfl rfl (any_of HT_.out (by kernel_rfl)) (fun _ _ _ h => h) (Or.inl ⟨by rfl, ?_⟩) ?_ ?_
            rotate_left
            ·intro w'
             go_simp
             with_reducible rfl
            rotate_left
            ·simp only [Act.put, List.setIfInBounds_toArray, List.set_cons_zero, List.set_cons_succ, i64_w, i32_w]
             rfl
            refine pure_ (i := 38) (N := some 82) (v := ?_) (a' := ?_) #[true, true, true, true, true, true, true, true, true, true, true, true, true, true, true, true, true, true, true, true, true, true, true, true, true, true, true, true, true, true, true, true, true, true, false, true, false, false, true, false, false, false, false] rfl rfl (any_of HT_.out (by kernel_rfl)) (fun _ _ _ h => h) (Or.inl ⟨by rfl, ?_⟩) ?_ ?_
            rotate_left
            ·intro w'
             go_simp
             with_reducible rfl
            rotate_left
            ·simp only [Act.put, List.setIfInBounds_toArray, List.set_cons_zero, List.set_cons_succ, i64_w, i32_w]
             rfl
            refine take_ (i := 34) (N := some 78) (v := ?_) (a' := ?_) #[true, true, true, true, true, true, true, true, true, true, true, true, true, true, true, true, true, true, true, true, true, true, true, true, true, true, true, true, true, true, true, true, true, true, true, true, false, false, true, false, false, false, false] rfl rfl (take_ofW HT_.out HW_.out (by kernel_rfl)) (fun _ _ _ h => h) (Or.inl ⟨by rfl, ?_⟩) hHeld ?_ ?_
            rotate_left
            ·rintro w' ⟨s0, s1, s2, s3, s4, s5, s6, s7⟩
             go_simp
             with_reducible rfl
            rotate_left
            ·simp only [Act.put, List.setIfInBounds_toArray, List.set_cons_zero, List.set_cons_succ, i64_w, i32_w]
             rfl
            refine take_ (i := 36) (N := some 80) (v := ?_) (a' := ?_) #[true, true, true, true, true, true, true, true, true, true, true, true, true, true, true, true, true, true, true, true, true, true, true, true, true, true, true, true, true, true, true, true, true, true, true, true, true, false, true, false, false, false, false] rfl rfl (take_ofW HT_.out HW_.out (by kernel_rfl)) (fun _ _ _ h => h) (Or.inl ⟨by rfl, ?_⟩) hHeld ?_ ?_
            rotate_left
            ·rintro w' ⟨s0, s1, s2, s3, s4, s5, s6, s7⟩
             go_simp
             with_reducible rfl
            rotate_left
            ·simp only [Act.put, List.setIfInBounds_toArray, List.set_cons_zero, List.set_cons_succ, i64_w, i32_w]
             rfl
            refine pure_ (i := 37) (N := some 81) (v := ?_) (a' := ?_) #[true, true, true, true, true, true, true, true, true, true, true, true, true, true, true, true, true, true, true, true, true, true, true, true, true, true, true, true, true, true, true, true, true, true, true, true, true, true, true, false, false, false, false] rfl rfl (any_of HT_.out (by kernel_rfl)) (fun _ _ _ h => h) (Or.inl ⟨by rfl, ?_⟩) ?_ ?_
            rotate_left
            ·intro w'
             go_simp
             with_reducible rfl
            rotate_left
            ·simp only [Act.put, List.setIfInBounds_toArray, List.set_cons_zero, List.set_cons_succ, i64_w, i32_w]
             rfl
            refine take_ (i := 39) (N := some 83) (v := ?_) (a' := ?_) #[true, true, true, true, true, true, true, true, true, true, true, true, true, true, true, true, true, true, true, true, true, true, true, true, true, true, true, true, true, true, true, true, true, true, true, true, true, true, true, true, false, false, false] rfl rfl (take_ofW HT_.out HW_.out (by kernel_rfl)) (fun _ _ _ h => h) (Or.inl ⟨by rfl, ?_⟩) hHeld ?_ ?_
            rotate_left
            ·rintro w' ⟨s0, s1, s2, s3, s4, s5, s6, s7⟩
             go_simp
             with_reducible rfl
            rotate_left
            ·simp only [Act.put, List.setIfInBounds_toArray, List.set_cons_zero, List.set_cons_succ, i64_w, i32_w]
             rfl
            refine pure_ (i := 40) (N := some 84) (v := ?_) (a' := ?_) #[true, true, true, true, true, true, true, true, true, true, true, true, true, true, true, true, true, true, true, true, true, true, true, true, true, true, true, true, true, true, true, true, true, true, true, true, true, true, true, true, true, false, false] rfl rfl (any_of HT_.out (by kernel_rfl)) (fun _ _ _ h => h) (Or.inl ⟨by rfl, ?_⟩) ?_ ?_
            rotate_left
            ·intro w'
             go_simp
             with_reducible rfl
            rotate_left
            ·simp only [Act.put, List.setIfInBounds_toArray, List.set_cons_zero, List.set_cons_succ, i64_w, i32_w]
             rfl
            refine pure_ (i := 41) (N := some 85) (v := ?_) (a' := ?_) #[true, true, true, true, true, true, true, true, true, true, true, true, true, true, true, true, true, true, true, true, true, true, true, true, true, true, true, true, true, true, true, true, true, true, true, true, true, true, true, true, true, true, false] rfl rfl (any_of HT_.out (by kernel_rfl)) (fun _ _ _ h => h) (Or.inl ⟨by rfl, ?_⟩) ?_ ?_
            rotate_left
            ·intro w'
             go_simp
             with_reducible rfl
            rotate_left
            ·simp only [Act.put, List.setIfInBounds_toArray, List.set_cons_zero, List.set_cons_succ, i64_w, i32_w]
             rfl
            refine pure_ (i := 42) (N := some 4) (v := ?_) (a' := ?_) #[true, true, true, true, true, true, true, true, true, true, true, true, true, true, true, true, true, true, true, true, true, true, true, true, true, true, true, true, true, true, true, true, true, true, true, true, true, true, true, true, true, true, true] rfl rfl (any_of HT_.out (by kernel_rfl)) (fun _ _ _ h => h) (Or.inl ⟨by rfl, ?_⟩) ?_ ?_
            rotate_left
            ·intro w'
             go_simp
             with_reducible rfl
            rotate_left
            ·simp only [Act.put, List.setIfInBounds_toArray, List.set_cons_zero, List.set_cons_succ, i64_w, i32_w]
             rfl
            refine done_ (done_of HT_.out (by kernel_rfl)) ?_
            try go_wp2
            go_ret
            exact ⟨by first | rfl | (simp [errW_none, errW_some] <;> rfl) | (simp [*, errW_none, errW_some] <;> rfl), by repeat first | (with_reducible first | exact HB.out | apply vA | apply vN | apply vD | refine vS ?_ GE923.out | refine vS ?_ GE928.out | refine vS ?_ GE944.out) | exact HB.out⟩
           ·rw [if_neg c47] at H
            have c47b0 : decide (t925 ≤ t920) = false := decide_eq_false c47
            clear c47
            exact absurd H (by simp)
          ·rw [if_neg c46] at H
           have c46b0 : decide (t919 ≤ t924) = false := decide_eq_false c46
           clear c46
           exact absurd H (by simp)
         ·rw [if_neg c45] at H
          have c45b0 : (t948 == t949) = false := beq_eq_false_iff_ne.mpr c45
          have c45b1 : (t948 != t949) = true := bne_iff_ne.mpr c45
          exact absurd H (by simp)
        ·rw [if_neg c42] at H
         have c42b0 : (t946 == t947) = false := by simpa using c42
         (try (have c42b1 : decide (t946 = t947) = false := by simpa using c42))
         (try (have c42b2 : (t946 == t947) = false := by simpa using c42))
         (try (have c42b3 : ¬ (t946 = t947) := by simpa using c42))
         clear c42
         exact absurd H (by simp)
       ·replace c39 := Bool.eq_false_iff.mpr c39
        subst c39
        rw [if_neg (show ¬ (false = true) by decide)] at H
        exact absurd H (by simp)

/-- THE ONE PURE STATEMENT of laws_FnTidy: yours. -/
def laws_FnTidy.Pure : Prop := ∀ (l0 : List Int) (l1 : List Int), l0.length ≤ maxLen → l0.length * 1 ≤ 140737488351232 → (∀ x ∈ l0, (Lit.int .u8 x).wf = true) → l1.length ≤ maxLen → l1.length * 1 ≤ 140737488351232 → (∀ x ∈ l1, (Lit.int .u8 x).wf = true) → ∃ k, laws_FnTidy.f k l0 l1 = some true
theorem laws_FnTidy.walk (P : laws_FnTidy.Pure) (a0 : Option Addr) (len0 cap0 : Nat) (z0 : List Int) (a1 : Option Addr) (len1 cap1 : Nat) (z1 : List Int) (w : World) (w0 : (a0 = none ∧ len0 = 0 ∧ cap0 = 0 ∧ z0 = []) ∨ ∃ x, a0 = some x ∧ len0 ≤ cap0 ∧ cap0 ≤ maxLen ∧ z0.length = cap0 ∧ (∀ i, i < z0.length → w.cell? (x.add i) = some (.int .u8 (z0.getD i 0))) ∧ ∀ n ∈ z0, (Lit.int .u8 n).wf = true) (y0 : len0 * 1 ≤ 140737488351232) (w1 : (a1 = none ∧ len1 = 0 ∧ cap1 = 0 ∧ z1 = []) ∨ ∃ x, a1 = some x ∧ len1 ≤ cap1 ∧ cap1 ≤ maxLen ∧ z1.length = cap1 ∧ (∀ i, i < z1.length → w.cell? (x.add i) = some (.int .u8 (z1.getD i 0))) ∧ ∀ n ∈ z1, (Lit.int .u8 n).wf = true) (y1 : len1 * 1 ≤ 140737488351232) :
  Calls Try.prog 12 #[.slice a0 len0 cap0, .slice a1 len1 cap1] w fun e w' => e = .returned (.bool true) ∧ Below w.heap.size w w' := by
 obtain ⟨l0, rfl, hr0, hm0, hw0, hc0⟩ := ReadsInt.ofRowC w0
 obtain ⟨l1, rfl, hr1, hm1, hw1, hc1⟩ := ReadsInt.ofRowC w1
 obtain ⟨k, h⟩ := P l0 l1 hm0 y0 hw0 hm1 y1 hw1
 refine (laws_FnTidy.calls k _ _ l0 _ _ l1 true w (Kd.C_of_reads (d := (0 : Int)) (h1 := fun _ => rfl) hr0) hc0 (Kd.C_of_reads (d := (0 : Int)) (h1 := fun _ => rfl) hr1) hc1 h).mono ?_
 rintro e w' ⟨rfl, hd⟩
 exact ⟨rfl, hd⟩

end Go.Proofs.Ytabencccbmjnbaa.Q
