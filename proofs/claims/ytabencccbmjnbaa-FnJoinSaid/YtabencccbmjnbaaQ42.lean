/- The machine's side of this seat's laws: Go functions as Lean functions, and their contracts. By a program of this work over the kit's print. -/
import Derived.Test.YtabencccbmjnbaaQ0
import Derived.Test.YtabencccbmjnbaaQ1
import Derived.Test.YtabencccbmjnbaaQ4
import Derived.Test.YtabencccbmjnbaaQ20
import Derived.Test.YtabencccbmjnbaaQ21
import Derived.Test.YtabencccbmjnbaaQ40
namespace Go.Proofs.Ytabencccbmjnbaa.Q
open Go.RowKit Go.Proofs.YtabencccbmjnbaaW.PrintWords Go.Proofs.YtabencccbmjnbaaW.PrintLast Go.Proofs.YtabencccbmjnbaaW.PrintMore
attribute [local go_sem] max2_int min2_int max_two min_two max_three min_three max_four min_four Go.Proofs.YtabencccbmjnbaaN.not_i64   -- for this text's walks alone
set_option linter.unusedVariables false
set_option linter.unusedSimpArgs false

attribute [local go_sem high] eqA24
/-! ### laws_FnJoin: function 14 -/
mutual
def laws_FnJoin.j0 : Nat → List Int → List Int → Bool → Option (Bool)
 | 0, _, _, _ => none
 | k + 1, x0, x1, x17 => if x17 = true then (some true) else ((spec_DrawRangeJoin.f k x0).bind fun bt1022 => ((impl_RangeJoin.f k bt1022.1 bt1022.2.1 bt1022.2.2.1 bt1022.2.2.2.1 bt1022.2.2.2.2.1 bt1022.2.2.2.2.2.1 bt1022.2.2.2.2.2.2.1 bt1022.2.2.2.2.2.2.2).bind fun bt1032 => ((spec_RangeJoin.f k bt1022.1 bt1022.2.1 bt1022.2.2.1 bt1022.2.2.2.1 bt1022.2.2.2.2.1 bt1022.2.2.2.2.2.1 bt1022.2.2.2.2.2.2.1 bt1022.2.2.2.2.2.2.2).bind fun bt1037 => (if (!(bt1032.1 == bt1037.1) || (!(bt1032.2.1 == bt1037.2.1) || (!(bt1032.2.2.1 == bt1037.2.2.1) || (!(bt1032.2.2.2 == bt1037.2.2.2))))) = true then (laws_FnJoin.j1 k x1 true bt1022.1 bt1022.2.1 bt1022.2.2.1 bt1022.2.2.2.1 bt1022.2.2.2.2.1 bt1022.2.2.2.2.2.1 bt1022.2.2.2.2.2.2.1 bt1022.2.2.2.2.2.2.2 bt1032.1 bt1032.2.1 bt1032.2.2.1 bt1032.2.2.2) else ((impl_RangeOk.f bt1032.1 bt1032.2.1 bt1032.2.2.1 bt1032.2.2.2).bind fun t1041 => (laws_FnJoin.j1 k x1 (!t1041) bt1022.1 bt1022.2.1 bt1022.2.2.1 bt1022.2.2.2.1 bt1022.2.2.2.2.1 bt1022.2.2.2.2.2.1 bt1022.2.2.2.2.2.2.1 bt1022.2.2.2.2.2.2.2 bt1032.1 bt1032.2.1 bt1032.2.2.1 bt1032.2.2.2))))))
def laws_FnJoin.j1 : Nat → List Int → Bool → Int → Int → Int → Int → Int → Int → Int → Int → Int → Int → Int → Int → Option (Bool)
 | 0, _, _, _, _, _, _, _, _, _, _, _, _, _, _ => none
 | k + 1, x1, x35, x1031000, x1031001, x1031002, x1031003, x1032000, x1032001, x1032002, x1032003, x1037000, x1037001, x1037002, x1037003 => if x35 = true then ((spec_RangeJoin.f k x1031000 x1031001 x1031002 x1031003 x1032000 x1032001 x1032002 x1032003).bind fun bt1042 => (some (x1037000 == bt1042.1 && (x1037001 == bt1042.2.1 && (x1037002 == bt1042.2.2.1 && (x1037003 == bt1042.2.2.2)))))) else ((laws_sgSome.f k x1031000 x1031001 x1031002 x1031003 (x1.length : Int)).bind fun t1046 => ((laws_sgSome.f k x1032000 x1032001 x1032002 x1032003 (wrap64 ((x1.length : Int) / 3))).bind fun t1047 => ((impl_RangeJoin.f k x1032000 x1032001 x1032002 x1032003 x1031000 x1031001 x1031002 x1031003).bind fun bt1048 => (if (bt1048.1 == x1037000 && (bt1048.2.1 == x1037001 && (bt1048.2.2.1 == x1037002 && (bt1048.2.2.2 == x1037003)))) = true then ((impl_RangeHas.f x1037000 x1037001 x1037002 x1037003 t1046).bind fun t1052 => (if t1052 = true then ((impl_RangeHas.f x1037000 x1037001 x1037002 x1037003 t1047).bind fun t1053 => (some t1053)) else (none))) else (none)))))
end
def laws_FnJoin.f (k : Nat) (l0 : List Int) (l1 : List Int) : Option (Bool) := if (l0.length : Int) > 1048576 then (laws_FnJoin.j0 k l0 l1 true) else (laws_FnJoin.j0 k l0 l1 (decide ((l1.length : Int) > 1048576)))


def laws_FnJoin.T5 : Bool × List (List Nat × List Nat) := (true, [([], []), ([], []), ([], []), ([1, 2], [1, 2]), ([0, 3], [0, 3]), ([4, 3], [4]), ([5], [5]), ([6, 5, 5], [5, 6]), ([7, 5], [5, 7]), ([5, 8], [5, 8])])
def laws_FnJoin.B5 : List Nat := [0, 0, 0, 6, 15, 31, 63, 127, 255, 511]
theorem laws_FnJoin.tab5 : rtab .any (opsOf Try.f14 5) = laws_FnJoin.T5 := by kernel_rfl
theorem laws_FnJoin.bits5 : waitsOk laws_FnJoin.T5.2 laws_FnJoin.B5 = true := by kernel_rfl
def laws_FnJoin.T9 : Bool × List (List Nat × List Nat) := (true, [([], []), ([], []), ([0, 1], [0, 1]), ([], []), ([2, 3], [2, 3]), ([4, 2], [4]), ([5], [5]), ([5], [5]), ([6, 7, 5, 5], [5, 6, 7]), ([5, 8], [5, 8]), ([9, 8], [9]), ([10], [10]), ([10], [10]), ([11, 12, 10, 10], [10, 11, 12]), ([10, 13], [10, 13]), ([14, 13, 0, 1, 2, 3, 4, 5, 6, 7, 8, 9, 10, 11, 12, 13, 14], [14])])
def laws_FnJoin.B9 : List Nat := [0, 0, 3, 0, 15, 31, 63, 63, 255, 511, 1023, 2047, 2047, 8191, 16383, 32767]
theorem laws_FnJoin.tab9 : rtab .any (opsOf Try.f14 9) = laws_FnJoin.T9 := by kernel_rfl
theorem laws_FnJoin.bits9 : waitsOk laws_FnJoin.T9.2 laws_FnJoin.B9 = true := by kernel_rfl
set_option maxHeartbeats 8000000 in
set_option maxRecDepth 100000 in
theorem laws_FnJoin.calls (k : Nat) (A0 : Option Addr) (c0 : Nat) (l0 : List Int) (A1 : Option Addr) (c1 : Nat) (l1 : List Int) (r : Bool) (w : World) (hr0 : Kd.C (Kd.int .u8) w A0 l0.length l0) (hc0 : l0.length ≤ c0) (hr1 : Kd.C (Kd.int .u8) w A1 l1.length l1) (hc1 : l1.length ≤ c1) (h : laws_FnJoin.f k l0 l1 = some r) :
  Calls Try.prog 14 #[.slice A0 l0.length c0, .slice A1 l1.length c1] w fun e w' => e = .returned (.bool r) ∧ Below w.heap.size w w' := by
 have hu24 := Try.underlying24
 have HR0 := Aside0.mk hr0
 have HC0 := Aside0.mk hc0
 clear hr0 hc0
 have HR1 := Aside0.mk hr1
 have HC1 := Aside0.mk hc1
 clear hr1 hc1
 have HB := Aside0.mk (Below.refl w.heap.size w)
 have H : (if (l0.length : Int) > 1048576 then (laws_FnJoin.j0 k l0 l1 true) else (laws_FnJoin.j0 k l0 l1 (decide ((l1.length : Int) > 1048576)))) = some r := h
 clear h
 have HC3 := Aside0.mk H
 clear H
 go_enter Try.func14, Try.ntmps14
 go_upto_region 1 with (fail)
 go_cut [17] (fun v17 wc => ∃ (kq : Nat) (x17_2 : Bool), v17 = .bool x17_2 ∧ Aside0 (laws_FnJoin.j0 kq l0 l1 x17_2 = some r) ∧ Aside0 (kq ≤ k) ∧ Aside0 (Below w.heap.size w wc))
 case first =>
  have H := HC3.out
  clear HC3
  by_cases c4 : (l0.length : Int) > 1048576
  ·rw [if_pos c4] at H
   have c4b0 : decide (1048576 < (l0.length : Int)) = true := decide_eq_true c4
   have c4b1 : decide (1048576 < l0.length) = true := decide_eq_true (by omega)
   clear c4
   (first | rw [c4b0] | (simp only [i64_w, i32_w]; rw [c4b0]) | skip)
   have H' := Aside0.mk H
   clear H
   go_wp2
   go_meet
   case rel => exact ⟨_, (true), (by first | rfl | (simp; done) | (simp [*]; done)), H', ⟨by first | omega | exact Nat.le_refl _⟩, ⟨by repeat first | (with_reducible first | exact HB.out | apply vA | apply vN | apply vD) | exact HB.out⟩⟩
  ·rw [if_neg c4] at H
   have c4b0 : decide (1048576 < (l0.length : Int)) = false := decide_eq_false c4
   have c4b1 : decide (1048576 < l0.length) = false := decide_eq_false (by omega)
   clear c4
   (first | rw [c4b0] | (simp only [i64_w, i32_w]; rw [c4b0]) | skip)
   have H' := Aside0.mk H
   clear H
   go_wp2
   go_meet
   case rel => exact ⟨_, (decide ((l1.length : Int) > 1048576)), (by first | rfl | (simp; done) | (simp [*]; done)), H', ⟨by first | omega | exact Nat.le_refl _⟩, ⟨by repeat first | (with_reducible first | exact HB.out | apply vA | apply vN | apply vD) | exact HB.out⟩⟩
 case rest =>
  clear HC3
  try clear c1
  try clear p2
  try clear c4
  try clear c4b0
  try clear c4b1
  obtain ⟨kq, x17_2, rfl, HA, HJ2, HB⟩ := hcut
  cases kq with
  | zero => exact absurd HA.out (by simp [laws_FnJoin.j0])
  | succ kj2 =>
   have H := HA.out
   clear HA
   simp only [laws_FnJoin.j0] at H
   by_cases c5 : x17_2 = true
   ·subst c5
    rw [if_pos rfl] at H
    obtain rfl := Option.some.inj H
    go_wp2
    go_ret
    exact ⟨by first | rfl | (simp [errW_none, errW_some] <;> rfl) | (simp [*, errW_none, errW_some] <;> rfl), by repeat first | (with_reducible first | exact HB.out | apply vA | apply vN | apply vD) | exact HB.out⟩
   ·replace c5 := Bool.eq_false_iff.mpr c5
    subst c5
    rw [if_neg (show ¬ (false = true) by decide)] at H
    replace H := Option.bind_eq_some_iff.mp H
    obtain ⟨⟨t1022, t1023, t1024, t1025, t1026, t1027, t1028, t1029⟩, A60, H⟩ := H
    try dsimp only at H
    have A6 := Aside0.mk A60
    clear A60
    replace H := Option.bind_eq_some_iff.mp H
    obtain ⟨⟨t1032, t1033, t1034, t1035⟩, A70, H⟩ := H
    try dsimp only at H
    have A7 := Aside0.mk A70
    clear A70
    have HC8 := Aside0.mk H
    clear H
    go_upto_region 5 with (first | ((with_reducible refine gate_callee (f := 44) rfl ?_); refine goesL_ (some 20) rfl rfl Try.func44 (by kernel_rfl) rfl #[.slice A0 l0.length c0] rfl (by (try simp only [List.map_toArray, List.map_cons, List.map_nil]); first | done | rfl | (simp only [List.length_drop, List.length_take]; rfl)) ?_; (with_reducible refine (spec_DrawRangeJoin.calls kj2 _ _ l0 t1022 t1023 t1024 t1025 t1026 t1027 t1028 t1029 _ ?side1 ?side2 A6.out).mono ?_); (case side1 => repeat (first | exact (Kd.C_below HR0.out HB.out) | (with_reducible refine Kd.C_alloc ?_ _) | (with_reducible refine Kd.C_drewN ?_ _) | (with_reducible refine Kd.C_drew ?_))); (case side2 => exact HC0.out); rintro e w9 ⟨rfl, hb⟩; refine ⟨_, rfl, ?_⟩; have n0_ := Aside0.mk (below_step (by repeat first | (with_reducible first | exact HB.out | apply vA | apply vN | apply vD) | exact HB.out) hb); clear HB; have HB := n0_; clear n0_; (try clear hb); (try clear hb2); (try clear hk); (try clear hi)) | ((with_reducible refine gate_dst (N := 5) rfl ?_); (try (refine gate_guard (by rfl) ?_; dsimp only)); refine box_event ?hg (N := 5) ?hd (cs := #[.int .i64 0, .int .i64 0, .int .i64 0, .int .i64 0]) (t := 24) ?hr ?_; (case hd => rfl); (case hg => rfl); (case hr => first | (go_simp; done) | (go_simp; rfl)); intro gb1030 hg w10 hbox hb; have n0_ := Aside0.mk (below_step (by repeat first | (with_reducible first | exact HB.out | apply vA | apply vN | apply vD) | exact HB.out) hb); have n1_ := Aside0.mk (hbox); have n2_ := Aside0.mk ((by rw [hg]; exact (below_size (by repeat first | (with_reducible first | exact HB.out | apply vA | apply vN | apply vD) | exact HB.out)) : w.heap.size ≤ gb1030)); have n3_ := n2_; clear HB; have HB := n0_; have BK1030 := n1_; have GW1030 := n2_; have GE1030 := n3_; clear n0_ n1_ n2_ n3_; clear hb hbox hg) | ((with_reducible refine gate_dst (N := 6) rfl ?_); (try (refine gate_guard (by rfl) ?_; dsimp only)); refine box_event ?hg (N := 6) ?hd (cs := #[.int .i64 0, .int .i64 0, .int .i64 0, .int .i64 0]) (t := 24) ?hr ?_; (case hd => rfl); (case hg => rfl); (case hr => first | (go_simp; done) | (go_simp; rfl)); intro gb1031 hg w11 hbox hb; have n0_ := zb BK1030 hb rfl; have n1_ := Aside0.mk (below_step (by repeat first | (with_reducible first | exact HB.out | apply vA | apply vN | apply vD | refine vS ?_ GE1030.out) | exact HB.out) hb); have n2_ := Aside0.mk (hbox); have n3_ := Aside0.mk ((by rw [hg]; exact (below_size (by repeat first | (with_reducible first | exact HB.out | apply vA | apply vN | apply vD | refine vS ?_ GE1030.out) | exact HB.out)) : w.heap.size ≤ gb1031)); have n4_ := n3_; have n5_ := zl BK1030 hg rfl; have n6_ := zg BK1030 hg rfl; clear BK1030; clear HB; have BK1030 := n0_; have HB := n1_; have BK1031 := n2_; have GW1031 := n3_; have GE1031 := n4_; have NB1030_1031 := n5_; have NB1031_1030 := n6_; clear n0_ n1_ n2_ n3_ n4_ n5_ n6_; clear hb hbox hg; have hnb12 := NB1030_1031.out; have hnc12 := NB1031_1030.out; obtain ⟨hcz13_0, hcz13_1, hcz13_2, hcz13_3, hfz13_0, hfz13_1, hfz13_2, hfz13_3⟩ := zc4 BK1030; obtain ⟨hcz14_0, hcz14_1, hcz14_2, hcz14_3, hfz14_0, hfz14_1, hfz14_2, hfz14_3⟩ := zc4 BK1031) | ((with_reducible refine gate_callee (f := 45) rfl ?_); refine goesL_ (some 25) rfl rfl Try.func45 (by kernel_rfl) rfl #[.agg #[.int .i64 t1022, .int .i64 t1023, .int .i64 t1024, .int .i64 t1025], .agg #[.int .i64 t1026, .int .i64 t1027, .int .i64 t1028, .int .i64 t1029]] rfl (by (try simp only [List.map_toArray, List.map_cons, List.map_nil]); first | done | rfl | (simp only [List.length_drop, List.length_take]; rfl)) ?_; (with_reducible refine (impl_RangeJoin.calls kj2 t1022 t1023 t1024 t1025 t1026 t1027 t1028 t1029 t1032 t1033 t1034 t1035 _ A7.out).mono ?_); rintro e w15 ⟨rfl, hb⟩; refine ⟨_, rfl, ?_⟩; have n0_ := Aside0.mk (blk_below (g := gb1030) (o := .cells #[.int .i64 t1022, .int .i64 t1023, .int .i64 t1024, .int .i64 t1025] 24 (0, 0)) (by (with_reducible repeat first | apply bN | apply bD | apply bA); refine blk_far ?_ NB1030_1031.out _; (with_reducible repeat first | apply bN | apply bD | apply bA); refine blk_far ?_ NB1030_1031.out _; (with_reducible repeat first | apply bN | apply bD | apply bA); refine blk_far ?_ NB1030_1031.out _; (with_reducible repeat first | apply bN | apply bD | apply bA); refine blk_far ?_ NB1030_1031.out _; (with_reducible repeat first | apply bN | apply bD | apply bA); refine blk_put (cs := #[.int .i64 t1022, .int .i64 t1023, .int .i64 t1024, .int .i64 0]) ?_ 3 _ rfl; (with_reducible repeat first | apply bN | apply bD | apply bA); refine blk_put (cs := #[.int .i64 t1022, .int .i64 t1023, .int .i64 0, .int .i64 0]) ?_ 2 _ rfl; (with_reducible repeat first | apply bN | apply bD | apply bA); refine blk_put (cs := #[.int .i64 t1022, .int .i64 0, .int .i64 0, .int .i64 0]) ?_ 1 _ rfl; (with_reducible repeat first | apply bN | apply bD | apply bA); refine blk_put (cs := #[.int .i64 0, .int .i64 0, .int .i64 0, .int .i64 0]) ?_ 0 _ rfl; (with_reducible repeat first | apply bN | apply bD | apply bA); exact BK1030.out) hb); have n1_ := Aside0.mk (blk_below (g := gb1031) (o := .cells #[.int .i64 t1026, .int .i64 t1027, .int .i64 t1028, .int .i64 t1029] 24 (0, 0)) (by (with_reducible repeat first | apply bN | apply bD | apply bA); refine blk_put (cs := #[.int .i64 t1026, .int .i64 t1027, .int .i64 t1028, .int .i64 0]) ?_ 3 _ rfl; (with_reducible repeat first | apply bN | apply bD | apply bA); refine blk_put (cs := #[.int .i64 t1026, .int .i64 t1027, .int .i64 0, .int .i64 0]) ?_ 2 _ rfl; (with_reducible repeat first | apply bN | apply bD | apply bA); refine blk_put (cs := #[.int .i64 t1026, .int .i64 0, .int .i64 0, .int .i64 0]) ?_ 1 _ rfl; (with_reducible repeat first | apply bN | apply bD | apply bA); refine blk_put (cs := #[.int .i64 0, .int .i64 0, .int .i64 0, .int .i64 0]) ?_ 0 _ rfl; (with_reducible repeat first | apply bN | apply bD | apply bA); refine blk_far ?_ NB1031_1030.out _; (with_reducible repeat first | apply bN | apply bD | apply bA); refine blk_far ?_ NB1031_1030.out _; (with_reducible repeat first | apply bN | apply bD | apply bA); refine blk_far ?_ NB1031_1030.out _; (with_reducible repeat first | apply bN | apply bD | apply bA); refine blk_far ?_ NB1031_1030.out _; (with_reducible repeat first | apply bN | apply bD | apply bA); exact BK1031.out) hb); have n2_ := Aside0.mk (below_step (by repeat first | (with_reducible first | exact HB.out | apply vA | apply vN | apply vD | refine vS ?_ GE1030.out | refine vS ?_ GE1031.out) | exact HB.out) hb); clear BK1030; clear BK1031; clear HB; have BK1030 := n0_; have BK1031 := n1_; have HB := n2_; clear n0_ n1_ n2_; (try clear hb); (try clear hb2); (try clear hk); (try clear hi)) | ((with_reducible refine gate_dst (N := 7) rfl ?_); (try (refine gate_guard (by rfl) ?_; dsimp only)); refine box_event ?hg (N := 7) ?hd (cs := #[.int .i64 0, .int .i64 0, .int .i64 0, .int .i64 0]) (t := 24) ?hr ?_; (case hd => rfl); (case hg => rfl); (case hr => first | (go_simp; done) | (go_simp; rfl)); intro gb1036 hg w16 hbox hb; have n0_ := zb BK1030 hb rfl; have n1_ := zb BK1031 hb rfl; have n2_ := Aside0.mk (below_step (by repeat first | (with_reducible first | exact HB.out | apply vA | apply vN | apply vD | refine vS ?_ GE1030.out | refine vS ?_ GE1031.out) | exact HB.out) hb); have n3_ := Aside0.mk (hbox); have n4_ := Aside0.mk ((by rw [hg]; exact (below_size (by repeat first | (with_reducible first | exact HB.out | apply vA | apply vN | apply vD | refine vS ?_ GE1030.out | refine vS ?_ GE1031.out) | exact HB.out)) : w.heap.size ≤ gb1036)); have n5_ := n4_; have n6_ := zl BK1030 hg rfl; have n7_ := zg BK1030 hg rfl; have n8_ := zl BK1031 hg rfl; have n9_ := zg BK1031 hg rfl; clear BK1030; clear BK1031; clear HB; have BK1030 := n0_; have BK1031 := n1_; have HB := n2_; have BK1036 := n3_; have GW1036 := n4_; have GE1036 := n5_; have NB1030_1036 := n6_; have NB1036_1030 := n7_; have NB1031_1036 := n8_; have NB1036_1031 := n9_; clear n0_ n1_ n2_ n3_ n4_ n5_ n6_ n7_ n8_ n9_; clear hb hbox hg; have hnb17 := NB1036_1030.out; have hnc17 := NB1030_1036.out; have hnb18 := NB1036_1031.out; have hnc18 := NB1031_1036.out; obtain ⟨hcz19_0, hcz19_1, hcz19_2, hcz19_3, hfz19_0, hfz19_1, hfz19_2, hfz19_3⟩ := zc4 BK1036))
    (try simp only [Act.put, List.setIfInBounds_toArray, List.set_cons_zero, List.set_cons_succ])
    go_cut [35] (fun v35 wc => ∃ (kq : Nat) (x35_7 : Bool), v35 = .bool x35_7 ∧ Aside0 (laws_FnJoin.j1 kq l1 x35_7 t1022 t1023 t1024 t1025 t1026 t1027 t1028 t1029 t1032 t1033 t1034 t1035 = some r) ∧ Aside0 (kq ≤ kj2) ∧ Aside0 (wc.heap[gb1030]? = some (.cells #[.int .i64 t1022, .int .i64 t1023, .int .i64 t1024, .int .i64 t1025] 24 (0, 0))) ∧ Aside0 (wc.heap[gb1031]? = some (.cells #[.int .i64 t1026, .int .i64 t1027, .int .i64 t1028, .int .i64 t1029] 24 (0, 0))) ∧ Aside0 (wc.heap[gb1036]? = some (.cells #[.int .i64 t1032, .int .i64 t1033, .int .i64 t1034, .int .i64 t1035] 24 (0, 0))) ∧ Aside0 (Below w.heap.size w wc))
    case first =>
     have H := HC8.out
     clear HC8
     replace H := Option.bind_eq_some_iff.mp H
     obtain ⟨⟨t1037, t1038, t1039, t1040⟩, A200, H⟩ := H
     try dsimp only at H
     have A20 := Aside0.mk A200
     clear A200
     by_cases c21 : (!(t1032 == t1037) || (!(t1033 == t1038) || (!(t1034 == t1039) || (!(t1035 == t1040))))) = true
     ·rw [if_pos c21] at H
      have c21b0 : (!(t1032 == t1037) || (!(t1033 == t1038) || (!(t1034 == t1039) || (!(t1035 == t1040))))) = true := c21
      clear c21
      (first | rw [c21b0] | (simp only [i64_w, i32_w]; rw [c21b0]) | skip)
      have H' := Aside0.mk H
      clear H
      try go_wp2
      have n0_ : Aside0 (((((w16.setCell ⟨gb1036, 0, none⟩ (.int .i64 t1032)).setCell ⟨gb1036, 1, none⟩ (.int .i64 t1033)).setCell ⟨gb1036, 2, none⟩ (.int .i64 t1034)).setCell ⟨gb1036, 3, none⟩ (.int .i64 t1035)).heap[gb1030]? = some (.cells #[.int .i64 t1022, .int .i64 t1023, .int .i64 t1024, .int .i64 t1025] 24 (0, 0))) := ⟨by (with_reducible repeat first | apply bN | apply bD | apply bA); refine blk_far ?_ NB1030_1036.out _; (with_reducible repeat first | apply bN | apply bD | apply bA); refine blk_far ?_ NB1030_1036.out _; (with_reducible repeat first | apply bN | apply bD | apply bA); refine blk_far ?_ NB1030_1036.out _; (with_reducible repeat first | apply bN | apply bD | apply bA); refine blk_far ?_ NB1030_1036.out _; (with_reducible repeat first | apply bN | apply bD | apply bA); exact BK1030.out⟩
      have n1_ : Aside0 (((((w16.setCell ⟨gb1036, 0, none⟩ (.int .i64 t1032)).setCell ⟨gb1036, 1, none⟩ (.int .i64 t1033)).setCell ⟨gb1036, 2, none⟩ (.int .i64 t1034)).setCell ⟨gb1036, 3, none⟩ (.int .i64 t1035)).heap[gb1031]? = some (.cells #[.int .i64 t1026, .int .i64 t1027, .int .i64 t1028, .int .i64 t1029] 24 (0, 0))) := ⟨by (with_reducible repeat first | apply bN | apply bD | apply bA); refine blk_far ?_ NB1031_1036.out _; (with_reducible repeat first | apply bN | apply bD | apply bA); refine blk_far ?_ NB1031_1036.out _; (with_reducible repeat first | apply bN | apply bD | apply bA); refine blk_far ?_ NB1031_1036.out _; (with_reducible repeat first | apply bN | apply bD | apply bA); refine blk_far ?_ NB1031_1036.out _; (with_reducible repeat first | apply bN | apply bD | apply bA); exact BK1031.out⟩
      have n2_ : Aside0 (((((w16.setCell ⟨gb1036, 0, none⟩ (.int .i64 t1032)).setCell ⟨gb1036, 1, none⟩ (.int .i64 t1033)).setCell ⟨gb1036, 2, none⟩ (.int .i64 t1034)).setCell ⟨gb1036, 3, none⟩ (.int .i64 t1035)).heap[gb1036]? = some (.cells #[.int .i64 t1032, .int .i64 t1033, .int .i64 t1034, .int .i64 t1035] 24 (0, 0))) := ⟨by (with_reducible repeat first | apply bN | apply bD | apply bA); refine blk_put (cs := #[.int .i64 t1032, .int .i64 t1033, .int .i64 t1034, .int .i64 0]) ?_ 3 _ rfl; (with_reducible repeat first | apply bN | apply bD | apply bA); refine blk_put (cs := #[.int .i64 t1032, .int .i64 t1033, .int .i64 0, .int .i64 0]) ?_ 2 _ rfl; (with_reducible repeat first | apply bN | apply bD | apply bA); refine blk_put (cs := #[.int .i64 t1032, .int .i64 0, .int .i64 0, .int .i64 0]) ?_ 1 _ rfl; (with_reducible repeat first | apply bN | apply bD | apply bA); refine blk_put (cs := #[.int .i64 0, .int .i64 0, .int .i64 0, .int .i64 0]) ?_ 0 _ rfl; (with_reducible repeat first | apply bN | apply bD | apply bA); exact BK1036.out⟩
      have n3_ : Aside0 (Below w.heap.size w ((((w16.setCell ⟨gb1036, 0, none⟩ (.int .i64 t1032)).setCell ⟨gb1036, 1, none⟩ (.int .i64 t1033)).setCell ⟨gb1036, 2, none⟩ (.int .i64 t1034)).setCell ⟨gb1036, 3, none⟩ (.int .i64 t1035))) := ⟨by repeat first | (with_reducible first | exact HB.out | apply vA | apply vN | apply vD | refine vS ?_ GE1030.out | refine vS ?_ GE1031.out | refine vS ?_ GE1036.out) | exact HB.out⟩
      (try clear BK1030)
      (try clear BK1031)
      (try clear BK1036)
      (try clear HB)
      generalize ((((w16.setCell ⟨gb1036, 0, none⟩ (.int .i64 t1032)).setCell ⟨gb1036, 1, none⟩ (.int .i64 t1033)).setCell ⟨gb1036, 2, none⟩ (.int .i64 t1034)).setCell ⟨gb1036, 3, none⟩ (.int .i64 t1035)) = w22 at n0_ n1_ n2_ n3_ ⊢
      have BK1030 := n0_
      have BK1031 := n1_
      have BK1036 := n2_
      have HB := n3_
      clear n0_ n1_ n2_ n3_
      have n0_ := Aside0.mk (blk_drew BK1030.out)
      have n1_ := Aside0.mk (blk_drew BK1031.out)
      have n2_ := Aside0.mk (blk_drew BK1036.out)
      have n3_ := Aside0.mk (below_drew1 HB.out)
      clear BK1030
      clear BK1031
      clear BK1036
      clear HB
      have BK1030 := n0_
      have BK1031 := n1_
      have BK1036 := n2_
      have HB := n3_
      clear n0_ n1_ n2_ n3_
      refine start_ (n := 10) (S := fun w' => w'.cell? ⟨gb1036, 0, none⟩ = some (.int .i64 t1032) ∧ w'.cell? ⟨gb1036, 1, none⟩ = some (.int .i64 t1033) ∧ w'.cell? ⟨gb1036, 2, none⟩ = some (.int .i64 t1034) ∧ w'.cell? ⟨gb1036, 3, none⟩ = some (.int .i64 t1035) ∧ w'.cell? ⟨gb1030, 0, none⟩ = some (.int .i64 t1022) ∧ w'.cell? ⟨gb1030, 1, none⟩ = some (.int .i64 t1023) ∧ w'.cell? ⟨gb1030, 2, none⟩ = some (.int .i64 t1024) ∧ w'.cell? ⟨gb1030, 3, none⟩ = some (.int .i64 t1025) ∧ w'.cell? ⟨gb1031, 0, none⟩ = some (.int .i64 t1026) ∧ w'.cell? ⟨gb1031, 1, none⟩ = some (.int .i64 t1027) ∧ w'.cell? ⟨gb1031, 2, none⟩ = some (.int .i64 t1028) ∧ w'.cell? ⟨gb1031, 3, none⟩ = some (.int .i64 t1029)) (ds := []) #[false, false, false, false, false, false, false, false, false, false] (by kernel_rfl) rfl rfl ⟨(blk_cell BK1036.out 0).trans rfl, (blk_cell BK1036.out 1).trans rfl, (blk_cell BK1036.out 2).trans rfl, (blk_cell BK1036.out 3).trans rfl, (blk_cell BK1030.out 0).trans rfl, (blk_cell BK1030.out 1).trans rfl, (blk_cell BK1030.out 2).trans rfl, (blk_cell BK1030.out 3).trans rfl, (blk_cell BK1031.out 0).trans rfl, (blk_cell BK1031.out 1).trans rfl, (blk_cell BK1031.out 2).trans rfl, (blk_cell BK1031.out 3).trans rfl⟩ (fun hHeld => ?_); refine with_tabW laws_FnJoin.tab5 laws_FnJoin.bits5 (fun HT_ HW_ => ?_)
      generalize w22.drew = w23 at BK1030 BK1031 BK1036 HB hHeld ⊢
      refine take_ (i := 0) (N := some 26) (v := ?_) (a' := ?_) #[true, false, false, false, false, false, false, false, false, false] rfl rfl (take_ofW HT_.out HW_.out (by kernel_rfl)) (fun _ _ _ h => h) (Or.inl ⟨by rfl, ?_⟩) hHeld ?_ ?_
      rotate_left
      ·rintro w' ⟨s0, s1, s2, s3, s4, s5, s6, s7, s8, s9, s10, s11⟩
       go_simp
       with_reducible rfl
      rotate_left
      ·simp only [Act.put, List.setIfInBounds_toArray, List.set_cons_zero, List.set_cons_succ, i64_w, i32_w]
       rfl
      refine take_ (i := 1) (N := some 27) (v := ?_) (a' := ?_) #[true, true, false, false, false, false, false, false, false, false] rfl rfl (take_ofW HT_.out HW_.out (by kernel_rfl)) (fun _ _ _ h => h) (Or.inl ⟨by rfl, ?_⟩) hHeld ?_ ?_
      rotate_left
      ·rintro w' ⟨s0, s1, s2, s3, s4, s5, s6, s7, s8, s9, s10, s11⟩
       go_simp
       with_reducible rfl
      rotate_left
      ·simp only [Act.put, List.setIfInBounds_toArray, List.set_cons_zero, List.set_cons_succ, i64_w, i32_w]
       rfl
      refine take_ (i := 2) (N := some 28) (v := ?_) (a' := ?_) #[true, true, true, false, false, false, false, false, false, false] rfl rfl (take_ofW HT_.out HW_.out (by kernel_rfl)) (fun _ _ _ h => h) (Or.inl ⟨by rfl, ?_⟩) hHeld ?_ ?_
      rotate_left
      ·rintro w' ⟨s0, s1, s2, s3, s4, s5, s6, s7, s8, s9, s10, s11⟩
       go_simp
       with_reducible rfl
      rotate_left
      ·simp only [Act.put, List.setIfInBounds_toArray, List.set_cons_zero, List.set_cons_succ, i64_w, i32_w]
       rfl
      refine one_ (i := 3) (N := some 29) #[true, true, true, true, false, false, false, false, false, false] rfl rfl (one_of HT_.out (by kernel_rfl)) (by decide) (fun K hK => ?_)
      refine goes_ Try.func46 (by kernel_rfl) rfl #[.agg #[.int .i64 t1022, .int .i64 t1023, .int .i64 t1024, .int .i64 t1025], .agg #[.int .i64 t1026, .int .i64 t1027, .int .i64 t1028, .int .i64 t1029]] (by rfl) rfl rfl (by (try simp only [List.map_toArray, List.map_cons, List.map_nil]); first | done | rfl | (simp only [List.length_drop, List.length_take]; rfl)) ?_
      with_reducible refine (spec_RangeJoin.calls kj2 t1022 t1023 t1024 t1025 t1026 t1027 t1028 t1029 t1037 t1038 t1039 t1040 _ A20.out).mono ?_
      rintro e w24 ⟨rfl, hb⟩
      refine ⟨_, rfl, ?_⟩
      have n0_ := zb BK1030 hb rfl
      have n1_ := zb BK1031 hb rfl
      have n2_ := zb BK1036 hb rfl
      have n3_ := Aside0.mk (below_step (by repeat first | (with_reducible first | exact HB.out | apply vA | apply vN | apply vD | refine vS ?_ GE1030.out | refine vS ?_ GE1031.out | refine vS ?_ GE1036.out) | exact HB.out) hb)
      clear BK1030
      clear BK1031
      clear BK1036
      clear HB
      have BK1030 := n0_
      have BK1031 := n1_
      have BK1036 := n2_
      have HB := n3_
      clear n0_ n1_ n2_ n3_
      (try clear hb)
      (try clear hb2)
      (try clear hk)
      (try clear hi)
      refine hK.out _ _ ⟨(blk_cell BK1036.out 0).trans rfl, (blk_cell BK1036.out 1).trans rfl, (blk_cell BK1036.out 2).trans rfl, (blk_cell BK1036.out 3).trans rfl, (blk_cell BK1030.out 0).trans rfl, (blk_cell BK1030.out 1).trans rfl, (blk_cell BK1030.out 2).trans rfl, (blk_cell BK1030.out 3).trans rfl, (blk_cell BK1031.out 0).trans rfl, (blk_cell BK1031.out 1).trans rfl, (blk_cell BK1031.out 2).trans rfl, (blk_cell BK1031.out 3).trans rfl⟩ (fun hHeld => ?_)
      clear hK K
      refine norm_ (a' := ?_) ?_ ?_
      rotate_left
      ·show Act.put _ (some 29) _ = _
       simp only [Act.put, List.setIfInBounds_toArray, List.set_cons_zero, List.set_cons_succ, i64_w, i32_w]
       rfl
      refine pure_ (i := 4) (N := some 30) (v := ?_) (a' := ?_) #[true, true, true, true, true, false, false, false, false, false] rfl rfl (any_of HT_.out (by kernel_rfl)) (fun _ _ _ h => h) (Or.inl ⟨by rfl, ?_⟩) ?_ ?_
      rotate_left
      ·intro w'
       go_simp
       with_reducible rfl
      rotate_left
      ·simp only [Act.put, List.setIfInBounds_toArray, List.set_cons_zero, List.set_cons_succ, i64_w, i32_w]
       rfl
      refine pure_ (i := 5) (N := some 31) (v := ?_) (a' := ?_) #[true, true, true, true, true, true, false, false, false, false] rfl rfl (any_of HT_.out (by kernel_rfl)) (fun _ _ _ h => h) (Or.inl ⟨by rfl, ?_⟩) ?_ ?_
      rotate_left
      ·intro w'
       go_simp
       with_reducible rfl
      rotate_left
      ·simp only [Act.put, List.setIfInBounds_toArray, List.set_cons_zero, List.set_cons_succ, i64_w, i32_w]
       rfl
      refine pure_ (i := 6) (N := some 32) (v := undef) (a' := ?_) #[true, true, true, true, true, true, true, false, false, false] rfl rfl (any_of HT_.out (by kernel_rfl)) (fun _ _ _ h => h) (Or.inr ⟨by rfl, rfl⟩) ?_ ?_
      rotate_left
      ·simp only [Act.put, List.setIfInBounds_toArray, List.set_cons_zero, List.set_cons_succ, i64_w, i32_w]
       rfl
      refine pure_ (i := 7) (N := some 33) (v := undef) (a' := ?_) #[true, true, true, true, true, true, true, true, false, false] rfl rfl (any_of HT_.out (by kernel_rfl)) (fun _ _ _ h => h) (Or.inr ⟨by rfl, rfl⟩) ?_ ?_
      rotate_left
      ·simp only [Act.put, List.setIfInBounds_toArray, List.set_cons_zero, List.set_cons_succ, i64_w, i32_w]
       rfl
      refine pure_ (i := 8) (N := some 34) (v := undef) (a' := ?_) #[true, true, true, true, true, true, true, true, true, false] rfl rfl (any_of HT_.out (by kernel_rfl)) (fun _ _ _ h => h) (Or.inr ⟨by rfl, rfl⟩) ?_ ?_
      rotate_left
      ·simp only [Act.put, List.setIfInBounds_toArray, List.set_cons_zero, List.set_cons_succ, i64_w, i32_w]
       rfl
      refine pure_ (i := 9) (N := some 35) (v := ?_) (a' := ?_) #[true, true, true, true, true, true, true, true, true, true] rfl rfl (any_of HT_.out (by kernel_rfl)) (fun _ _ _ h => h) (Or.inl ⟨by rfl, ?_⟩) ?_ ?_
      rotate_left
      ·intro w'
       go_simp
       with_reducible rfl
      rotate_left
      ·simp only [Act.put, List.setIfInBounds_toArray, List.set_cons_zero, List.set_cons_succ, i64_w, i32_w]
       rfl
      refine done_ (done_of HT_.out (by kernel_rfl)) ?_
      try go_wp2
      go_meet
      case rel => exact ⟨_, (true), (by first | rfl | (simp; done) | (simp [*]; done)), H', ⟨by have := HJ2.out; first | omega | exact Nat.le_refl _⟩, ⟨by (with_reducible repeat first | apply bN | apply bD | apply bA); exact BK1030.out⟩, ⟨by (with_reducible repeat first | apply bN | apply bD | apply bA); exact BK1031.out⟩, ⟨by (with_reducible repeat first | apply bN | apply bD | apply bA); exact BK1036.out⟩, ⟨by repeat first | (with_reducible first | exact HB.out | apply vA | apply vN | apply vD | refine vS ?_ GE1030.out | refine vS ?_ GE1031.out | refine vS ?_ GE1036.out) | exact HB.out⟩⟩
     ·rw [if_neg c21] at H
      have c21b0 : (!(t1032 == t1037) || (!(t1033 == t1038) || (!(t1034 == t1039) || (!(t1035 == t1040))))) = false := by simpa using c21
      clear c21
      (first | rw [c21b0] | (simp only [i64_w, i32_w]; rw [c21b0]) | skip)
      replace H := Option.bind_eq_some_iff.mp H
      obtain ⟨t1041, A250, H⟩ := H
      try dsimp only at H
      have A25 := Aside0.mk A250
      clear A250
      have H' := Aside0.mk H
      clear H
      try go_wp2
      have n0_ : Aside0 (((((w16.setCell ⟨gb1036, 0, none⟩ (.int .i64 t1032)).setCell ⟨gb1036, 1, none⟩ (.int .i64 t1033)).setCell ⟨gb1036, 2, none⟩ (.int .i64 t1034)).setCell ⟨gb1036, 3, none⟩ (.int .i64 t1035)).heap[gb1030]? = some (.cells #[.int .i64 t1022, .int .i64 t1023, .int .i64 t1024, .int .i64 t1025] 24 (0, 0))) := ⟨by (with_reducible repeat first | apply bN | apply bD | apply bA); refine blk_far ?_ NB1030_1036.out _; (with_reducible repeat first | apply bN | apply bD | apply bA); refine blk_far ?_ NB1030_1036.out _; (with_reducible repeat first | apply bN | apply bD | apply bA); refine blk_far ?_ NB1030_1036.out _; (with_reducible repeat first | apply bN | apply bD | apply bA); refine blk_far ?_ NB1030_1036.out _; (with_reducible repeat first | apply bN | apply bD | apply bA); exact BK1030.out⟩
      have n1_ : Aside0 (((((w16.setCell ⟨gb1036, 0, none⟩ (.int .i64 t1032)).setCell ⟨gb1036, 1, none⟩ (.int .i64 t1033)).setCell ⟨gb1036, 2, none⟩ (.int .i64 t1034)).setCell ⟨gb1036, 3, none⟩ (.int .i64 t1035)).heap[gb1031]? = some (.cells #[.int .i64 t1026, .int .i64 t1027, .int .i64 t1028, .int .i64 t1029] 24 (0, 0))) := ⟨by (with_reducible repeat first | apply bN | apply bD | apply bA); refine blk_far ?_ NB1031_1036.out _; (with_reducible repeat first | apply bN | apply bD | apply bA); refine blk_far ?_ NB1031_1036.out _; (with_reducible repeat first | apply bN | apply bD | apply bA); refine blk_far ?_ NB1031_1036.out _; (with_reducible repeat first | apply bN | apply bD | apply bA); refine blk_far ?_ NB1031_1036.out _; (with_reducible repeat first | apply bN | apply bD | apply bA); exact BK1031.out⟩
      have n2_ : Aside0 (((((w16.setCell ⟨gb1036, 0, none⟩ (.int .i64 t1032)).setCell ⟨gb1036, 1, none⟩ (.int .i64 t1033)).setCell ⟨gb1036, 2, none⟩ (.int .i64 t1034)).setCell ⟨gb1036, 3, none⟩ (.int .i64 t1035)).heap[gb1036]? = some (.cells #[.int .i64 t1032, .int .i64 t1033, .int .i64 t1034, .int .i64 t1035] 24 (0, 0))) := ⟨by (with_reducible repeat first | apply bN | apply bD | apply bA); refine blk_put (cs := #[.int .i64 t1032, .int .i64 t1033, .int .i64 t1034, .int .i64 0]) ?_ 3 _ rfl; (with_reducible repeat first | apply bN | apply bD | apply bA); refine blk_put (cs := #[.int .i64 t1032, .int .i64 t1033, .int .i64 0, .int .i64 0]) ?_ 2 _ rfl; (with_reducible repeat first | apply bN | apply bD | apply bA); refine blk_put (cs := #[.int .i64 t1032, .int .i64 0, .int .i64 0, .int .i64 0]) ?_ 1 _ rfl; (with_reducible repeat first | apply bN | apply bD | apply bA); refine blk_put (cs := #[.int .i64 0, .int .i64 0, .int .i64 0, .int .i64 0]) ?_ 0 _ rfl; (with_reducible repeat first | apply bN | apply bD | apply bA); exact BK1036.out⟩
      have n3_ : Aside0 (Below w.heap.size w ((((w16.setCell ⟨gb1036, 0, none⟩ (.int .i64 t1032)).setCell ⟨gb1036, 1, none⟩ (.int .i64 t1033)).setCell ⟨gb1036, 2, none⟩ (.int .i64 t1034)).setCell ⟨gb1036, 3, none⟩ (.int .i64 t1035))) := ⟨by repeat first | (with_reducible first | exact HB.out | apply vA | apply vN | apply vD | refine vS ?_ GE1030.out | refine vS ?_ GE1031.out | refine vS ?_ GE1036.out) | exact HB.out⟩
      (try clear BK1030)
      (try clear BK1031)
      (try clear BK1036)
      (try clear HB)
      generalize ((((w16.setCell ⟨gb1036, 0, none⟩ (.int .i64 t1032)).setCell ⟨gb1036, 1, none⟩ (.int .i64 t1033)).setCell ⟨gb1036, 2, none⟩ (.int .i64 t1034)).setCell ⟨gb1036, 3, none⟩ (.int .i64 t1035)) = w26 at n0_ n1_ n2_ n3_ ⊢
      have BK1030 := n0_
      have BK1031 := n1_
      have BK1036 := n2_
      have HB := n3_
      clear n0_ n1_ n2_ n3_
      have n0_ := Aside0.mk (blk_drew BK1030.out)
      have n1_ := Aside0.mk (blk_drew BK1031.out)
      have n2_ := Aside0.mk (blk_drew BK1036.out)
      have n3_ := Aside0.mk (below_drew1 HB.out)
      clear BK1030
      clear BK1031
      clear BK1036
      clear HB
      have BK1030 := n0_
      have BK1031 := n1_
      have BK1036 := n2_
      have HB := n3_
      clear n0_ n1_ n2_ n3_
      refine start_ (n := 10) (S := fun w' => w'.cell? ⟨gb1036, 0, none⟩ = some (.int .i64 t1032) ∧ w'.cell? ⟨gb1036, 1, none⟩ = some (.int .i64 t1033) ∧ w'.cell? ⟨gb1036, 2, none⟩ = some (.int .i64 t1034) ∧ w'.cell? ⟨gb1036, 3, none⟩ = some (.int .i64 t1035) ∧ w'.cell? ⟨gb1030, 0, none⟩ = some (.int .i64 t1022) ∧ w'.cell? ⟨gb1030, 1, none⟩ = some (.int .i64 t1023) ∧ w'.cell? ⟨gb1030, 2, none⟩ = some (.int .i64 t1024) ∧ w'.cell? ⟨gb1030, 3, none⟩ = some (.int .i64 t1025) ∧ w'.cell? ⟨gb1031, 0, none⟩ = some (.int .i64 t1026) ∧ w'.cell? ⟨gb1031, 1, none⟩ = some (.int .i64 t1027) ∧ w'.cell? ⟨gb1031, 2, none⟩ = some (.int .i64 t1028) ∧ w'.cell? ⟨gb1031, 3, none⟩ = some (.int .i64 t1029)) (ds := []) #[false, false, false, false, false, false, false, false, false, false] (by kernel_rfl) rfl rfl ⟨(blk_cell BK1036.out 0).trans rfl, (blk_cell BK1036.out 1).trans rfl, (blk_cell BK1036.out 2).trans rfl, (blk_cell BK1036.out 3).trans rfl, (blk_cell BK1030.out 0).trans rfl, (blk_cell BK1030.out 1).trans rfl, (blk_cell BK1030.out 2).trans rfl, (blk_cell BK1030.out 3).trans rfl, (blk_cell BK1031.out 0).trans rfl, (blk_cell BK1031.out 1).trans rfl, (blk_cell BK1031.out 2).trans rfl, (blk_cell BK1031.out 3).trans rfl⟩ (fun hHeld => ?_); refine with_tabW laws_FnJoin.tab5 laws_FnJoin.bits5 (fun HT_ HW_ => ?_)
      generalize w26.drew = w27 at BK1030 BK1031 BK1036 HB hHeld ⊢
      refine take_ (i := 0) (N := some 26) (v := ?_) (a' := ?_) #[true, false, false, false, false, false, false, false, false, false] rfl rfl (take_ofW HT_.out HW_.out (by kernel_rfl)) (fun _ _ _ h => h) (Or.inl ⟨by rfl, ?_⟩) hHeld ?_ ?_
      rotate_left
      ·rintro w' ⟨s0, s1, s2, s3, s4, s5, s6, s7, s8, s9, s10, s11⟩
       go_simp
       with_reducible rfl
      rotate_left
      ·simp only [Act.put, List.setIfInBounds_toArray, List.set_cons_zero, List.set_cons_succ, i64_w, i32_w]
       rfl
      refine take_ (i := 1) (N := some 27) (v := ?_) (a' := ?_) #[true, true, false, false, false, false, false, false, false, false] rfl rfl (take_ofW HT_.out HW_.out (by kernel_rfl)) (fun _ _ _ h => h) (Or.inl ⟨by rfl, ?_⟩) hHeld ?_ ?_
      rotate_left
      ·rintro w' ⟨s0, s1, s2, s3, s4, s5, s6, s7, s8, s9, s10, s11⟩
       go_simp
       with_reducible rfl
      rotate_left
      ·simp only [Act.put, List.setIfInBounds_toArray, List.set_cons_zero, List.set_cons_succ, i64_w, i32_w]
       rfl
      refine take_ (i := 2) (N := some 28) (v := ?_) (a' := ?_) #[true, true, true, false, false, false, false, false, false, false] rfl rfl (take_ofW HT_.out HW_.out (by kernel_rfl)) (fun _ _ _ h => h) (Or.inl ⟨by rfl, ?_⟩) hHeld ?_ ?_
      rotate_left
      ·rintro w' ⟨s0, s1, s2, s3, s4, s5, s6, s7, s8, s9, s10, s11⟩
       go_simp
       with_reducible rfl
      rotate_left
      ·simp only [Act.put, List.setIfInBounds_toArray, List.set_cons_zero, List.set_cons_succ, i64_w, i32_w]
       rfl
      refine one_ (i := 3) (N := some 29) #[true, true, true, true, false, false, false, false, false, false] rfl rfl (one_of HT_.out (by kernel_rfl)) (by decide) (fun K hK => ?_)
      refine goes_ Try.func46 (by kernel_rfl) rfl #[.agg #[.int .i64 t1022, .int .i64 t1023, .int .i64 t1024, .int .i64 t1025], .agg #[.int .i64 t1026, .int .i64 t1027, .int .i64 t1028, .int .i64 t1029]] (by rfl) rfl rfl (by (try simp only [List.map_toArray, List.map_cons, List.map_nil]); first | done | rfl | (simp only [List.length_drop, List.length_take]; rfl)) ?_
      with_reducible refine (spec_RangeJoin.calls kj2 t1022 t1023 t1024 t1025 t1026 t1027 t1028 t1029 t1037 t1038 t1039 t1040 _ A20.out).mono ?_
      rintro e w28 ⟨rfl, hb⟩
      refine ⟨_, rfl, ?_⟩
      have n0_ := zb BK1030 hb rfl
      have n1_ := zb BK1031 hb rfl
      have n2_ := zb BK1036 hb rfl
      have n3_ := Aside0.mk (below_step (by repeat first | (with_reducible first | exact HB.out | apply vA | apply vN | apply vD | refine vS ?_ GE1030.out | refine vS ?_ GE1031.out | refine vS ?_ GE1036.out) | exact HB.out) hb)
      clear BK1030
      clear BK1031
      clear BK1036
      clear HB
      have BK1030 := n0_
      have BK1031 := n1_
      have BK1036 := n2_
      have HB := n3_
      clear n0_ n1_ n2_ n3_
      (try clear hb)
      (try clear hb2)
      (try clear hk)
      (try clear hi)
      refine hK.out _ _ ⟨(blk_cell BK1036.out 0).trans rfl, (blk_cell BK1036.out 1).trans rfl, (blk_cell BK1036.out 2).trans rfl, (blk_cell BK1036.out 3).trans rfl, (blk_cell BK1030.out 0).trans rfl, (blk_cell BK1030.out 1).trans rfl, (blk_cell BK1030.out 2).trans rfl, (blk_cell BK1030.out 3).trans rfl, (blk_cell BK1031.out 0).trans rfl, (blk_cell BK1031.out 1).trans rfl, (blk_cell BK1031.out 2).trans rfl, (blk_cell BK1031.out 3).trans rfl⟩ (fun hHeld => ?_)
      clear hK K
      refine norm_ (a' := ?_) ?_ ?_
      rotate_left
      ·show Act.put _ (some 29) _ = _
       simp only [Act.put, List.setIfInBounds_toArray, List.set_cons_zero, List.set_cons_succ, i64_w, i32_w]
       rfl
      refine pure_ (i := 4) (N := some 30) (v := ?_) (a' := ?_) #[true, true, true, true, true, false, false, false, false, false] rfl rfl (any_of HT_.out (by kernel_rfl)) (fun _ _ _ h => h) (Or.inl ⟨by rfl, ?_⟩) ?_ ?_
      rotate_left
      ·intro w'
       go_simp
       with_reducible rfl
      rotate_left
      ·simp only [Act.put, List.setIfInBounds_toArray, List.set_cons_zero, List.set_cons_succ, i64_w, i32_w]
       rfl
      refine pure_ (i := 5) (N := some 31) (v := ?_) (a' := ?_) #[true, true, true, true, true, true, false, false, false, false] rfl rfl (any_of HT_.out (by kernel_rfl)) (fun _ _ _ h => h) (Or.inl ⟨by rfl, ?_⟩) ?_ ?_
      rotate_left
      ·intro w'
       go_simp
       with_reducible rfl
      rotate_left
      ·simp only [Act.put, List.setIfInBounds_toArray, List.set_cons_zero, List.set_cons_succ, i64_w, i32_w]
       rfl
      refine take_ (i := 6) (N := some 32) (v := ?_) (a' := ?_) #[true, true, true, true, true, true, true, false, false, false] rfl rfl (take_ofW HT_.out HW_.out (by kernel_rfl)) (fun _ _ _ h => h) (Or.inl ⟨by rfl, ?_⟩) hHeld ?_ ?_
      rotate_left
      ·rintro w' ⟨s0, s1, s2, s3, s4, s5, s6, s7, s8, s9, s10, s11⟩
       go_simp
       with_reducible rfl
      rotate_left
      ·simp only [Act.put, List.setIfInBounds_toArray, List.set_cons_zero, List.set_cons_succ, i64_w, i32_w]
       rfl
      refine one_ (i := 7) (N := some 33) #[true, true, true, true, true, true, true, true, false, false] rfl rfl (one_of HT_.out (by kernel_rfl)) (by decide) (fun K hK => ?_)
      refine goes_ Try.func18 (by kernel_rfl) rfl #[.agg #[.int .i64 t1032, .int .i64 t1033, .int .i64 t1034, .int .i64 t1035]] (by rfl) rfl rfl (by (try simp only [List.map_toArray, List.map_cons, List.map_nil]); first | done | rfl | (simp only [List.length_drop, List.length_take]; rfl)) ?_
      with_reducible refine (impl_RangeOk.calls t1032 t1033 t1034 t1035 t1041 _ A25.out).mono ?_
      rintro e w29 ⟨rfl, hb⟩
      refine ⟨_, rfl, ?_⟩
      have n0_ := zb BK1030 hb rfl
      have n1_ := zb BK1031 hb rfl
      have n2_ := zb BK1036 hb rfl
      have n3_ := Aside0.mk (below_step (by repeat first | (with_reducible first | exact HB.out | apply vA | apply vN | apply vD | refine vS ?_ GE1030.out | refine vS ?_ GE1031.out | refine vS ?_ GE1036.out) | exact HB.out) hb)
      clear BK1030
      clear BK1031
      clear BK1036
      clear HB
      have BK1030 := n0_
      have BK1031 := n1_
      have BK1036 := n2_
      have HB := n3_
      clear n0_ n1_ n2_ n3_
      (try clear hb)
      (try clear hb2)
      (try clear hk)
      (try clear hi)
      refine hK.out _ _ ⟨(blk_cell BK1036.out 0).trans rfl, (blk_cell BK1036.out 1).trans rfl, (blk_cell BK1036.out 2).trans rfl, (blk_cell BK1036.out 3).trans rfl, (blk_cell BK1030.out 0).trans rfl, (blk_cell BK1030.out 1).trans rfl, (blk_cell BK1030.out 2).trans rfl, (blk_cell BK1030.out 3).trans rfl, (blk_cell BK1031.out 0).trans rfl, (blk_cell BK1031.out 1).trans rfl, (blk_cell BK1031.out 2).trans rfl, (blk_cell BK1031.out 3).trans rfl⟩ (fun hHeld => ?_)
      clear hK K
      refine norm_ (a' := ?_) ?_ ?_
      rotate_left
      ·show Act.put _ (some 33) _ = _
       simp only [Act.put, List.setIfInBounds_toArray, List.set_cons_zero, List.set_cons_succ, i64_w, i32_w]
       rfl
      refine pure_ (i := 8) (N := some 34) (v := ?_) (a' := ?_) #[true, true, true, true, true, true, true, true, true, false] rfl rfl (any_of HT_.out (by kernel_rfl)) (fun _ _ _ h => h) (Or.inl ⟨by rfl, ?_⟩) ?_ ?_
      rotate_left
      ·intro w'
       go_simp
       with_reducible rfl
      rotate_left
      ·simp only [Act.put, List.setIfInBounds_toArray, List.set_cons_zero, List.set_cons_succ, i64_w, i32_w]
       rfl
      refine pure_ (i := 9) (N := some 35) (v := ?_) (a' := ?_) #[true, true, true, true, true, true, true, true, true, true] rfl rfl (any_of HT_.out (by kernel_rfl)) (fun _ _ _ h => h) (Or.inl ⟨by rfl, ?_⟩) ?_ ?_
      rotate_left
      ·intro w'
       go_simp
       with_reducible rfl
      rotate_left
      ·simp only [Act.put, List.setIfInBounds_toArray, List.set_cons_zero, List.set_cons_succ, i64_w, i32_w]
       rfl
      refine done_ (done_of HT_.out (by kernel_rfl)) ?_
      try go_wp2
      go_meet
      case rel => exact ⟨_, (!t1041), (by first | rfl | (simp; done) | (simp [*]; done)), H', ⟨by have := HJ2.out; first | omega | exact Nat.le_refl _⟩, ⟨by (with_reducible repeat first | apply bN | apply bD | apply bA); exact BK1030.out⟩, ⟨by (with_reducible repeat first | apply bN | apply bD | apply bA); exact BK1031.out⟩, ⟨by (with_reducible repeat first | apply bN | apply bD | apply bA); exact BK1036.out⟩, ⟨by repeat first | (with_reducible first | exact HB.out | apply vA | apply vN | apply vD | refine vS ?_ GE1030.out | refine vS ?_ GE1031.out | refine vS ?_ GE1036.out) | exact HB.out⟩⟩
    case rest =>
     clear HC8
     try clear c1
     try clear c2
     try clear p2
     try clear c4
     try clear c4b0
     try clear c4b1
     try clear c5
     try clear c12
     try clear c14
     try clear c17
     try clear c18
     try clear c21
     try clear c21b0
     try clear hcz13_0
     try clear hcz13_1
     try clear hcz13_2
     try clear hcz13_3
     try clear hcz14_0
     try clear hcz14_1
     try clear hcz14_2
     try clear hcz14_3
     try clear hcz19_0
     try clear hcz19_1
     try clear hcz19_2
     try clear hcz19_3
     try clear hfz13_0
     try clear hfz13_1
     try clear hfz13_2
     try clear hfz13_3
     try clear hfz14_0
     try clear hfz14_1
     try clear hfz14_2
     try clear hfz14_3
     try clear hfz19_0
     try clear hfz19_1
     try clear hfz19_2
     try clear hfz19_3
     try clear p2
     obtain ⟨kq, x35_7, rfl, HA, HJ7, BK1030, BK1031, BK1036, HB⟩ := hcut
     cases kq with
     | zero => exact absurd HA.out (by simp [laws_FnJoin.j1])
     | succ kj7 =>
      have H := HA.out
      clear HA
      simp only [laws_FnJoin.j1] at H
      by_cases c30 : x35_7 = true
      ·subst c30
       rw [if_pos rfl] at H
       replace H := Option.bind_eq_some_iff.mp H
       obtain ⟨⟨t1042, t1043, t1044, t1045⟩, A310, H⟩ := H
       try dsimp only at H
       have A31 := Aside0.mk A310
       clear A310
       obtain rfl := Option.some.inj H
       try go_wp2
       have n0_ := Aside0.mk (blk_drew BK1030.out)
       have n1_ := Aside0.mk (blk_drew BK1031.out)
       have n2_ := Aside0.mk (blk_drew BK1036.out)
       have n3_ := Aside0.mk (below_drew1 HB.out)
       clear BK1030
       clear BK1031
       clear BK1036
       clear HB
       have BK1030 := n0_
       have BK1031 := n1_
       have BK1036 := n2_
       have HB := n3_
       clear n0_ n1_ n2_ n3_
       refine start_ (n := 6) (S := fun w' => w'.cell? ⟨gb1036, 0, none⟩ = some (.int .i64 t1032) ∧ w'.cell? ⟨gb1036, 1, none⟩ = some (.int .i64 t1033) ∧ w'.cell? ⟨gb1036, 2, none⟩ = some (.int .i64 t1034) ∧ w'.cell? ⟨gb1036, 3, none⟩ = some (.int .i64 t1035) ∧ w'.cell? ⟨gb1030, 0, none⟩ = some (.int .i64 t1022) ∧ w'.cell? ⟨gb1030, 1, none⟩ = some (.int .i64 t1023) ∧ w'.cell? ⟨gb1030, 2, none⟩ = some (.int .i64 t1024) ∧ w'.cell? ⟨gb1030, 3, none⟩ = some (.int .i64 t1025) ∧ w'.cell? ⟨gb1031, 0, none⟩ = some (.int .i64 t1026) ∧ w'.cell? ⟨gb1031, 1, none⟩ = some (.int .i64 t1027) ∧ w'.cell? ⟨gb1031, 2, none⟩ = some (.int .i64 t1028) ∧ w'.cell? ⟨gb1031, 3, none⟩ = some (.int .i64 t1029)) (ds := []) #[false, false, false, false, false, false] (by kernel_rfl) rfl rfl ⟨(blk_cell BK1036.out 0).trans rfl, (blk_cell BK1036.out 1).trans rfl, (blk_cell BK1036.out 2).trans rfl, (blk_cell BK1036.out 3).trans rfl, (blk_cell BK1030.out 0).trans rfl, (blk_cell BK1030.out 1).trans rfl, (blk_cell BK1030.out 2).trans rfl, (blk_cell BK1030.out 3).trans rfl, (blk_cell BK1031.out 0).trans rfl, (blk_cell BK1031.out 1).trans rfl, (blk_cell BK1031.out 2).trans rfl, (blk_cell BK1031.out 3).trans rfl⟩ (fun hHeld => ?_)
       generalize wc.drew = w32 at BK1030 BK1031 BK1036 HB hHeld ⊢
       refine take_ (i := 0) (N := some 36) (v := ?_) (a' := ?_) #[true, false, false, false, false, false] rfl rfl (by kernel_rfl) (fun _ _ _ h => h) (Or.inl ⟨by rfl, ?_⟩) hHeld ?_ ?_
       rotate_left
       ·rintro w' ⟨s0, s1, s2, s3, s4, s5, s6, s7, s8, s9, s10, s11⟩
        go_simp
        with_reducible rfl
       rotate_left
       ·simp only [Act.put, List.setIfInBounds_toArray, List.set_cons_zero, List.set_cons_succ, i64_w, i32_w]
        rfl
       refine take_ (i := 1) (N := some 37) (v := ?_) (a' := ?_) #[true, true, false, false, false, false] rfl rfl (by kernel_rfl) (fun _ _ _ h => h) (Or.inl ⟨by rfl, ?_⟩) hHeld ?_ ?_
       rotate_left
       ·rintro w' ⟨s0, s1, s2, s3, s4, s5, s6, s7, s8, s9, s10, s11⟩
        go_simp
        with_reducible rfl
       rotate_left
       ·simp only [Act.put, List.setIfInBounds_toArray, List.set_cons_zero, List.set_cons_succ, i64_w, i32_w]
        rfl
       refine take_ (i := 2) (N := some 38) (v := ?_) (a' := ?_) #[true, true, true, false, false, false] rfl rfl (by kernel_rfl) (fun _ _ _ h => h) (Or.inl ⟨by rfl, ?_⟩) hHeld ?_ ?_
       rotate_left
       ·rintro w' ⟨s0, s1, s2, s3, s4, s5, s6, s7, s8, s9, s10, s11⟩
        go_simp
        with_reducible rfl
       rotate_left
       ·simp only [Act.put, List.setIfInBounds_toArray, List.set_cons_zero, List.set_cons_succ, i64_w, i32_w]
        rfl
       refine one_ (i := 3) (N := some 39) #[true, true, true, true, false, false] rfl rfl (by kernel_rfl) (by decide) (fun K hK => ?_)
       refine goes_ Try.func46 (by kernel_rfl) rfl #[.agg #[.int .i64 t1022, .int .i64 t1023, .int .i64 t1024, .int .i64 t1025], .agg #[.int .i64 t1026, .int .i64 t1027, .int .i64 t1028, .int .i64 t1029]] (by rfl) rfl rfl (by (try simp only [List.map_toArray, List.map_cons, List.map_nil]); first | done | rfl | (simp only [List.length_drop, List.length_take]; rfl)) ?_
       with_reducible refine (spec_RangeJoin.calls kj7 t1022 t1023 t1024 t1025 t1026 t1027 t1028 t1029 t1042 t1043 t1044 t1045 _ A31.out).mono ?_
       rintro e w33 ⟨rfl, hb⟩
       refine ⟨_, rfl, ?_⟩
       have n0_ := zb BK1030 hb rfl
       have n1_ := zb BK1031 hb rfl
       have n2_ := zb BK1036 hb rfl
       have n3_ := Aside0.mk (below_step (by repeat first | (with_reducible first | exact HB.out | apply vA | apply vN | apply vD | refine vS ?_ GE1030.out | refine vS ?_ GE1031.out | refine vS ?_ GE1036.out) | exact HB.out) hb)
       clear BK1030
       clear BK1031
       clear BK1036
       clear HB
       have BK1030 := n0_
       have BK1031 := n1_
       have BK1036 := n2_
       have HB := n3_
       clear n0_ n1_ n2_ n3_
       (try clear hb)
       (try clear hb2)
       (try clear hk)
       (try clear hi)
       refine hK.out _ _ ⟨(blk_cell BK1036.out 0).trans rfl, (blk_cell BK1036.out 1).trans rfl, (blk_cell BK1036.out 2).trans rfl, (blk_cell BK1036.out 3).trans rfl, (blk_cell BK1030.out 0).trans rfl, (blk_cell BK1030.out 1).trans rfl, (blk_cell BK1030.out 2).trans rfl, (blk_cell BK1030.out 3).trans rfl, (blk_cell BK1031.out 0).trans rfl, (blk_cell BK1031.out 1).trans rfl, (blk_cell BK1031.out 2).trans rfl, (blk_cell BK1031.out 3).trans rfl⟩ (fun hHeld => ?_)
       clear hK K
       refine norm_ (a' := ?_) ?_ ?_
       rotate_left
       ·show Act.put _ (some 39) _ = _
        simp only [Act.put, List.setIfInBounds_toArray, List.set_cons_zero, List.set_cons_succ, i64_w, i32_w]
        rfl
       refine pure_ (i := 4) (N := some 40) (v := ?_) (a' := ?_) #[true, true, true, true, true, false] rfl rfl (by kernel_rfl) (fun _ _ _ h => h) (Or.inl ⟨by rfl, ?_⟩) ?_ ?_
       rotate_left
       ·intro w'
        go_simp
        with_reducible rfl
       rotate_left
       ·simp only [Act.put, List.setIfInBounds_toArray, List.set_cons_zero, List.set_cons_succ, i64_w, i32_w]
        rfl
       refine pure_ (i := 5) (N := some 4) (v := ?_) (a' := ?_) #[true, true, true, true, true, true] rfl rfl (by kernel_rfl) (fun _ _ _ h => h) (Or.inl ⟨by rfl, ?_⟩) ?_ ?_
       rotate_left
       ·intro w'
        go_simp
        with_reducible rfl
       rotate_left
       ·simp only [Act.put, List.setIfInBounds_toArray, List.set_cons_zero, List.set_cons_succ, i64_w, i32_w]
        rfl
       refine done_ (by kernel_rfl) ?_
       try go_wp2
       go_ret
       exact ⟨by first | rfl | (simp [errW_none, errW_some] <;> rfl) | (simp [*, errW_none, errW_some] <;> rfl), by repeat first | (with_reducible first | exact HB.out | apply vA | apply vN | apply vD | refine vS ?_ GE1030.out | refine vS ?_ GE1031.out | refine vS ?_ GE1036.out) | exact HB.out⟩
      ·replace c30 := Bool.eq_false_iff.mpr c30
       subst c30
       rw [if_neg (show ¬ (false = true) by decide)] at H
       replace H := Option.bind_eq_some_iff.mp H
       obtain ⟨t1046, A340, H⟩ := H
       try dsimp only at H
       have A34 := Aside0.mk A340
       clear A340
       replace H := Option.bind_eq_some_iff.mp H
       obtain ⟨t1047, A350, H⟩ := H
       try dsimp only at H
       have A35 := Aside0.mk A350
       clear A350
       replace H := Option.bind_eq_some_iff.mp H
       obtain ⟨⟨t1048, t1049, t1050, t1051⟩, A360, H⟩ := H
       try dsimp only at H
       have A36 := Aside0.mk A360
       clear A360
       by_cases c37 : (t1048 == t1032 && (t1049 == t1033 && (t1050 == t1034 && (t1051 == t1035)))) = true
       ·rw [if_pos c37] at H
        have c37b0 : (t1048 == t1032 && (t1049 == t1033 && (t1050 == t1034 && (t1051 == t1035)))) = true := c37
        (try (have c37b1 : decide (t1048 = t1032 && (t1049 == t1033 && (t1050 == t1034 && (t1051 == t1035)))) = true := by simpa using c37))
        (try (have c37b2 : (t1048 == t1032 && (t1049 == t1033 && (t1050 == t1034 && (t1051 == t1035)))) = true := by simpa using c37))
        clear c37
        replace H := Option.bind_eq_some_iff.mp H
        obtain ⟨t1052, A380, H⟩ := H
        try dsimp only at H
        have A38 := Aside0.mk A380
        clear A380
        by_cases c39 : t1052 = true
        ·subst c39
         rw [if_pos rfl] at H
         replace H := Option.bind_eq_some_iff.mp H
         obtain ⟨t1053, A400, H⟩ := H
         try dsimp only at H
         have A40 := Aside0.mk A400
         clear A400
         obtain rfl := Option.some.inj H
         have hnb41 := NB1030_1031.out
         have hnc41 := NB1031_1030.out
         have hnb42 := NB1030_1036.out
         have hnc42 := NB1036_1030.out
         obtain ⟨hcz43_0, hcz43_1, hcz43_2, hcz43_3, hfz43_0, hfz43_1, hfz43_2, hfz43_3⟩ := zc4 BK1030
         try go_wp2_with (first | ((with_reducible refine gate_callee (f := 19) rfl ?_); refine goesL_ (some 44) rfl rfl Try.func19 (by kernel_rfl) rfl #[.agg #[.int .i64 t1022, .int .i64 t1023, .int .i64 t1024, .int .i64 t1025], .int .i64 (l1.length : Int)] rfl (by (try simp only [List.map_toArray, List.map_cons, List.map_nil]); first | done | rfl | (simp only [List.length_drop, List.length_take]; rfl)) ?_; (with_reducible refine (laws_sgSome.calls kj7 t1022 t1023 t1024 t1025 (l1.length : Int) t1046 _ A34.out).mono ?_); rintro e w44 ⟨rfl, hb⟩; refine ⟨_, rfl, ?_⟩; have n0_ := zb BK1030 hb rfl; have n1_ := zb BK1031 hb rfl; have n2_ := zb BK1036 hb rfl; have n3_ := Aside0.mk (below_step (by repeat first | (with_reducible first | exact HB.out | apply vA | apply vN | apply vD | refine vS ?_ GE1030.out | refine vS ?_ GE1031.out | refine vS ?_ GE1036.out) | exact HB.out) hb); clear BK1030; clear BK1031; clear BK1036; clear HB; have BK1030 := n0_; have BK1031 := n1_; have BK1036 := n2_; have HB := n3_; clear n0_ n1_ n2_ n3_; (try clear hb); (try clear hb2); (try clear hk); (try clear hi); have hnb45 := NB1031_1036.out; have hnc45 := NB1036_1031.out; obtain ⟨hcz46_0, hcz46_1, hcz46_2, hcz46_3, hfz46_0, hfz46_1, hfz46_2, hfz46_3⟩ := zc4 BK1031) | ((with_reducible refine gate_callee (f := 19) rfl ?_); refine goesL_ (some 49) rfl rfl Try.func19 (by kernel_rfl) rfl #[.agg #[.int .i64 t1026, .int .i64 t1027, .int .i64 t1028, .int .i64 t1029], .int .i64 (wrap64 ((l1.length : Int) / 3))] rfl (by (try simp only [List.map_toArray, List.map_cons, List.map_nil]); first | done | rfl | (simp only [List.length_drop, List.length_take]; rfl)) ?_; (with_reducible refine (laws_sgSome.calls kj7 t1026 t1027 t1028 t1029 (wrap64 ((l1.length : Int) / 3)) t1047 _ A35.out).mono ?_); rintro e w47 ⟨rfl, hb⟩; refine ⟨_, rfl, ?_⟩; have n0_ := zb BK1030 hb rfl; have n1_ := zb BK1031 hb rfl; have n2_ := zb BK1036 hb rfl; have n3_ := Aside0.mk (below_step (by repeat first | (with_reducible first | exact HB.out | apply vA | apply vN | apply vD | refine vS ?_ GE1030.out | refine vS ?_ GE1031.out | refine vS ?_ GE1036.out) | exact HB.out) hb); clear BK1030; clear BK1031; clear BK1036; clear HB; have BK1030 := n0_; have BK1031 := n1_; have BK1036 := n2_; have HB := n3_; clear n0_ n1_ n2_ n3_; (try clear hb); (try clear hb2); (try clear hk); (try clear hi)))
         have n0_ := Aside0.mk (blk_drew BK1030.out)
         have n1_ := Aside0.mk (blk_drew BK1031.out)
         have n2_ := Aside0.mk (blk_drew BK1036.out)
         have n3_ := Aside0.mk (below_drew1 HB.out)
         clear BK1030
         clear BK1031
         clear BK1036
         clear HB
         have BK1030 := n0_
         have BK1031 := n1_
         have BK1036 := n2_
         have HB := n3_
         clear n0_ n1_ n2_ n3_
         refine start_ (n := 16) (S := fun w' => w'.cell? ⟨gb1031, 0, none⟩ = some (.int .i64 t1026) ∧ w'.cell? ⟨gb1031, 1, none⟩ = some (.int .i64 t1027) ∧ w'.cell? ⟨gb1031, 2, none⟩ = some (.int .i64 t1028) ∧ w'.cell? ⟨gb1031, 3, none⟩ = some (.int .i64 t1029) ∧ w'.cell? ⟨gb1030, 0, none⟩ = some (.int .i64 t1022) ∧ w'.cell? ⟨gb1030, 1, none⟩ = some (.int .i64 t1023) ∧ w'.cell? ⟨gb1030, 2, none⟩ = some (.int .i64 t1024) ∧ w'.cell? ⟨gb1030, 3, none⟩ = some (.int .i64 t1025) ∧ w'.cell? ⟨gb1036, 0, none⟩ = some (.int .i64 t1032) ∧ w'.cell? ⟨gb1036, 1, none⟩ = some (.int .i64 t1033) ∧ w'.cell? ⟨gb1036, 2, none⟩ = some (.int .i64 t1034) ∧ w'.cell? ⟨gb1036, 3, none⟩ = some (.int .i64 t1035)) (ds := []) #[false, false, false, false, false, false, false, false, false, false, false, false, false, false, false, false] (by kernel_rfl) rfl rfl ⟨(blk_cell BK1031.out 0).trans rfl, (blk_cell BK1031.out 1).trans rfl, (blk_cell BK1031.out 2).trans rfl, (blk_cell BK1031.out 3).trans rfl, (blk_cell BK1030.out 0).trans rfl, (blk_cell BK1030.out 1).trans rfl, (blk_cell BK1030.out 2).trans rfl, (blk_cell BK1030.out 3).trans rfl, (blk_cell BK1036.out 0).trans rfl, (blk_cell BK1036.out 1).trans rfl, (blk_cell BK1036.out 2).trans rfl, (blk_cell BK1036.out 3).trans rfl⟩ (fun hHeld => ?_); refine with_tabW laws_FnJoin.tab9 laws_FnJoin.bits9 (fun HT_ HW_ => ?_)
         generalize w47.drew = w48 at BK1030 BK1031 BK1036 HB hHeld ⊢
         refine take_ (i := 0) (N := some 50) (v := ?_) (a' := ?_) #[true, false, false, false, false, false, false, false, false, false, false, false, false, false, false, false] rfl rfl (take_ofW HT_.out HW_.out (by kernel_rfl)) (fun _ _ _ h => h) (Or.inl ⟨by rfl, ?_⟩) hHeld ?_ ?_
         rotate_left
         ·rintro w' ⟨s0, s1, s2, s3, s4, s5, s6, s7, s8, s9, s10, s11⟩
          go_simp
          with_reducible rfl
         rotate_left
         ·simp only [Act.put, List.setIfInBounds_toArray, List.set_cons_zero, List.set_cons_succ, i64_w, i32_w]
          rfl
         refine take_ (i := 1) (N := some 51) (v := ?_) (a' := ?_) #[true, true, false, false, false, false, false, false, false, false, false, false, false, false, false, false] rfl rfl (take_ofW HT_.out HW_.out (by kernel_rfl)) (fun _ _ _ h => h) (Or.inl ⟨by rfl, ?_⟩) hHeld ?_ ?_
         rotate_left
         ·rintro w' ⟨s0, s1, s2, s3, s4, s5, s6, s7, s8, s9, s10, s11⟩
          go_simp
          with_reducible rfl
         rotate_left
         ·simp only [Act.put, List.setIfInBounds_toArray, List.set_cons_zero, List.set_cons_succ, i64_w, i32_w]
          rfl
         refine take_ (i := 3) (N := some 53) (v := ?_) (a' := ?_) #[true, true, false, true, false, false, false, false, false, false, false, false, false, false, false, false] rfl rfl (take_ofW HT_.out HW_.out (by kernel_rfl)) (fun _ _ _ h => h) (Or.inl ⟨by rfl, ?_⟩) hHeld ?_ ?_
         rotate_left
         ·rintro w' ⟨s0, s1, s2, s3, s4, s5, s6, s7, s8, s9, s10, s11⟩
          go_simp
          with_reducible rfl
         rotate_left
         ·simp only [Act.put, List.setIfInBounds_toArray, List.set_cons_zero, List.set_cons_succ, i64_w, i32_w]
          rfl
         refine one_ (i := 2) (N := some 52) #[true, true, true, true, false, false, false, false, false, false, false, false, false, false, false, false] rfl rfl (one_of HT_.out (by kernel_rfl)) (by decide) (fun K hK => ?_)
         refine goes_ Try.func45 (by kernel_rfl) rfl #[.agg #[.int .i64 t1026, .int .i64 t1027, .int .i64 t1028, .int .i64 t1029], .agg #[.int .i64 t1022, .int .i64 t1023, .int .i64 t1024, .int .i64 t1025]] (by rfl) rfl rfl (by (try simp only [List.map_toArray, List.map_cons, List.map_nil]); first | done | rfl | (simp only [List.length_drop, List.length_take]; rfl)) ?_
         with_reducible refine (impl_RangeJoin.calls kj7 t1026 t1027 t1028 t1029 t1022 t1023 t1024 t1025 t1048 t1049 t1050 t1051 _ A36.out).mono ?_
         rintro e w49 ⟨rfl, hb⟩
         refine ⟨_, rfl, ?_⟩
         have n0_ := zb BK1030 hb rfl
         have n1_ := zb BK1031 hb rfl
         have n2_ := zb BK1036 hb rfl
         have n3_ := Aside0.mk (below_step (by repeat first | (with_reducible first | exact HB.out | apply vA | apply vN | apply vD | refine vS ?_ GE1030.out | refine vS ?_ GE1031.out | refine vS ?_ GE1036.out) | exact HB.out) hb)
         clear BK1030
         clear BK1031
         clear BK1036
         clear HB
         have BK1030 := n0_
         have BK1031 := n1_
         have BK1036 := n2_
         have HB := n3_
         clear n0_ n1_ n2_ n3_
         (try clear hb)
         (try clear hb2)
         (try clear hk)
         (try clear hi)
         refine hK.out _ _ ⟨(blk_cell BK1031.out 0).trans rfl, (blk_cell BK1031.out 1).trans rfl, (blk_cell BK1031.out 2).trans rfl, (blk_cell BK1031.out 3).trans rfl, (blk_cell BK1030.out 0).trans rfl, (blk_cell BK1030.out 1).trans rfl, (blk_cell BK1030.out 2).trans rfl, (blk_cell BK1030.out 3).trans rfl, (blk_cell BK1036.out 0).trans rfl, (blk_cell BK1036.out 1).trans rfl, (blk_cell BK1036.out 2).trans rfl, (blk_cell BK1036.out 3).trans rfl⟩ (fun hHeld => ?_)
         clear hK K
         refine norm_ (a' := ?_) ?_ ?_
         rotate_left
         ·show Act.put _ (some 52) _ = _
          simp only [Act.put, List.setIfInBounds_toArray, List.set_cons_zero, List.set_cons_succ, i64_w, i32_w]
          rfl
         refine pure_ (i := 4) (N := some 54) (v := ?_) (a' := ?_) #[true, true, true, true, true, false, false, false, false, false, false, false, false, false, false, false] rfl rfl (any_of HT_.out (by kernel_rfl)) (fun _ _ _ h => h) (Or.inl ⟨by rfl, ?_⟩) ?_ ?_
         rotate_left
         ·intro w'
          go_simp
          with_reducible rfl
         rotate_left
         ·simp only [Act.put, List.setIfInBounds_toArray, List.set_cons_zero, List.set_cons_succ, i64_w, i32_w]
          rfl
         refine pure_ (i := 5) (N := some 55) (v := ?_) (a' := ?_) #[true, true, true, true, true, true, false, false, false, false, false, false, false, false, false, false] rfl rfl (any_of HT_.out (by kernel_rfl)) (fun _ _ _ h => h) (Or.inl ⟨by rfl, ?_⟩) ?_ ?_
         rotate_left
         ·intro w'
          go_simp
          with_reducible rfl
         rotate_left
         ·simp only [Act.put, List.setIfInBounds_toArray, List.set_cons_zero, List.set_cons_succ, i64_w, i32_w]
          rfl
         refine pure_ (i := 7) (N := some 57) (v := ?_) (a' := ?_) #[true, true, true, true, true, true, false, true, false, false, false, false, false, false, false, false] rfl rfl (any_of HT_.out (by kernel_rfl)) (fun _ _ _ h => h) (Or.inl ⟨by rfl, ?_⟩) ?_ ?_
         rotate_left
         ·intro w'
          go_simp
          with_reducible rfl
         rotate_left
         ·simp only [Act.put, List.setIfInBounds_toArray, List.set_cons_zero, List.set_cons_succ, i64_w, i32_w]
          rfl
         refine take_ (i := 6) (N := some 56) (v := ?_) (a' := ?_) #[true, true, true, true, true, true, true, true, false, false, false, false, false, false, false, false] rfl rfl (take_ofW HT_.out HW_.out (by kernel_rfl)) (fun _ _ _ h => h) (Or.inl ⟨by rfl, ?_⟩) hHeld ?_ ?_
         rotate_left
         ·rintro w' ⟨s0, s1, s2, s3, s4, s5, s6, s7, s8, s9, s10, s11⟩
          go_simp
          with_reducible rfl
         rotate_left
         ·simp only [Act.put, List.setIfInBounds_toArray, List.set_cons_zero, List.set_cons_succ, i64_w, i32_w]
          rfl
         refine one_ (i := 8) (N := some 58) #[true, true, true, true, true, true, true, true, true, false, false, false, false, false, false, false] rfl rfl (one_of HT_.out (by kernel_rfl)) (by decide) (fun K hK => ?_)
         refine goes_ Try.func20 (by kernel_rfl) rfl #[.agg #[.int .i64 t1032, .int .i64 t1033, .int .i64 t1034, .int .i64 t1035], .int .i64 t1046] (by rfl) rfl rfl (by (try simp only [List.map_toArray, List.map_cons, List.map_nil]); first | done | rfl | (simp only [List.length_drop, List.length_take]; rfl)) ?_
         with_reducible refine (impl_RangeHas.calls t1032 t1033 t1034 t1035 t1046 true _ A38.out).mono ?_
         rintro e w50 ⟨rfl, hb⟩
         refine ⟨_, rfl, ?_⟩
         have n0_ := zb BK1030 hb rfl
         have n1_ := zb BK1031 hb rfl
         have n2_ := zb BK1036 hb rfl
         have n3_ := Aside0.mk (below_step (by repeat first | (with_reducible first | exact HB.out | apply vA | apply vN | apply vD | refine vS ?_ GE1030.out | refine vS ?_ GE1031.out | refine vS ?_ GE1036.out) | exact HB.out) hb)
         clear BK1030
         clear BK1031
         clear BK1036
         clear HB
         have BK1030 := n0_
         have BK1031 := n1_
         have BK1036 := n2_
         have HB := n3_
         clear n0_ n1_ n2_ n3_
         (try clear hb)
         (try clear hb2)
         (try clear hk)
         (try clear hi)
         refine hK.out _ _ ⟨(blk_cell BK1031.out 0).trans rfl, (blk_cell BK1031.out 1).trans rfl, (blk_cell BK1031.out 2).trans rfl, (blk_cell BK1031.out 3).trans rfl, (blk_cell BK1030.out 0).trans rfl, (blk_cell BK1030.out 1).trans rfl, (blk_cell BK1030.out 2).trans rfl, (blk_cell BK1030.out 3).trans rfl, (blk_cell BK1036.out 0).trans rfl, (blk_cell BK1036.out 1).trans rfl, (blk_cell BK1036.out 2).trans rfl, (blk_cell BK1036.out 3).trans rfl⟩ (fun hHeld => ?_)
         clear hK K
         refine norm_ (a' := ?_) ?_ ?_
         rotate_left
         ·show Act.put _ (some 58) _ = _
          simp only [Act.put, List.setIfInBounds_toArray, List.set_cons_zero, List.set_cons_succ, i64_w, i32_w]
          rfl
         refine pure_ (i := 9) (N := some 59) (v := ?_) (a' := ?_) #[true, true, true, true, true, true, true, true, true, true, false, false, false, false, false, false] rfl rfl (any_of HT_.out (by kernel_rfl)) (fun _ _ _ h => h) (Or.inl ⟨by rfl, ?_⟩) ?_ ?_
         rotate_left
         ·intro w'
          go_simp
          with_reducible rfl
         rotate_left
         ·simp only [Act.put, List.setIfInBounds_toArray, List.set_cons_zero, List.set_cons_succ, i64_w, i32_w]
          rfl
         refine pure_ (i := 10) (N := some 60) (v := ?_) (a' := ?_) #[true, true, true, true, true, true, true, true, true, true, true, false, false, false, false, false] rfl rfl (any_of HT_.out (by kernel_rfl)) (fun _ _ _ h => h) (Or.inl ⟨by rfl, ?_⟩) ?_ ?_
         rotate_left
         ·intro w'
          go_simp
          with_reducible rfl
         rotate_left
         ·simp only [Act.put, List.setIfInBounds_toArray, List.set_cons_zero, List.set_cons_succ, i64_w, i32_w]
          rfl
         refine pure_ (i := 12) (N := some 62) (v := ?_) (a' := ?_) #[true, true, true, true, true, true, true, true, true, true, true, false, true, false, false, false] rfl rfl (any_of HT_.out (by kernel_rfl)) (fun _ _ _ h => h) (Or.inl ⟨by rfl, ?_⟩) ?_ ?_
         rotate_left
         ·intro w'
          go_simp
          with_reducible rfl
         rotate_left
         ·simp only [Act.put, List.setIfInBounds_toArray, List.set_cons_zero, List.set_cons_succ, i64_w, i32_w]
          rfl
         refine take_ (i := 11) (N := some 61) (v := ?_) (a' := ?_) #[true, true, true, true, true, true, true, true, true, true, true, true, true, false, false, false] rfl rfl (take_ofW HT_.out HW_.out (by kernel_rfl)) (fun _ _ _ h => h) (Or.inl ⟨by rfl, ?_⟩) hHeld ?_ ?_
         rotate_left
         ·rintro w' ⟨s0, s1, s2, s3, s4, s5, s6, s7, s8, s9, s10, s11⟩
          go_simp
          with_reducible rfl
         rotate_left
         ·simp only [Act.put, List.setIfInBounds_toArray, List.set_cons_zero, List.set_cons_succ, i64_w, i32_w]
          rfl
         refine one_ (i := 13) (N := some 63) #[true, true, true, true, true, true, true, true, true, true, true, true, true, true, false, false] rfl rfl (one_of HT_.out (by kernel_rfl)) (by decide) (fun K hK => ?_)
         refine goes_ Try.func20 (by kernel_rfl) rfl #[.agg #[.int .i64 t1032, .int .i64 t1033, .int .i64 t1034, .int .i64 t1035], .int .i64 t1047] (by rfl) rfl rfl (by (try simp only [List.map_toArray, List.map_cons, List.map_nil]); first | done | rfl | (simp only [List.length_drop, List.length_take]; rfl)) ?_
         with_reducible refine (impl_RangeHas.calls t1032 t1033 t1034 t1035 t1047 t1053 _ A40.out).mono ?_
         rintro e w51 ⟨rfl, hb⟩
         refine ⟨_, rfl, ?_⟩
         have n0_ := zb BK1030 hb rfl
         have n1_ := zb BK1031 hb rfl
         have n2_ := zb BK1036 hb rfl
         have n3_ := Aside0.mk (below_step (by repeat first | (with_reducible first | exact HB.out | apply vA | apply vN | apply vD | refine vS ?_ GE1030.out | refine vS ?_ GE1031.out | refine vS ?_ GE1036.out) | exact HB.out) hb)
         clear BK1030
         clear BK1031
         clear BK1036
         clear HB
         have BK1030 := n0_
         have BK1031 := n1_
         have BK1036 := n2_
         have HB := n3_
         clear n0_ n1_ n2_ n3_
         (try clear hb)
         (try clear hb2)
         (try clear hk)
         (try clear hi)
         refine hK.out _ _ ⟨(blk_cell BK1031.out 0).trans rfl, (blk_cell BK1031.out 1).trans rfl, (blk_cell BK1031.out 2).trans rfl, (blk_cell BK1031.out 3).trans rfl, (blk_cell BK1030.out 0).trans rfl, (blk_cell BK1030.out 1).trans rfl, (blk_cell BK1030.out 2).trans rfl, (blk_cell BK1030.out 3).trans rfl, (blk_cell BK1036.out 0).trans rfl, (blk_cell BK1036.out 1).trans rfl, (blk_cell BK1036.out 2).trans rfl, (blk_cell BK1036.out 3).trans rfl⟩ (fun hHeld => ?_)
         clear hK K
         refine norm_ (a' := ?_) ?_ ?_
         rotate_left
         ·show Act.put _ (some 63) _ = _
          simp only [Act.put, List.setIfInBounds_toArray, List.set_cons_zero, List.set_cons_succ, i64_w, i32_w]
          rfl
         refine pure_ (i := 14) (N := some 64) (v := ?_) (a' := ?_) #[true, true, true, true, true, true, true, true, true, true, true, true, true, true, true, false] rfl rfl (any_of HT_.out (by kernel_rfl)) (fun _ _ _ h => h) (Or.inl ⟨by rfl, ?_⟩) ?_ ?_
         rotate_left
         ·intro w'
          go_simp
          with_reducible rfl
         rotate_left
         ·simp only [Act.put, List.setIfInBounds_toArray, List.set_cons_zero, List.set_cons_succ, i64_w, i32_w]
          rfl
         refine pure_ (i := 15) (N := some 4) (v := ?_) (a' := ?_) #[true, true, true, true, true, true, true, true, true, true, true, true, true, true, true, true] rfl rfl (any_of HT_.out (by kernel_rfl)) (fun _ _ _ h => h) (Or.inl ⟨by rfl, ?_⟩) ?_ ?_
         rotate_left
         ·intro w'
          go_simp
          with_reducible rfl
         rotate_left
         ·simp only [Act.put, List.setIfInBounds_toArray, List.set_cons_zero, List.set_cons_succ, i64_w, i32_w]
          rfl
         refine done_ (done_of HT_.out (by kernel_rfl)) ?_
         try go_wp2
         go_ret
         exact ⟨by first | rfl | (simp [errW_none, errW_some] <;> rfl) | (simp [*, errW_none, errW_some] <;> rfl), by repeat first | (with_reducible first | exact HB.out | apply vA | apply vN | apply vD | refine vS ?_ GE1030.out | refine vS ?_ GE1031.out | refine vS ?_ GE1036.out) | exact HB.out⟩
        ·replace c39 := Bool.eq_false_iff.mpr c39
         subst c39
         rw [if_neg (show ¬ (false = true) by decide)] at H
         exact absurd H (by simp)
       ·rw [if_neg c37] at H
        have c37b0 : (t1048 == t1032 && (t1049 == t1033 && (t1050 == t1034 && (t1051 == t1035)))) = false := by simpa using c37
        (try (have c37b1 : decide (t1048 = t1032 && (t1049 == t1033 && (t1050 == t1034 && (t1051 == t1035)))) = false := by simpa using c37))
        (try (have c37b2 : (t1048 == t1032 && (t1049 == t1033 && (t1050 == t1034 && (t1051 == t1035)))) = false := by simpa using c37))
        (try (have c37b3 : ¬ (t1048 = t1032 && (t1049 == t1033 && (t1050 == t1034 && (t1051 == t1035)))) := by simpa using c37))
        clear c37
        exact absurd H (by simp)

/-- THE ONE PURE STATEMENT of laws_FnJoin: yours. -/
def laws_FnJoin.Pure : Prop := ∀ (l0 : List Int) (l1 : List Int), l0.length ≤ maxLen → l0.length * 1 ≤ 140737488351232 → (∀ x ∈ l0, (Lit.int .u8 x).wf = true) → l1.length ≤ maxLen → l1.length * 1 ≤ 140737488351232 → (∀ x ∈ l1, (Lit.int .u8 x).wf = true) → ∃ k, laws_FnJoin.f k l0 l1 = some true
theorem laws_FnJoin.walk (P : laws_FnJoin.Pure) (a0 : Option Addr) (len0 cap0 : Nat) (z0 : List Int) (a1 : Option Addr) (len1 cap1 : Nat) (z1 : List Int) (w : World) (w0 : (a0 = none ∧ len0 = 0 ∧ cap0 = 0 ∧ z0 = []) ∨ ∃ x, a0 = some x ∧ len0 ≤ cap0 ∧ cap0 ≤ maxLen ∧ z0.length = cap0 ∧ (∀ i, i < z0.length → w.cell? (x.add i) = some (.int .u8 (z0.getD i 0))) ∧ ∀ n ∈ z0, (Lit.int .u8 n).wf = true) (y0 : len0 * 1 ≤ 140737488351232) (w1 : (a1 = none ∧ len1 = 0 ∧ cap1 = 0 ∧ z1 = []) ∨ ∃ x, a1 = some x ∧ len1 ≤ cap1 ∧ cap1 ≤ maxLen ∧ z1.length = cap1 ∧ (∀ i, i < z1.length → w.cell? (x.add i) = some (.int .u8 (z1.getD i 0))) ∧ ∀ n ∈ z1, (Lit.int .u8 n).wf = true) (y1 : len1 * 1 ≤ 140737488351232) :
  Calls Try.prog 14 #[.slice a0 len0 cap0, .slice a1 len1 cap1] w fun e w' => e = .returned (.bool true) ∧ Below w.heap.size w w' := by
 obtain ⟨l0, rfl, hr0, hm0, hw0, hc0⟩ := ReadsInt.ofRowC w0
 obtain ⟨l1, rfl, hr1, hm1, hw1, hc1⟩ := ReadsInt.ofRowC w1
 obtain ⟨k, h⟩ := P l0 l1 hm0 y0 hw0 hm1 y1 hw1
 refine (laws_FnJoin.calls k _ _ l0 _ _ l1 true w (Kd.C_of_reads (d := (0 : Int)) (h1 := fun _ => rfl) hr0) hc0 (Kd.C_of_reads (d := (0 : Int)) (h1 := fun _ => rfl) hr1) hc1 h).mono ?_
 rintro e w' ⟨rfl, hd⟩
 exact ⟨rfl, hd⟩

end Go.Proofs.Ytabencccbmjnbaa.Q
