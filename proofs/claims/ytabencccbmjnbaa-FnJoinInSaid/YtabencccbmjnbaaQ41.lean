/- The machine's side of this seat's laws: Go functions as Lean functions, and their contracts. By a program of this work over the kit's print. -/
import Derived.Test.YtabencccbmjnbaaQ0
import Derived.Test.YtabencccbmjnbaaQ1
import Derived.Test.YtabencccbmjnbaaQ4
import Derived.Test.YtabencccbmjnbaaQ26
import Derived.Test.YtabencccbmjnbaaQ35
import Derived.Test.YtabencccbmjnbaaQ40
namespace Go.Proofs.Ytabencccbmjnbaa.Q
open Go.RowKit Go.Proofs.YtabencccbmjnbaaW.PrintWords Go.Proofs.YtabencccbmjnbaaW.PrintLast Go.Proofs.YtabencccbmjnbaaW.PrintMore
attribute [local go_sem] max2_int min2_int max_two min_two max_three min_three max_four min_four Go.Proofs.YtabencccbmjnbaaN.not_i64   -- for this text's walks alone
set_option linter.unusedVariables false
set_option linter.unusedSimpArgs false

attribute [local go_sem high] eqA24
/-! ### laws_FnJoinIn: function 13 -/
def laws_FnJoinIn.j0 : Nat → Bool → Int → Int → Int → Int → Int → Int → Int → Int → Int → Int → Int → Int → Option (Bool)
 | 0, _, _, _, _, _, _, _, _, _, _, _, _, _ => none
 | k + 1, x26, x997000, x997001, x997002, x997003, x998000, x998001, x998002, x998003, x1003000, x1003001, x1003002, x1003003 => if x26 = true then ((spec_RangeJoin.f k x997000 x997001 x997002 x997003 x998000 x998001 x998002 x998003).bind fun bt1008 => (some (x1003000 == bt1008.1 && (x1003001 == bt1008.2.1 && (x1003002 == bt1008.2.2.1 && (x1003003 == bt1008.2.2.2)))))) else ((impl_RangeTidy.f k x997000 x997001 x997002 x997003).bind fun bt1012 => ((impl_RangeIn.f k bt1012.1 bt1012.2.1 bt1012.2.2.1 bt1012.2.2.2 x1003000 x1003001 x1003002 x1003003).bind fun t1016 => (if t1016 = true then ((impl_RangeTidy.f k x998000 x998001 x998002 x998003).bind fun bt1017 => ((impl_RangeIn.f k bt1017.1 bt1017.2.1 bt1017.2.2.1 bt1017.2.2.2 x1003000 x1003001 x1003002 x1003003).bind fun t1021 => (some t1021))) else (none))))
def laws_FnJoinIn.f (k : Nat) (l0 : List Int) : Option (Bool) := if (l0.length : Int) > 1048576 then (some true) else ((spec_DrawRangeJoin.f k l0).bind fun bt988 => ((impl_RangeJoin.f k bt988.1 bt988.2.1 bt988.2.2.1 bt988.2.2.2.1 bt988.2.2.2.2.1 bt988.2.2.2.2.2.1 bt988.2.2.2.2.2.2.1 bt988.2.2.2.2.2.2.2).bind fun bt998 => ((spec_RangeJoin.f k bt988.1 bt988.2.1 bt988.2.2.1 bt988.2.2.2.1 bt988.2.2.2.2.1 bt988.2.2.2.2.2.1 bt988.2.2.2.2.2.2.1 bt988.2.2.2.2.2.2.2).bind fun bt1003 => (if (!(bt998.1 == bt1003.1) || (!(bt998.2.1 == bt1003.2.1) || (!(bt998.2.2.1 == bt1003.2.2.1) || (!(bt998.2.2.2 == bt1003.2.2.2))))) = true then (laws_FnJoinIn.j0 k true bt988.1 bt988.2.1 bt988.2.2.1 bt988.2.2.2.1 bt988.2.2.2.2.1 bt988.2.2.2.2.2.1 bt988.2.2.2.2.2.2.1 bt988.2.2.2.2.2.2.2 bt998.1 bt998.2.1 bt998.2.2.1 bt998.2.2.2) else ((impl_RangeOk.f bt998.1 bt998.2.1 bt998.2.2.1 bt998.2.2.2).bind fun t1007 => (laws_FnJoinIn.j0 k (!t1007) bt988.1 bt988.2.1 bt988.2.2.1 bt988.2.2.2.1 bt988.2.2.2.2.1 bt988.2.2.2.2.2.1 bt988.2.2.2.2.2.2.1 bt988.2.2.2.2.2.2.2 bt998.1 bt998.2.1 bt998.2.2.1 bt998.2.2.2))))))


def laws_FnJoinIn.T5 : Bool × List (List Nat × List Nat) := (true, [([], []), ([], []), ([], []), ([1, 2], [1, 2]), ([0, 3], [0, 3]), ([4, 3], [4]), ([5], [5]), ([6, 5, 5], [5, 6]), ([7, 5], [5, 7]), ([5, 8], [5, 8])])
def laws_FnJoinIn.B5 : List Nat := [0, 0, 0, 6, 15, 31, 63, 127, 255, 511]
theorem laws_FnJoinIn.tab5 : rtab .any (opsOf Try.f13 5) = laws_FnJoinIn.T5 := by kernel_rfl
theorem laws_FnJoinIn.bits5 : waitsOk laws_FnJoinIn.T5.2 laws_FnJoinIn.B5 = true := by kernel_rfl
def laws_FnJoinIn.T7 : Bool × List (List Nat × List Nat) := (true, [([], []), ([0], [0]), ([], []), ([1, 2, 1], [1, 2]), ([3, 3], [3]), ([4], [4]), ([5, 4, 4], [4, 5]), ([4], [4]), ([6, 7, 6, 4], [4, 6, 7]), ([4, 8], [4, 8]), ([9, 8, 0, 1, 2, 3, 4, 5, 6, 7, 8, 9], [9])])
def laws_FnJoinIn.B7 : List Nat := [0, 1, 0, 7, 15, 31, 63, 31, 255, 511, 1023]
theorem laws_FnJoinIn.tab7 : rtab .any (opsOf Try.f13 7) = laws_FnJoinIn.T7 := by kernel_rfl
theorem laws_FnJoinIn.bits7 : waitsOk laws_FnJoinIn.T7.2 laws_FnJoinIn.B7 = true := by kernel_rfl
set_option maxHeartbeats 8000000 in
set_option maxRecDepth 100000 in
theorem laws_FnJoinIn.calls (k : Nat) (A0 : Option Addr) (c0 : Nat) (l0 : List Int) (r : Bool) (w : World) (hr0 : Kd.C (Kd.int .u8) w A0 l0.length l0) (hc0 : l0.length ≤ c0) (h : laws_FnJoinIn.f k l0 = some r) :
  Calls Try.prog 13 #[.slice A0 l0.length c0] w fun e w' => e = .returned (.bool r) ∧ Below w.heap.size w w' := by
 have hu24 := Try.underlying24
 have HR0 := Aside0.mk hr0
 have HC0 := Aside0.mk hc0
 clear hr0 hc0
 have HB := Aside0.mk (Below.refl w.heap.size w)
 have H : (if (l0.length : Int) > 1048576 then (some true) else ((spec_DrawRangeJoin.f k l0).bind fun bt988 => ((impl_RangeJoin.f k bt988.1 bt988.2.1 bt988.2.2.1 bt988.2.2.2.1 bt988.2.2.2.2.1 bt988.2.2.2.2.2.1 bt988.2.2.2.2.2.2.1 bt988.2.2.2.2.2.2.2).bind fun bt998 => ((spec_RangeJoin.f k bt988.1 bt988.2.1 bt988.2.2.1 bt988.2.2.2.1 bt988.2.2.2.2.1 bt988.2.2.2.2.2.1 bt988.2.2.2.2.2.2.1 bt988.2.2.2.2.2.2.2).bind fun bt1003 => (if (!(bt998.1 == bt1003.1) || (!(bt998.2.1 == bt1003.2.1) || (!(bt998.2.2.1 == bt1003.2.2.1) || (!(bt998.2.2.2 == bt1003.2.2.2))))) = true then (laws_FnJoinIn.j0 k true bt988.1 bt988.2.1 bt988.2.2.1 bt988.2.2.2.1 bt988.2.2.2.2.1 bt988.2.2.2.2.2.1 bt988.2.2.2.2.2.2.1 bt988.2.2.2.2.2.2.2 bt998.1 bt998.2.1 bt998.2.2.1 bt998.2.2.2) else ((impl_RangeOk.f bt998.1 bt998.2.1 bt998.2.2.1 bt998.2.2.2).bind fun t1007 => (laws_FnJoinIn.j0 k (!t1007) bt988.1 bt988.2.1 bt988.2.2.1 bt988.2.2.2.1 bt988.2.2.2.2.1 bt988.2.2.2.2.2.1 bt988.2.2.2.2.2.2.1 bt988.2.2.2.2.2.2.2 bt998.1 bt998.2.1 bt998.2.2.1 bt998.2.2.2))))))) = some r := h
 clear h
 by_cases c2 : (l0.length : Int) > 1048576
 ·rw [if_pos c2] at H
  have c2b0 : decide (1048576 < (l0.length : Int)) = true := decide_eq_true c2
  have c2b1 : decide (1048576 < l0.length) = true := decide_eq_true (by omega)
  clear c2
  obtain rfl := Option.some.inj H
  go_enter Try.func13, Try.ntmps13
  go_wp2
  go_ret
  exact ⟨by first | rfl | (simp [errW_none, errW_some] <;> rfl) | (simp [*, errW_none, errW_some] <;> rfl), by repeat first | (with_reducible first | exact HB.out | apply vA | apply vN | apply vD) | exact HB.out⟩
 ·rw [if_neg c2] at H
  have c2b0 : decide (1048576 < (l0.length : Int)) = false := decide_eq_false c2
  have c2b1 : decide (1048576 < l0.length) = false := decide_eq_false (by omega)
  clear c2
  replace H := Option.bind_eq_some_iff.mp H
  obtain ⟨⟨t988, t989, t990, t991, t992, t993, t994, t995⟩, A30, H⟩ := H
  try dsimp only at H
  have A3 := Aside0.mk A30
  clear A30
  replace H := Option.bind_eq_some_iff.mp H
  obtain ⟨⟨t998, t999, t1000, t1001⟩, A40, H⟩ := H
  try dsimp only at H
  have A4 := Aside0.mk A40
  clear A40
  have HC5 := Aside0.mk H
  clear H
  go_enter Try.func13, Try.ntmps13
  go_upto_region 5 with (first | ((with_reducible refine gate_callee (f := 44) rfl ?_); refine goesL_ (some 11) rfl rfl Try.func44 (by kernel_rfl) rfl #[.slice A0 l0.length c0] rfl (by (try simp only [List.map_toArray, List.map_cons, List.map_nil]); first | done | rfl | (simp only [List.length_drop, List.length_take]; rfl)) ?_; (with_reducible refine (spec_DrawRangeJoin.calls k _ _ l0 t988 t989 t990 t991 t992 t993 t994 t995 _ ?side1 ?side2 A3.out).mono ?_); (case side1 => repeat (first | exact HR0.out | (with_reducible refine Kd.C_alloc ?_ _) | (with_reducible refine Kd.C_drewN ?_ _) | (with_reducible refine Kd.C_drew ?_))); (case side2 => exact HC0.out); rintro e w6 ⟨rfl, hb⟩; refine ⟨_, rfl, ?_⟩; have n0_ := Aside0.mk (below_step (by repeat first | (with_reducible first | exact HB.out | apply vA | apply vN | apply vD) | exact HB.out) hb); clear HB; have HB := n0_; clear n0_; (try clear hb); (try clear hb2); (try clear hk); (try clear hi)) | ((with_reducible refine gate_dst (N := 3) rfl ?_); refine box_event ?hg (N := 3) ?hd (cs := #[.int .i64 0, .int .i64 0, .int .i64 0, .int .i64 0]) (t := 24) ?hr ?_; (case hd => rfl); (case hg => rfl); (case hr => first | (go_simp; done) | (go_simp; rfl)); intro gb996 hg w7 hbox hb; have n0_ := Aside0.mk (below_step (by repeat first | (with_reducible first | exact HB.out | apply vA | apply vN | apply vD) | exact HB.out) hb); have n1_ := Aside0.mk (hbox); have n2_ := Aside0.mk ((by rw [hg]; exact (below_size (by repeat first | (with_reducible first | exact HB.out | apply vA | apply vN | apply vD) | exact HB.out)) : w.heap.size ≤ gb996)); have n3_ := n2_; clear HB; have HB := n0_; have BK996 := n1_; have GW996 := n2_; have GE996 := n3_; clear n0_ n1_ n2_ n3_; clear hb hbox hg) | ((with_reducible refine gate_dst (N := 4) rfl ?_); refine box_event ?hg (N := 4) ?hd (cs := #[.int .i64 0, .int .i64 0, .int .i64 0, .int .i64 0]) (t := 24) ?hr ?_; (case hd => rfl); (case hg => rfl); (case hr => first | (go_simp; done) | (go_simp; rfl)); intro gb997 hg w8 hbox hb; have n0_ := zb BK996 hb rfl; have n1_ := Aside0.mk (below_step (by repeat first | (with_reducible first | exact HB.out | apply vA | apply vN | apply vD | refine vS ?_ GE996.out) | exact HB.out) hb); have n2_ := Aside0.mk (hbox); have n3_ := Aside0.mk ((by rw [hg]; exact (below_size (by repeat first | (with_reducible first | exact HB.out | apply vA | apply vN | apply vD | refine vS ?_ GE996.out) | exact HB.out)) : w.heap.size ≤ gb997)); have n4_ := n3_; have n5_ := zl BK996 hg rfl; have n6_ := zg BK996 hg rfl; clear BK996; clear HB; have BK996 := n0_; have HB := n1_; have BK997 := n2_; have GW997 := n3_; have GE997 := n4_; have NB996_997 := n5_; have NB997_996 := n6_; clear n0_ n1_ n2_ n3_ n4_ n5_ n6_; clear hb hbox hg; have hnb9 := NB996_997.out; have hnc9 := NB997_996.out; obtain ⟨hcz10_0, hcz10_1, hcz10_2, hcz10_3, hfz10_0, hfz10_1, hfz10_2, hfz10_3⟩ := zc4 BK996; obtain ⟨hcz11_0, hcz11_1, hcz11_2, hcz11_3, hfz11_0, hfz11_1, hfz11_2, hfz11_3⟩ := zc4 BK997) | ((with_reducible refine gate_callee (f := 45) rfl ?_); refine goesL_ (some 16) rfl rfl Try.func45 (by kernel_rfl) rfl #[.agg #[.int .i64 t988, .int .i64 t989, .int .i64 t990, .int .i64 t991], .agg #[.int .i64 t992, .int .i64 t993, .int .i64 t994, .int .i64 t995]] rfl (by (try simp only [List.map_toArray, List.map_cons, List.map_nil]); first | done | rfl | (simp only [List.length_drop, List.length_take]; rfl)) ?_; (with_reducible refine (impl_RangeJoin.calls k t988 t989 t990 t991 t992 t993 t994 t995 t998 t999 t1000 t1001 _ A4.out).mono ?_); rintro e w12 ⟨rfl, hb⟩; refine ⟨_, rfl, ?_⟩; have n0_ := Aside0.mk (blk_below (g := gb996) (o := .cells #[.int .i64 t988, .int .i64 t989, .int .i64 t990, .int .i64 t991] 24 (0, 0)) (by (with_reducible repeat first | apply bN | apply bD | apply bA); refine blk_far ?_ NB996_997.out _; (with_reducible repeat first | apply bN | apply bD | apply bA); refine blk_far ?_ NB996_997.out _; (with_reducible repeat first | apply bN | apply bD | apply bA); refine blk_far ?_ NB996_997.out _; (with_reducible repeat first | apply bN | apply bD | apply bA); refine blk_far ?_ NB996_997.out _; (with_reducible repeat first | apply bN | apply bD | apply bA); refine blk_put (cs := #[.int .i64 t988, .int .i64 t989, .int .i64 t990, .int .i64 0]) ?_ 3 _ rfl; (with_reducible repeat first | apply bN | apply bD | apply bA); refine blk_put (cs := #[.int .i64 t988, .int .i64 t989, .int .i64 0, .int .i64 0]) ?_ 2 _ rfl; (with_reducible repeat first | apply bN | apply bD | apply bA); refine blk_put (cs := #[.int .i64 t988, .int .i64 0, .int .i64 0, .int .i64 0]) ?_ 1 _ rfl; (with_reducible repeat first | apply bN | apply bD | apply bA); refine blk_put (cs := #[.int .i64 0, .int .i64 0, .int .i64 0, .int .i64 0]) ?_ 0 _ rfl; (with_reducible repeat first | apply bN | apply bD | apply bA); exact BK996.out) hb); have n1_ := Aside0.mk (blk_below (g := gb997) (o := .cells #[.int .i64 t992, .int .i64 t993, .int .i64 t994, .int .i64 t995] 24 (0, 0)) (by (with_reducible repeat first | apply bN | apply bD | apply bA); refine blk_put (cs := #[.int .i64 t992, .int .i64 t993, .int .i64 t994, .int .i64 0]) ?_ 3 _ rfl; (with_reducible repeat first | apply bN | apply bD | apply bA); refine blk_put (cs := #[.int .i64 t992, .int .i64 t993, .int .i64 0, .int .i64 0]) ?_ 2 _ rfl; (with_reducible repeat first | apply bN | apply bD | apply bA); refine blk_put (cs := #[.int .i64 t992, .int .i64 0, .int .i64 0, .int .i64 0]) ?_ 1 _ rfl; (with_reducible repeat first | apply bN | apply bD | apply bA); refine blk_put (cs := #[.int .i64 0, .int .i64 0, .int .i64 0, .int .i64 0]) ?_ 0 _ rfl; (with_reducible repeat first | apply bN | apply bD | apply bA); refine blk_far ?_ NB997_996.out _; (with_reducible repeat first | apply bN | apply bD | apply bA); refine blk_far ?_ NB997_996.out _; (with_reducible repeat first | apply bN | apply bD | apply bA); refine blk_far ?_ NB997_996.out _; (with_reducible repeat first | apply bN | apply bD | apply bA); refine blk_far ?_ NB997_996.out _; (with_reducible repeat first | apply bN | apply bD | apply bA); exact BK997.out) hb); have n2_ := Aside0.mk (below_step (by repeat first | (with_reducible first | exact HB.out | apply vA | apply vN | apply vD | refine vS ?_ GE996.out | refine vS ?_ GE997.out) | exact HB.out) hb); clear BK996; clear BK997; clear HB; have BK996 := n0_; have BK997 := n1_; have HB := n2_; clear n0_ n1_ n2_; (try clear hb); (try clear hb2); (try clear hk); (try clear hi)) | ((with_reducible refine gate_dst (N := 5) rfl ?_); refine box_event ?hg (N := 5) ?hd (cs := #[.int .i64 0, .int .i64 0, .int .i64 0, .int .i64 0]) (t := 24) ?hr ?_; (case hd => rfl); (case hg => rfl); (case hr => first | (go_simp; done) | (go_simp; rfl)); intro gb1002 hg w13 hbox hb; have n0_ := zb BK996 hb rfl; have n1_ := zb BK997 hb rfl; have n2_ := Aside0.mk (below_step (by repeat first | (with_reducible first | exact HB.out | apply vA | apply vN | apply vD | refine vS ?_ GE996.out | refine vS ?_ GE997.out) | exact HB.out) hb); have n3_ := Aside0.mk (hbox); have n4_ := Aside0.mk ((by rw [hg]; exact (below_size (by repeat first | (with_reducible first | exact HB.out | apply vA | apply vN | apply vD | refine vS ?_ GE996.out | refine vS ?_ GE997.out) | exact HB.out)) : w.heap.size ≤ gb1002)); have n5_ := n4_; have n6_ := zl BK996 hg rfl; have n7_ := zg BK996 hg rfl; have n8_ := zl BK997 hg rfl; have n9_ := zg BK997 hg rfl; clear BK996; clear BK997; clear HB; have BK996 := n0_; have BK997 := n1_; have HB := n2_; have BK1002 := n3_; have GW1002 := n4_; have GE1002 := n5_; have NB996_1002 := n6_; have NB1002_996 := n7_; have NB997_1002 := n8_; have NB1002_997 := n9_; clear n0_ n1_ n2_ n3_ n4_ n5_ n6_ n7_ n8_ n9_; clear hb hbox hg; have hnb14 := NB1002_996.out; have hnc14 := NB996_1002.out; have hnb15 := NB1002_997.out; have hnc15 := NB997_1002.out; obtain ⟨hcz16_0, hcz16_1, hcz16_2, hcz16_3, hfz16_0, hfz16_1, hfz16_2, hfz16_3⟩ := zc4 BK1002))
  (try simp only [Act.put, List.setIfInBounds_toArray, List.set_cons_zero, List.set_cons_succ])
  go_cut [26] (fun v26 wc => ∃ (kq : Nat) (x26_4 : Bool), v26 = .bool x26_4 ∧ Aside0 (laws_FnJoinIn.j0 kq x26_4 t988 t989 t990 t991 t992 t993 t994 t995 t998 t999 t1000 t1001 = some r) ∧ Aside0 (kq ≤ k) ∧ Aside0 (wc.heap[gb996]? = some (.cells #[.int .i64 t988, .int .i64 t989, .int .i64 t990, .int .i64 t991] 24 (0, 0))) ∧ Aside0 (wc.heap[gb997]? = some (.cells #[.int .i64 t992, .int .i64 t993, .int .i64 t994, .int .i64 t995] 24 (0, 0))) ∧ Aside0 (wc.heap[gb1002]? = some (.cells #[.int .i64 t998, .int .i64 t999, .int .i64 t1000, .int .i64 t1001] 24 (0, 0))) ∧ Aside0 (Below w.heap.size w wc))
  case first =>
   have H := HC5.out
   clear HC5
   replace H := Option.bind_eq_some_iff.mp H
   obtain ⟨⟨t1003, t1004, t1005, t1006⟩, A170, H⟩ := H
   try dsimp only at H
   have A17 := Aside0.mk A170
   clear A170
   by_cases c18 : (!(t998 == t1003) || (!(t999 == t1004) || (!(t1000 == t1005) || (!(t1001 == t1006))))) = true
   ·rw [if_pos c18] at H
    have c18b0 : (!(t998 == t1003) || (!(t999 == t1004) || (!(t1000 == t1005) || (!(t1001 == t1006))))) = true := c18
    clear c18
    (first | rw [c18b0] | (simp only [i64_w, i32_w]; rw [c18b0]) | skip)
    have H' := Aside0.mk H
    clear H
    try go_wp2
    have n0_ : Aside0 (((((w13.setCell ⟨gb1002, 0, none⟩ (.int .i64 t998)).setCell ⟨gb1002, 1, none⟩ (.int .i64 t999)).setCell ⟨gb1002, 2, none⟩ (.int .i64 t1000)).setCell ⟨gb1002, 3, none⟩ (.int .i64 t1001)).heap[gb996]? = some (.cells #[.int .i64 t988, .int .i64 t989, .int .i64 t990, .int .i64 t991] 24 (0, 0))) := ⟨by (with_reducible repeat first | apply bN | apply bD | apply bA); refine blk_far ?_ NB996_1002.out _; (with_reducible repeat first | apply bN | apply bD | apply bA); refine blk_far ?_ NB996_1002.out _; (with_reducible repeat first | apply bN | apply bD | apply bA); refine blk_far ?_ NB996_1002.out _; (with_reducible repeat first | apply bN | apply bD | apply bA); refine blk_far ?_ NB996_1002.out _; (with_reducible repeat first | apply bN | apply bD | apply bA); exact BK996.out⟩
    have n1_ : Aside0 (((((w13.setCell ⟨gb1002, 0, none⟩ (.int .i64 t998)).setCell ⟨gb1002, 1, none⟩ (.int .i64 t999)).setCell ⟨gb1002, 2, none⟩ (.int .i64 t1000)).setCell ⟨gb1002, 3, none⟩ (.int .i64 t1001)).heap[gb997]? = some (.cells #[.int .i64 t992, .int .i64 t993, .int .i64 t994, .int .i64 t995] 24 (0, 0))) := ⟨by (with_reducible repeat first | apply bN | apply bD | apply bA); refine blk_far ?_ NB997_1002.out _; (with_reducible repeat first | apply bN | apply bD | apply bA); refine blk_far ?_ NB997_1002.out _; (with_reducible repeat first | apply bN | apply bD | apply bA); refine blk_far ?_ NB997_1002.out _; (with_reducible repeat first | apply bN | apply bD | apply bA); refine blk_far ?_ NB997_1002.out _; (with_reducible repeat first | apply bN | apply bD | apply bA); exact BK997.out⟩
    have n2_ : Aside0 (((((w13.setCell ⟨gb1002, 0, none⟩ (.int .i64 t998)).setCell ⟨gb1002, 1, none⟩ (.int .i64 t999)).setCell ⟨gb1002, 2, none⟩ (.int .i64 t1000)).setCell ⟨gb1002, 3, none⟩ (.int .i64 t1001)).heap[gb1002]? = some (.cells #[.int .i64 t998, .int .i64 t999, .int .i64 t1000, .int .i64 t1001] 24 (0, 0))) := ⟨by (with_reducible repeat first | apply bN | apply bD | apply bA); refine blk_put (cs := #[.int .i64 t998, .int .i64 t999, .int .i64 t1000, .int .i64 0]) ?_ 3 _ rfl; (with_reducible repeat first | apply bN | apply bD | apply bA); refine blk_put (cs := #[.int .i64 t998, .int .i64 t999, .int .i64 0, .int .i64 0]) ?_ 2 _ rfl; (with_reducible repeat first | apply bN | apply bD | apply bA); refine blk_put (cs := #[.int .i64 t998, .int .i64 0, .int .i64 0, .int .i64 0]) ?_ 1 _ rfl; (with_reducible repeat first | apply bN | apply bD | apply bA); refine blk_put (cs := #[.int .i64 0, .int .i64 0, .int .i64 0, .int .i64 0]) ?_ 0 _ rfl; (with_reducible repeat first | apply bN | apply bD | apply bA); exact BK1002.out⟩
    have n3_ : Aside0 (Below w.heap.size w ((((w13.setCell ⟨gb1002, 0, none⟩ (.int .i64 t998)).setCell ⟨gb1002, 1, none⟩ (.int .i64 t999)).setCell ⟨gb1002, 2, none⟩ (.int .i64 t1000)).setCell ⟨gb1002, 3, none⟩ (.int .i64 t1001))) := ⟨by repeat first | (with_reducible first | exact HB.out | apply vA | apply vN | apply vD | refine vS ?_ GE996.out | refine vS ?_ GE997.out | refine vS ?_ GE1002.out) | exact HB.out⟩
    (try clear BK996)
    (try clear BK997)
    (try clear BK1002)
    (try clear HB)
    generalize ((((w13.setCell ⟨gb1002, 0, none⟩ (.int .i64 t998)).setCell ⟨gb1002, 1, none⟩ (.int .i64 t999)).setCell ⟨gb1002, 2, none⟩ (.int .i64 t1000)).setCell ⟨gb1002, 3, none⟩ (.int .i64 t1001)) = w19 at n0_ n1_ n2_ n3_ ⊢
    have BK996 := n0_
    have BK997 := n1_
    have BK1002 := n2_
    have HB := n3_
    clear n0_ n1_ n2_ n3_
    have n0_ := Aside0.mk (blk_drew BK996.out)
    have n1_ := Aside0.mk (blk_drew BK997.out)
    have n2_ := Aside0.mk (blk_drew BK1002.out)
    have n3_ := Aside0.mk (below_drew1 HB.out)
    clear BK996
    clear BK997
    clear BK1002
    clear HB
    have BK996 := n0_
    have BK997 := n1_
    have BK1002 := n2_
    have HB := n3_
    clear n0_ n1_ n2_ n3_
    refine start_ (n := 10) (S := fun w' => w'.cell? ⟨gb1002, 0, none⟩ = some (.int .i64 t998) ∧ w'.cell? ⟨gb1002, 1, none⟩ = some (.int .i64 t999) ∧ w'.cell? ⟨gb1002, 2, none⟩ = some (.int .i64 t1000) ∧ w'.cell? ⟨gb1002, 3, none⟩ = some (.int .i64 t1001) ∧ w'.cell? ⟨gb996, 0, none⟩ = some (.int .i64 t988) ∧ w'.cell? ⟨gb996, 1, none⟩ = some (.int .i64 t989) ∧ w'.cell? ⟨gb996, 2, none⟩ = some (.int .i64 t990) ∧ w'.cell? ⟨gb996, 3, none⟩ = some (.int .i64 t991) ∧ w'.cell? ⟨gb997, 0, none⟩ = some (.int .i64 t992) ∧ w'.cell? ⟨gb997, 1, none⟩ = some (.int .i64 t993) ∧ w'.cell? ⟨gb997, 2, none⟩ = some (.int .i64 t994) ∧ w'.cell? ⟨gb997, 3, none⟩ = some (.int .i64 t995)) (ds := []) #[false, false, false, false, false, false, false, false, false, false] (by kernel_rfl) rfl rfl ⟨(blk_cell BK1002.out 0).trans rfl, (blk_cell BK1002.out 1).trans rfl, (blk_cell BK1002.out 2).trans rfl, (blk_cell BK1002.out 3).trans rfl, (blk_cell BK996.out 0).trans rfl, (blk_cell BK996.out 1).trans rfl, (blk_cell BK996.out 2).trans rfl, (blk_cell BK996.out 3).trans rfl, (blk_cell BK997.out 0).trans rfl, (blk_cell BK997.out 1).trans rfl, (blk_cell BK997.out 2).trans rfl, (blk_cell BK997.out 3).trans rfl⟩ (fun hHeld => ?_); refine with_tabW laws_FnJoinIn.tab5 laws_FnJoinIn.bits5 (fun HT_ HW_ => ?_)
    generalize w19.drew = w20 at BK996 BK997 BK1002 HB hHeld ⊢
    refine take_ (i := 0) (N := some 17) (v := ?_) (a' := ?_) #[true, false, false, false, false, false, false, false, false, false] rfl rfl (take_ofW HT_.out HW_.out (by kernel_rfl)) (fun _ _ _ h => h) (Or.inl ⟨by rfl, ?_⟩) hHeld ?_ ?_
    rotate_left
    ·rintro w' ⟨s0, s1, s2, s3, s4, s5, s6, s7, s8, s9, s10, s11⟩
     go_simp
     with_reducible rfl
    rotate_left
    ·simp only [Act.put, List.setIfInBounds_toArray, List.set_cons_zero, List.set_cons_succ, i64_w, i32_w]
     rfl
    refine take_ (i := 1) (N := some 18) (v := ?_) (a' := ?_) #[true, true, false, false, false, false, false, false, false, false] rfl rfl (take_ofW HT_.out HW_.out (by kernel_rfl)) (fun _ _ _ h => h) (Or.inl ⟨by rfl, ?_⟩) hHeld ?_ ?_
    rotate_left
    ·rintro w' ⟨s0, s1, s2, s3, s4, s5, s6, s7, s8, s9, s10, s11⟩
     go_simp
     with_reducible rfl
    rotate_left
    ·simp only [Act.put, List.setIfInBounds_toArray, List.set_cons_zero, List.set_cons_succ, i64_w, i32_w]
     rfl
    refine take_ (i := 2) (N := some 19) (v := ?_) (a' := ?_) #[true, true, true, false, false, false, false, false, false, false] rfl rfl (take_ofW HT_.out HW_.out (by kernel_rfl)) (fun _ _ _ h => h) (Or.inl ⟨by rfl, ?_⟩) hHeld ?_ ?_
    rotate_left
    ·rintro w' ⟨s0, s1, s2, s3, s4, s5, s6, s7, s8, s9, s10, s11⟩
     go_simp
     with_reducible rfl
    rotate_left
    ·simp only [Act.put, List.setIfInBounds_toArray, List.set_cons_zero, List.set_cons_succ, i64_w, i32_w]
     rfl
    refine one_ (i := 3) (N := some 20) #[true, true, true, true, false, false, false, false, false, false] rfl rfl (one_of HT_.out (by kernel_rfl)) (by decide) (fun K hK => ?_)
    refine goes_ Try.func46 (by kernel_rfl) rfl #[.agg #[.int .i64 t988, .int .i64 t989, .int .i64 t990, .int .i64 t991], .agg #[.int .i64 t992, .int .i64 t993, .int .i64 t994, .int .i64 t995]] (by rfl) rfl rfl (by (try simp only [List.map_toArray, List.map_cons, List.map_nil]); first | done | rfl | (simp only [List.length_drop, List.length_take]; rfl)) ?_
    with_reducible refine (spec_RangeJoin.calls k t988 t989 t990 t991 t992 t993 t994 t995 t1003 t1004 t1005 t1006 _ A17.out).mono ?_
    rintro e w21 ⟨rfl, hb⟩
    refine ⟨_, rfl, ?_⟩
    have n0_ := zb BK996 hb rfl
    have n1_ := zb BK997 hb rfl
    have n2_ := zb BK1002 hb rfl
    have n3_ := Aside0.mk (below_step (by repeat first | (with_reducible first | exact HB.out | apply vA | apply vN | apply vD | refine vS ?_ GE996.out | refine vS ?_ GE997.out | refine vS ?_ GE1002.out) | exact HB.out) hb)
    clear BK996
    clear BK997
    clear BK1002
    clear HB
    have BK996 := n0_
    have BK997 := n1_
    have BK1002 := n2_
    have HB := n3_
    clear n0_ n1_ n2_ n3_
    (try clear hb)
    (try clear hb2)
    (try clear hk)
    (try clear hi)
    refine hK.out _ _ ⟨(blk_cell BK1002.out 0).trans rfl, (blk_cell BK1002.out 1).trans rfl, (blk_cell BK1002.out 2).trans rfl, (blk_cell BK1002.out 3).trans rfl, (blk_cell BK996.out 0).trans rfl, (blk_cell BK996.out 1).trans rfl, (blk_cell BK996.out 2).trans rfl, (blk_cell BK996.out 3).trans rfl, (blk_cell BK997.out 0).trans rfl, (blk_cell BK997.out 1).trans rfl, (blk_cell BK997.out 2).trans rfl, (blk_cell BK997.out 3).trans rfl⟩ (fun hHeld => ?_)
    clear hK K
    refine norm_ (a' := ?_) ?_ ?_
    rotate_left
    ·show Act.put _ (some 20) _ = _
     simp only [Act.put, List.setIfInBounds_toArray, List.set_cons_zero, List.set_cons_succ, i64_w, i32_w]
     rfl
    refine pure_ (i := 4) (N := some 21) (v := ?_) (a' := ?_) #[true, true, true, true, true, false, false, false, false, false] rfl rfl (any_of HT_.out (by kernel_rfl)) (fun _ _ _ h => h) (Or.inl ⟨by rfl, ?_⟩) ?_ ?_
    rotate_left
    ·intro w'
     go_simp
     with_reducible rfl
    rotate_left
    ·simp only [Act.put, List.setIfInBounds_toArray, List.set_cons_zero, List.set_cons_succ, i64_w, i32_w]
     rfl
    refine pure_ (i := 5) (N := some 22) (v := ?_) (a' := ?_) #[true, true, true, true, true, true, false, false, false, false] rfl rfl (any_of HT_.out (by kernel_rfl)) (fun _ _ _ h => h) (Or.inl ⟨by rfl, ?_⟩) ?_ ?_
    rotate_left
    ·intro w'
     go_simp
     with_reducible rfl
    rotate_left
    ·simp only [Act.put, List.setIfInBounds_toArray, List.set_cons_zero, List.set_cons_succ, i64_w, i32_w]
     rfl
    refine pure_ (i := 6) (N := some 23) (v := undef) (a' := ?_) #[true, true, true, true, true, true, true, false, false, false] rfl rfl (any_of HT_.out (by kernel_rfl)) (fun _ _ _ h => h) (Or.inr ⟨by rfl, rfl⟩) ?_ ?_
    rotate_left
    ·simp only [Act.put, List.setIfInBounds_toArray, List.set_cons_zero, List.set_cons_succ, i64_w, i32_w]
     rfl
    refine pure_ (i := 7) (N := some 24) (v := undef) (a' := ?_) #[true, true, true, true, true, true, true, true, false, false] rfl rfl (any_of HT_.out (by kernel_rfl)) (fun _ _ _ h => h) (Or.inr ⟨by rfl, rfl⟩) ?_ ?_
    rotate_left
    ·simp only [Act.put, List.setIfInBounds_toArray, List.set_cons_zero, List.set_cons_succ, i64_w, i32_w]
     rfl
    refine pure_ (i := 8) (N := some 25) (v := undef) (a' := ?_) #[true, true, true, true, true, true, true, true, true, false] rfl rfl (any_of HT_.out (by kernel_rfl)) (fun _ _ _ h => h) (Or.inr ⟨by rfl, rfl⟩) ?_ ?_
    rotate_left
    ·simp only [Act.put, List.setIfInBounds_toArray, List.set_cons_zero, List.set_cons_succ, i64_w, i32_w]
     rfl
    refine pure_ (i := 9) (N := some 26) (v := ?_) (a' := ?_) #[true, true, true, true, true, true, true, true, true, true] rfl rfl (any_of HT_.out (by kernel_rfl)) (fun _ _ _ h => h) (Or.inl ⟨by rfl, ?_⟩) ?_ ?_
    rotate_left
    ·intro w'
     go_simp
     with_reducible rfl
    rotate_left
    ·simp only [Act.put, List.setIfInBounds_toArray, List.set_cons_zero, List.set_cons_succ, i64_w, i32_w]
     rfl
    refine done_ (done_of HT_.out (by kernel_rfl)) ?_
    try go_wp2
    go_meet
    case rel => exact ⟨_, (true), (by first | rfl | (simp; done) | (simp [*]; done)), H', ⟨by first | omega | exact Nat.le_refl _⟩, ⟨by (with_reducible repeat first | apply bN | apply bD | apply bA); exact BK996.out⟩, ⟨by (with_reducible repeat first | apply bN | apply bD | apply bA); exact BK997.out⟩, ⟨by (with_reducible repeat first | apply bN | apply bD | apply bA); exact BK1002.out⟩, ⟨by repeat first | (with_reducible first | exact HB.out | apply vA | apply vN | apply vD | refine vS ?_ GE996.out | refine vS ?_ GE997.out | refine vS ?_ GE1002.out) | exact HB.out⟩⟩
   ·rw [if_neg c18] at H
    have c18b0 : (!(t998 == t1003) || (!(t999 == t1004) || (!(t1000 == t1005) || (!(t1001 == t1006))))) = false := by simpa using c18
    clear c18
    (first | rw [c18b0] | (simp only [i64_w, i32_w]; rw [c18b0]) | skip)
    replace H := Option.bind_eq_some_iff.mp H
    obtain ⟨t1007, A220, H⟩ := H
    try dsimp only at H
    have A22 := Aside0.mk A220
    clear A220
    have H' := Aside0.mk H
    clear H
    try go_wp2
    have n0_ : Aside0 (((((w13.setCell ⟨gb1002, 0, none⟩ (.int .i64 t998)).setCell ⟨gb1002, 1, none⟩ (.int .i64 t999)).setCell ⟨gb1002, 2, none⟩ (.int .i64 t1000)).setCell ⟨gb1002, 3, none⟩ (.int .i64 t1001)).heap[gb996]? = some (.cells #[.int .i64 t988, .int .i64 t989, .int .i64 t990, .int .i64 t991] 24 (0, 0))) := ⟨by (with_reducible repeat first | apply bN | apply bD | apply bA); refine blk_far ?_ NB996_1002.out _; (with_reducible repeat first | apply bN | apply bD | apply bA); refine blk_far ?_ NB996_1002.out _; (with_reducible repeat first | apply bN | apply bD | apply bA); refine blk_far ?_ NB996_1002.out _; (with_reducible repeat first | apply bN | apply bD | apply bA); refine blk_far ?_ NB996_1002.out _; (with_reducible repeat first | apply bN | apply bD | apply bA); exact BK996.out⟩
    have n1_ : Aside0 (((((w13.setCell ⟨gb1002, 0, none⟩ (.int .i64 t998)).setCell ⟨gb1002, 1, none⟩ (.int .i64 t999)).setCell ⟨gb1002, 2, none⟩ (.int .i64 t1000)).setCell ⟨gb1002, 3, none⟩ (.int .i64 t1001)).heap[gb997]? = some (.cells #[.int .i64 t992, .int .i64 t993, .int .i64 t994, .int .i64 t995] 24 (0, 0))) := ⟨by (with_reducible repeat first | apply bN | apply bD | apply bA); refine blk_far ?_ NB997_1002.out _; (with_reducible repeat first | apply bN | apply bD | apply bA); refine blk_far ?_ NB997_1002.out _; (with_reducible repeat first | apply bN | apply bD | apply bA); refine blk_far ?_ NB997_1002.out _; (with_reducible repeat first | apply bN | apply bD | apply bA); refine blk_far ?_ NB997_1002.out _; (with_reducible repeat first | apply bN | apply bD | apply bA); exact BK997.out⟩
    have n2_ : Aside0 (((((w13.setCell ⟨gb1002, 0, none⟩ (.int .i64 t998)).setCell ⟨gb1002, 1, none⟩ (.int .i64 t999)).setCell ⟨gb1002, 2, none⟩ (.int .i64 t1000)).setCell ⟨gb1002, 3, none⟩ (.int .i64 t1001)).heap[gb1002]? = some (.cells #[.int .i64 t998, .int .i64 t999, .int .i64 t1000, .int .i64 t1001] 24 (0, 0))) := ⟨by (with_reducible repeat first | apply bN | apply bD | apply bA); refine blk_put (cs := #[.int .i64 t998, .int .i64 t999, .int .i64 t1000, .int .i64 0]) ?_ 3 _ rfl; (with_reducible repeat first | apply bN | apply bD | apply bA); refine blk_put (cs := #[.int .i64 t998, .int .i64 t999, .int .i64 0, .int .i64 0]) ?_ 2 _ rfl; (with_reducible repeat first | apply bN | apply bD | apply bA); refine blk_put (cs := #[.int .i64 t998, .int .i64 0, .int .i64 0, .int .i64 0]) ?_ 1 _ rfl; (with_reducible repeat first | apply bN | apply bD | apply bA); refine blk_put (cs := #[.int .i64 0, .int .i64 0, .int .i64 0, .int .i64 0]) ?_ 0 _ rfl; (with_reducible repeat first | apply bN | apply bD | apply bA); exact BK1002.out⟩
    have n3_ : Aside0 (Below w.heap.size w ((((w13.setCell ⟨gb1002, 0, none⟩ (.int .i64 t998)).setCell ⟨gb1002, 1, none⟩ (.int .i64 t999)).setCell ⟨gb1002, 2, none⟩ (.int .i64 t1000)).setCell ⟨gb1002, 3, none⟩ (.int .i64 t1001))) := ⟨by repeat first | (with_reducible first | exact HB.out | apply vA | apply vN | apply vD | refine vS ?_ GE996.out | refine vS ?_ GE997.out | refine vS ?_ GE1002.out) | exact HB.out⟩
    (try clear BK996)
    (try clear BK997)
    (try clear BK1002)
    (try clear HB)
    generalize ((((w13.setCell ⟨gb1002, 0, none⟩ (.int .i64 t998)).setCell ⟨gb1002, 1, none⟩ (.int .i64 t999)).setCell ⟨gb1002, 2, none⟩ (.int .i64 t1000)).setCell ⟨gb1002, 3, none⟩ (.int .i64 t1001)) = w23 at n0_ n1_ n2_ n3_ ⊢
    have BK996 := n0_
    have BK997 := n1_
    have BK1002 := n2_
    have HB := n3_
    clear n0_ n1_ n2_ n3_
    have n0_ := Aside0.mk (blk_drew BK996.out)
    have n1_ := Aside0.mk (blk_drew BK997.out)
    have n2_ := Aside0.mk (blk_drew BK1002.out)
    have n3_ := Aside0.mk (below_drew1 HB.out)
    clear BK996
    clear BK997
    clear BK1002
    clear HB
    have BK996 := n0_
    have BK997 := n1_
    have BK1002 := n2_
    have HB := n3_
    clear n0_ n1_ n2_ n3_
    refine start_ (n := 10) (S := fun w' => w'.cell? ⟨gb1002, 0, none⟩ = some (.int .i64 t998) ∧ w'.cell? ⟨gb1002, 1, none⟩ = some (.int .i64 t999) ∧ w'.cell? ⟨gb1002, 2, none⟩ = some (.int .i64 t1000) ∧ w'.cell? ⟨gb1002, 3, none⟩ = some (.int .i64 t1001) ∧ w'.cell? ⟨gb996, 0, none⟩ = some (.int .i64 t988) ∧ w'.cell? ⟨gb996, 1, none⟩ = some (.int .i64 t989) ∧ w'.cell? ⟨gb996, 2, none⟩ = some (.int .i64 t990) ∧ w'.cell? ⟨gb996, 3, none⟩ = some (.int .i64 t991) ∧ w'.cell? ⟨gb997, 0, none⟩ = some (.int .i64 t992) ∧ w'.cell? ⟨gb997, 1, none⟩ = some (.int .i64 t993) ∧ w'.cell? ⟨gb997, 2, none⟩ = some (.int .i64 t994) ∧ w'.cell? ⟨gb997, 3, none⟩ = some (.int .i64 t995)) (ds := []) #[false, false, false, false, false, false, false, false, false, false] (by kernel_rfl) rfl rfl ⟨(blk_cell BK1002.out 0).trans rfl, (blk_cell BK1002.out 1).trans rfl, (blk_cell BK1002.out 2).trans rfl, (blk_cell BK1002.out 3).trans rfl, (blk_cell BK996.out 0).trans rfl, (blk_cell BK996.out 1).trans rfl, (blk_cell BK996.out 2).trans rfl, (blk_cell BK996.out 3).trans rfl, (blk_cell BK997.out 0).trans rfl, (blk_cell BK997.out 1).trans rfl, (blk_cell BK997.out 2).trans rfl, (blk_cell BK997.out 3).trans rfl⟩ (fun hHeld => ?_); refine with_tabW laws_FnJoinIn.tab5 laws_FnJoinIn.bits5 (fun HT_ HW_ => ?_)
    generalize w23.drew = w24 at BK996 BK997 BK1002 HB hHeld ⊢
    refine take_ (i := 0) (N := some 17) (v := ?_) (a' := ?_) #[true, false, false, false, false, false, false, false, false, false] rfl rfl (take_ofW HT_.out HW_.out (by kernel_rfl)) (fun _ _ _ h => h) (Or.inl ⟨by rfl, ?_⟩) hHeld ?_ ?_
    rotate_left
    ·rintro w' ⟨s0, s1, s2, s3, s4, s5, s6, s7, s8, s9, s10, s11⟩
     go_simp
     with_reducible rfl
    rotate_left
    ·simp only [Act.put, List.setIfInBounds_toArray, List.set_cons_zero, List.set_cons_succ, i64_w, i32_w]
     rfl
    refine take_ (i := 1) (N := some 18) (v := ?_) (a' := ?_) #[true, true, false, false, false, false, false, false, false, false] rfl rfl (take_ofW HT_.out HW_.out (by kernel_rfl)) (fun _ _ _ h => h) (Or.inl ⟨by rfl, ?_⟩) hHeld ?_ ?_
    rotate_left
    ·rintro w' ⟨s0, s1, s2, s3, s4, s5, s6, s7, s8, s9, s10, s11⟩
     go_simp
     with_reducible rfl
    rotate_left
    ·simp only [Act.put, List.setIfInBounds_toArray, List.set_cons_zero, List.set_cons_succ, i64_w, i32_w]
     rfl
    refine take_ (i := 2) (N := some 19) (v := ?_) (a' := ?_) #[true, true, true, false, false, false, false, false, false, false] rfl rfl (take_ofW HT_.out HW_.out (by kernel_rfl)) (fun _ _ _ h => h) (Or.inl ⟨by rfl, ?_⟩) hHeld ?_ ?_
    rotate_left
    ·rintro w' ⟨s0, s1, s2, s3, s4, s5, s6, s7, s8, s9, s10, s11⟩
     go_simp
     with_reducible rfl
    rotate_left
    ·simp only [Act.put, List.setIfInBounds_toArray, List.set_cons_zero, List.set_cons_succ, i64_w, i32_w]
     rfl
    refine one_ (i := 3) (N := some 20) #[true, true, true, true, false, false, false, false, false, false] rfl rfl (one_of HT_.out (by kernel_rfl)) (by decide) (fun K hK => ?_)
    refine goes_ Try.func46 (by kernel_rfl) rfl #[.agg #[.int .i64 t988, .int .i64 t989, .int .i64 t990, .int .i64 t991], .agg #[.int .i64 t992, .int .i64 t993, .int .i64 t994, .int .i64 t995]] (by rfl) rfl rfl (by (try simp only [List.map_toArray, List.map_cons, List.map_nil]); first | done | rfl | (simp only [List.length_drop, List.length_take]; rfl)) ?_
    with_reducible refine (spec_RangeJoin.calls k t988 t989 t990 t991 t992 t993 t994 t995 t1003 t1004 t1005 t1006 _ A17.out).mono ?_
    rintro e w25 ⟨rfl, hb⟩
    refine ⟨_, rfl, ?_⟩
    have n0_ := zb BK996 hb rfl
    have n1_ := zb BK997 hb rfl
    have n2_ := zb BK1002 hb rfl
    have n3_ := Aside0.mk (below_step (by repeat first | (with_reducible first | exact HB.out | apply vA | apply vN | apply vD | refine vS ?_ GE996.out | refine vS ?_ GE997.out | refine vS ?_ GE1002.out) | exact HB.out) hb)
    clear BK996
    clear BK997
    clear BK1002
    clear HB
    have BK996 := n0_
    have BK997 := n1_
    have BK1002 := n2_
    have HB := n3_
    clear n0_ n1_ n2_ n3_
    (try clear hb)
    (try clear hb2)
    (try clear hk)
    (try clear hi)
    refine hK.out _ _ ⟨(blk_cell BK1002.out 0).trans rfl, (blk_cell BK1002.out 1).trans rfl, (blk_cell BK1002.out 2).trans rfl, (blk_cell BK1002.out 3).trans rfl, (blk_cell BK996.out 0).trans rfl, (blk_cell BK996.out 1).trans rfl, (blk_cell BK996.out 2).trans rfl, (blk_cell BK996.out 3).trans rfl, (blk_cell BK997.out 0).trans rfl, (blk_cell BK997.out 1).trans rfl, (blk_cell BK997.out 2).trans rfl, (blk_cell BK997.out 3).trans rfl⟩ (fun hHeld => ?_)
    clear hK K
    refine norm_ (a' := ?_) ?_ ?_
    rotate_left
    ·show Act.put _ (some 20) _ = _
     simp only [Act.put, List.setIfInBounds_toArray, List.set_cons_zero, List.set_cons_succ, i64_w, i32_w]
     rfl
    refine pure_ (i := 4) (N := some 21) (v := ?_) (a' := ?_) #[true, true, true, true, true, false, false, false, false, false] rfl rfl (any_of HT_.out (by kernel_rfl)) (fun _ _ _ h => h) (Or.inl ⟨by rfl, ?_⟩) ?_ ?_
    rotate_left
    ·intro w'
     go_simp
     with_reducible rfl
    rotate_left
    ·simp only [Act.put, List.setIfInBounds_toArray, List.set_cons_zero, List.set_cons_succ, i64_w, i32_w]
     rfl
    refine pure_ (i := 5) (N := some 22) (v := ?_) (a' := ?_) #[true, true, true, true, true, true, false, false, false, false] rfl rfl (any_of HT_.out (by kernel_rfl)) (fun _ _ _ h => h) (Or.inl ⟨by rfl, ?_⟩) ?_ ?_
    rotate_left
    ·intro w'
     go_simp
     with_reducible rfl
    rotate_left
    ·simp only [Act.put, List.setIfInBounds_toArray, List.set_cons_zero, List.set_cons_succ, i64_w, i32_w]
     rfl
    refine take_ (i := 6) (N := some 23) (v := ?_) (a' := ?_) #[true, true, true, true, true, true, true, false, false, false] rfl rfl (take_ofW HT_.out HW_.out (by kernel_rfl)) (fun _ _ _ h => h) (Or.inl ⟨by rfl, ?_⟩) hHeld ?_ ?_
    rotate_left
    ·rintro w' ⟨s0, s1, s2, s3, s4, s5, s6, s7, s8, s9, s10, s11⟩
     go_simp
     with_reducible rfl
    rotate_left
    ·simp only [Act.put, List.setIfInBounds_toArray, List.set_cons_zero, List.set_cons_succ, i64_w, i32_w]
     rfl
    refine one_ (i := 7) (N := some 24) #[true, true, true, true, true, true, true, true, false, false] rfl rfl (one_of HT_.out (by kernel_rfl)) (by decide) (fun K hK => ?_)
    refine goes_ Try.func18 (by kernel_rfl) rfl #[.agg #[.int .i64 t998, .int .i64 t999, .int .i64 t1000, .int .i64 t1001]] (by rfl) rfl rfl (by (try simp only [List.map_toArray, List.map_cons, List.map_nil]); first | done | rfl | (simp only [List.length_drop, List.length_take]; rfl)) ?_
    with_reducible refine (impl_RangeOk.calls t998 t999 t1000 t1001 t1007 _ A22.out).mono ?_
    rintro e w26 ⟨rfl, hb⟩
    refine ⟨_, rfl, ?_⟩
    have n0_ := zb BK996 hb rfl
    have n1_ := zb BK997 hb rfl
    have n2_ := zb BK1002 hb rfl
    have n3_ := Aside0.mk (below_step (by repeat first | (with_reducible first | exact HB.out | apply vA | apply vN | apply vD | refine vS ?_ GE996.out | refine vS ?_ GE997.out | refine vS ?_ GE1002.out) | exact HB.out) hb)
    clear BK996
    clear BK997
    clear BK1002
    clear HB
    have BK996 := n0_
    have BK997 := n1_
    have BK1002 := n2_
    have HB := n3_
    clear n0_ n1_ n2_ n3_
    (try clear hb)
    (try clear hb2)
    (try clear hk)
    (try clear hi)
    refine hK.out _ _ ⟨(blk_cell BK1002.out 0).trans rfl, (blk_cell BK1002.out 1).trans rfl, (blk_cell BK1002.out 2).trans rfl, (blk_cell BK1002.out 3).trans rfl, (blk_cell BK996.out 0).trans rfl, (blk_cell BK996.out 1).trans rfl, (blk_cell BK996.out 2).trans rfl, (blk_cell BK996.out 3).trans rfl, (blk_cell BK997.out 0).trans rfl, (blk_cell BK997.out 1).trans rfl, (blk_cell BK997.out 2).trans rfl, (blk_cell BK997.out 3).trans rfl⟩ (fun hHeld => ?_)
    clear hK K
    refine norm_ (a' := ?_) ?_ ?_
    rotate_left
    ·show Act.put _ (some 24) _ = _
     simp only [Act.put, List.setIfInBounds_toArray, List.set_cons_zero, List.set_cons_succ, i64_w, i32_w]
     rfl
    refine pure_ (i := 8) (N := some 25) (v := ?_) (a' := ?_) #[true, true, true, true, true, true, true, true, true, false] rfl rfl (any_of HT_.out (by kernel_rfl)) (fun _ _ _ h => h) (Or.inl ⟨by rfl, ?_⟩) ?_ ?_
    rotate_left
    ·intro w'
     go_simp
     with_reducible rfl
    rotate_left
    ·simp only [Act.put, List.setIfInBounds_toArray, List.set_cons_zero, List.set_cons_succ, i64_w, i32_w]
     rfl
    refine pure_ (i := 9) (N := some 26) (v := ?_) (a' := ?_) #[true, true, true, true, true, true, true, true, true, true] rfl rfl (any_of HT_.out (by kernel_rfl)) (fun _ _ _ h => h) (Or.inl ⟨by rfl, ?_⟩) ?_ ?_
    rotate_left
    ·intro w'
     go_simp
     with_reducible rfl
    rotate_left
    ·simp only [Act.put, List.setIfInBounds_toArray, List.set_cons_zero, List.set_cons_succ, i64_w, i32_w]
     rfl
    refine done_ (done_of HT_.out (by kernel_rfl)) ?_
    try go_wp2
    go_meet
    case rel => exact ⟨_, (!t1007), (by first | rfl | (simp; done) | (simp [*]; done)), H', ⟨by first | omega | exact Nat.le_refl _⟩, ⟨by (with_reducible repeat first | apply bN | apply bD | apply bA); exact BK996.out⟩, ⟨by (with_reducible repeat first | apply bN | apply bD | apply bA); exact BK997.out⟩, ⟨by (with_reducible repeat first | apply bN | apply bD | apply bA); exact BK1002.out⟩, ⟨by repeat first | (with_reducible first | exact HB.out | apply vA | apply vN | apply vD | refine vS ?_ GE996.out | refine vS ?_ GE997.out | refine vS ?_ GE1002.out) | exact HB.out⟩⟩
  case rest =>
   clear HC5
   try clear c1
   try clear c2
   try clear c2b0
   try clear c2b1
   try clear p2
   try clear c4
   try clear c9
   try clear c13
   try clear c14
   try clear c15
   try clear c18
   try clear c18b0
   try clear hcz10_0
   try clear hcz10_1
   try clear hcz10_2
   try clear hcz10_3
   try clear hcz11_0
   try clear hcz11_1
   try clear hcz11_2
   try clear hcz11_3
   try clear hcz16_0
   try clear hcz16_1
   try clear hcz16_2
   try clear hcz16_3
   try clear hfz10_0
   try clear hfz10_1
   try clear hfz10_2
   try clear hfz10_3
   try clear hfz11_0
   try clear hfz11_1
   try clear hfz11_2
   try clear hfz11_3
   try clear hfz16_0
   try clear hfz16_1
   try clear hfz16_2
   try clear hfz16_3
   obtain ⟨kq, x26_4, rfl, HA, HJ4, BK996, BK997, BK1002, HB⟩ := hcut
   cases kq with
   | zero => exact absurd HA.out (by simp [laws_FnJoinIn.j0])
   | succ kj4 =>
    have H := HA.out
    clear HA
    simp only [laws_FnJoinIn.j0] at H
    by_cases c27 : x26_4 = true
    ·subst c27
     rw [if_pos rfl] at H
     replace H := Option.bind_eq_some_iff.mp H
     obtain ⟨⟨t1008, t1009, t1010, t1011⟩, A280, H⟩ := H
     try dsimp only at H
     have A28 := Aside0.mk A280
     clear A280
     obtain rfl := Option.some.inj H
     try go_wp2
     have n0_ := Aside0.mk (blk_drew BK996.out)
     have n1_ := Aside0.mk (blk_drew BK997.out)
     have n2_ := Aside0.mk (blk_drew BK1002.out)
     have n3_ := Aside0.mk (below_drew1 HB.out)
     clear BK996
     clear BK997
     clear BK1002
     clear HB
     have BK996 := n0_
     have BK997 := n1_
     have BK1002 := n2_
     have HB := n3_
     clear n0_ n1_ n2_ n3_
     refine start_ (n := 6) (S := fun w' => w'.cell? ⟨gb1002, 0, none⟩ = some (.int .i64 t998) ∧ w'.cell? ⟨gb1002, 1, none⟩ = some (.int .i64 t999) ∧ w'.cell? ⟨gb1002, 2, none⟩ = some (.int .i64 t1000) ∧ w'.cell? ⟨gb1002, 3, none⟩ = some (.int .i64 t1001) ∧ w'.cell? ⟨gb996, 0, none⟩ = some (.int .i64 t988) ∧ w'.cell? ⟨gb996, 1, none⟩ = some (.int .i64 t989) ∧ w'.cell? ⟨gb996, 2, none⟩ = some (.int .i64 t990) ∧ w'.cell? ⟨gb996, 3, none⟩ = some (.int .i64 t991) ∧ w'.cell? ⟨gb997, 0, none⟩ = some (.int .i64 t992) ∧ w'.cell? ⟨gb997, 1, none⟩ = some (.int .i64 t993) ∧ w'.cell? ⟨gb997, 2, none⟩ = some (.int .i64 t994) ∧ w'.cell? ⟨gb997, 3, none⟩ = some (.int .i64 t995)) (ds := []) #[false, false, false, false, false, false] (by kernel_rfl) rfl rfl ⟨(blk_cell BK1002.out 0).trans rfl, (blk_cell BK1002.out 1).trans rfl, (blk_cell BK1002.out 2).trans rfl, (blk_cell BK1002.out 3).trans rfl, (blk_cell BK996.out 0).trans rfl, (blk_cell BK996.out 1).trans rfl, (blk_cell BK996.out 2).trans rfl, (blk_cell BK996.out 3).trans rfl, (blk_cell BK997.out 0).trans rfl, (blk_cell BK997.out 1).trans rfl, (blk_cell BK997.out 2).trans rfl, (blk_cell BK997.out 3).trans rfl⟩ (fun hHeld => ?_)
     generalize wc.drew = w29 at BK996 BK997 BK1002 HB hHeld ⊢
     refine take_ (i := 0) (N := some 27) (v := ?_) (a' := ?_) #[true, false, false, false, false, false] rfl rfl (by kernel_rfl) (fun _ _ _ h => h) (Or.inl ⟨by rfl, ?_⟩) hHeld ?_ ?_
     rotate_left
     ·rintro w' ⟨s0, s1, s2, s3, s4, s5, s6, s7, s8, s9, s10, s11⟩
      go_simp
      with_reducible rfl
     rotate_left
     ·simp only [Act.put, List.setIfInBounds_toArray, List.set_cons_zero, List.set_cons_succ, i64_w, i32_w]
      rfl
     refine take_ (i := 1) (N := some 28) (v := ?_) (a' := ?_) #[true, true, false, false, false, false] rfl rfl (by kernel_rfl) (fun _ _ _ h => h) (Or.inl ⟨by rfl, ?_⟩) hHeld ?_ ?_
     rotate_left
     ·rintro w' ⟨s0, s1, s2, s3, s4, s5, s6, s7, s8, s9, s10, s11⟩
      go_simp
      with_reducible rfl
     rotate_left
     ·simp only [Act.put, List.setIfInBounds_toArray, List.set_cons_zero, List.set_cons_succ, i64_w, i32_w]
      rfl
     refine take_ (i := 2) (N := some 29) (v := ?_) (a' := ?_) #[true, true, true, false, false, false] rfl rfl (by kernel_rfl) (fun _ _ _ h => h) (Or.inl ⟨by rfl, ?_⟩) hHeld ?_ ?_
     rotate_left
     ·rintro w' ⟨s0, s1, s2, s3, s4, s5, s6, s7, s8, s9, s10, s11⟩
      go_simp
      with_reducible rfl
     rotate_left
     ·simp only [Act.put, List.setIfInBounds_toArray, List.set_cons_zero, List.set_cons_succ, i64_w, i32_w]
      rfl
     refine one_ (i := 3) (N := some 30) #[true, true, true, true, false, false] rfl rfl (by kernel_rfl) (by decide) (fun K hK => ?_)
     refine goes_ Try.func46 (by kernel_rfl) rfl #[.agg #[.int .i64 t988, .int .i64 t989, .int .i64 t990, .int .i64 t991], .agg #[.int .i64 t992, .int .i64 t993, .int .i64 t994, .int .i64 t995]] (by rfl) rfl rfl (by (try simp only [List.map_toArray, List.map_cons, List.map_nil]); first | done | rfl | (simp only [List.length_drop, List.length_take]; rfl)) ?_
     with_reducible refine (spec_RangeJoin.calls kj4 t988 t989 t990 t991 t992 t993 t994 t995 t1008 t1009 t1010 t1011 _ A28.out).mono ?_
     rintro e w30 ⟨rfl, hb⟩
     refine ⟨_, rfl, ?_⟩
     have n0_ := zb BK996 hb rfl
     have n1_ := zb BK997 hb rfl
     have n2_ := zb BK1002 hb rfl
     have n3_ := Aside0.mk (below_step (by repeat first | (with_reducible first | exact HB.out | apply vA | apply vN | apply vD | refine vS ?_ GE996.out | refine vS ?_ GE997.out | refine vS ?_ GE1002.out) | exact HB.out) hb)
     clear BK996
     clear BK997
     clear BK1002
     clear HB
     have BK996 := n0_
     have BK997 := n1_
     have BK1002 := n2_
     have HB := n3_
     clear n0_ n1_ n2_ n3_
     (try clear hb)
     (try clear hb2)
     (try clear hk)
     (try clear hi)
     refine hK.out _ _ ⟨(blk_cell BK1002.out 0).trans rfl, (blk_cell BK1002.out 1).trans rfl, (blk_cell BK1002.out 2).trans rfl, (blk_cell BK1002.out 3).trans rfl, (blk_cell BK996.out 0).trans rfl, (blk_cell BK996.out 1).trans rfl, (blk_cell BK996.out 2).trans rfl, (blk_cell BK996.out 3).trans rfl, (blk_cell BK997.out 0).trans rfl, (blk_cell BK997.out 1).trans rfl, (blk_cell BK997.out 2).trans rfl, (blk_cell BK997.out 3).trans rfl⟩ (fun hHeld => ?_)
     clear hK K
     refine norm_ (a' := ?_) ?_ ?_
     rotate_left
     ·show Act.put _ (some 30) _ = _
      simp only [Act.put, List.setIfInBounds_toArray, List.set_cons_zero, List.set_cons_succ, i64_w, i32_w]
      rfl
     refine pure_ (i := 4) (N := some 31) (v := ?_) (a' := ?_) #[true, true, true, true, true, false] rfl rfl (by kernel_rfl) (fun _ _ _ h => h) (Or.inl ⟨by rfl, ?_⟩) ?_ ?_
     rotate_left
     ·intro w'
      go_simp
      with_reducible rfl
     rotate_left
     ·simp only [Act.put, List.setIfInBounds_toArray, List.set_cons_zero, List.set_cons_succ, i64_w, i32_w]
      rfl
     refine pure_ (i := 5) (N := some 2) (v := ?_) (a' := ?_) #[true, true, true, true, true, true] rfl rfl (by kernel_rfl) (fun _ _ _ h => h) (Or.inl ⟨by rfl, ?_⟩) ?_ ?_
     rotate_left
     ·intro w'
      go_simp
      with_reducible rfl
     rotate_left
     ·simp only [Act.put, List.setIfInBounds_toArray, List.set_cons_zero, List.set_cons_succ, i64_w, i32_w]
      rfl
     refine done_ (by kernel_rfl) ?_
     try go_wp2
     go_ret
     exact ⟨by first | rfl | (simp [errW_none, errW_some] <;> rfl) | (simp [*, errW_none, errW_some] <;> rfl), by repeat first | (with_reducible first | exact HB.out | apply vA | apply vN | apply vD | refine vS ?_ GE996.out | refine vS ?_ GE997.out | refine vS ?_ GE1002.out) | exact HB.out⟩
    ·replace c27 := Bool.eq_false_iff.mpr c27
     subst c27
     rw [if_neg (show ¬ (false = true) by decide)] at H
     replace H := Option.bind_eq_some_iff.mp H
     obtain ⟨⟨t1012, t1013, t1014, t1015⟩, A310, H⟩ := H
     try dsimp only at H
     have A31 := Aside0.mk A310
     clear A310
     replace H := Option.bind_eq_some_iff.mp H
     obtain ⟨t1016, A320, H⟩ := H
     try dsimp only at H
     have A32 := Aside0.mk A320
     clear A320
     by_cases c33 : t1016 = true
     ·subst c33
      rw [if_pos rfl] at H
      replace H := Option.bind_eq_some_iff.mp H
      obtain ⟨⟨t1017, t1018, t1019, t1020⟩, A340, H⟩ := H
      try dsimp only at H
      have A34 := Aside0.mk A340
      clear A340
      replace H := Option.bind_eq_some_iff.mp H
      obtain ⟨t1021, A350, H⟩ := H
      try dsimp only at H
      have A35 := Aside0.mk A350
      clear A350
      obtain rfl := Option.some.inj H
      try go_wp2
      have n0_ := Aside0.mk (blk_drew BK996.out)
      have n1_ := Aside0.mk (blk_drew BK997.out)
      have n2_ := Aside0.mk (blk_drew BK1002.out)
      have n3_ := Aside0.mk (below_drew1 HB.out)
      clear BK996
      clear BK997
      clear BK1002
      clear HB
      have BK996 := n0_
      have BK997 := n1_
      have BK1002 := n2_
      have HB := n3_
      clear n0_ n1_ n2_ n3_
      refine start_ (n := 11) (S := fun w' => w'.cell? ⟨gb996, 0, none⟩ = some (.int .i64 t988) ∧ w'.cell? ⟨gb996, 1, none⟩ = some (.int .i64 t989) ∧ w'.cell? ⟨gb996, 2, none⟩ = some (.int .i64 t990) ∧ w'.cell? ⟨gb996, 3, none⟩ = some (.int .i64 t991) ∧ w'.cell? ⟨gb1002, 0, none⟩ = some (.int .i64 t998) ∧ w'.cell? ⟨gb1002, 1, none⟩ = some (.int .i64 t999) ∧ w'.cell? ⟨gb1002, 2, none⟩ = some (.int .i64 t1000) ∧ w'.cell? ⟨gb1002, 3, none⟩ = some (.int .i64 t1001) ∧ w'.cell? ⟨gb997, 0, none⟩ = some (.int .i64 t992) ∧ w'.cell? ⟨gb997, 1, none⟩ = some (.int .i64 t993) ∧ w'.cell? ⟨gb997, 2, none⟩ = some (.int .i64 t994) ∧ w'.cell? ⟨gb997, 3, none⟩ = some (.int .i64 t995)) (ds := []) #[false, false, false, false, false, false, false, false, false, false, false] (by kernel_rfl) rfl rfl ⟨(blk_cell BK996.out 0).trans rfl, (blk_cell BK996.out 1).trans rfl, (blk_cell BK996.out 2).trans rfl, (blk_cell BK996.out 3).trans rfl, (blk_cell BK1002.out 0).trans rfl, (blk_cell BK1002.out 1).trans rfl, (blk_cell BK1002.out 2).trans rfl, (blk_cell BK1002.out 3).trans rfl, (blk_cell BK997.out 0).trans rfl, (blk_cell BK997.out 1).trans rfl, (blk_cell BK997.out 2).trans rfl, (blk_cell BK997.out 3).trans rfl⟩ (fun hHeld => ?_); refine with_tabW laws_FnJoinIn.tab7 laws_FnJoinIn.bits7 (fun HT_ HW_ => ?_)
      generalize wc.drew = w36 at BK996 BK997 BK1002 HB hHeld ⊢
      refine take_ (i := 0) (N := some 32) (v := ?_) (a' := ?_) #[true, false, false, false, false, false, false, false, false, false, false] rfl rfl (take_ofW HT_.out HW_.out (by kernel_rfl)) (fun _ _ _ h => h) (Or.inl ⟨by rfl, ?_⟩) hHeld ?_ ?_
      rotate_left
      ·rintro w' ⟨s0, s1, s2, s3, s4, s5, s6, s7, s8, s9, s10, s11⟩
       go_simp
       with_reducible rfl
      rotate_left
      ·simp only [Act.put, List.setIfInBounds_toArray, List.set_cons_zero, List.set_cons_succ, i64_w, i32_w]
       rfl
      refine take_ (i := 2) (N := some 34) (v := ?_) (a' := ?_) #[true, false, true, false, false, false, false, false, false, false, false] rfl rfl (take_ofW HT_.out HW_.out (by kernel_rfl)) (fun _ _ _ h => h) (Or.inl ⟨by rfl, ?_⟩) hHeld ?_ ?_
      rotate_left
      ·rintro w' ⟨s0, s1, s2, s3, s4, s5, s6, s7, s8, s9, s10, s11⟩
       go_simp
       with_reducible rfl
      rotate_left
      ·simp only [Act.put, List.setIfInBounds_toArray, List.set_cons_zero, List.set_cons_succ, i64_w, i32_w]
       rfl
      refine one_ (i := 1) (N := some 33) #[true, true, true, false, false, false, false, false, false, false, false] rfl rfl (one_of HT_.out (by kernel_rfl)) (by decide) (fun K hK => ?_)
      refine goes_ Try.func31 (by kernel_rfl) rfl #[.agg #[.int .i64 t988, .int .i64 t989, .int .i64 t990, .int .i64 t991]] (by rfl) rfl rfl (by (try simp only [List.map_toArray, List.map_cons, List.map_nil]); first | done | rfl | (simp only [List.length_drop, List.length_take]; rfl)) ?_
      with_reducible refine (impl_RangeTidy.calls kj4 t988 t989 t990 t991 t1012 t1013 t1014 t1015 _ A31.out).mono ?_
      rintro e w37 ⟨rfl, hb⟩
      refine ⟨_, rfl, ?_⟩
      have n0_ := zb BK996 hb rfl
      have n1_ := zb BK997 hb rfl
      have n2_ := zb BK1002 hb rfl
      have n3_ := Aside0.mk (below_step (by repeat first | (with_reducible first | exact HB.out | apply vA | apply vN | apply vD | refine vS ?_ GE996.out | refine vS ?_ GE997.out | refine vS ?_ GE1002.out) | exact HB.out) hb)
      clear BK996
      clear BK997
      clear BK1002
      clear HB
      have BK996 := n0_
      have BK997 := n1_
      have BK1002 := n2_
      have HB := n3_
      clear n0_ n1_ n2_ n3_
      (try clear hb)
      (try clear hb2)
      (try clear hk)
      (try clear hi)
      refine hK.out _ _ ⟨(blk_cell BK996.out 0).trans rfl, (blk_cell BK996.out 1).trans rfl, (blk_cell BK996.out 2).trans rfl, (blk_cell BK996.out 3).trans rfl, (blk_cell BK1002.out 0).trans rfl, (blk_cell BK1002.out 1).trans rfl, (blk_cell BK1002.out 2).trans rfl, (blk_cell BK1002.out 3).trans rfl, (blk_cell BK997.out 0).trans rfl, (blk_cell BK997.out 1).trans rfl, (blk_cell BK997.out 2).trans rfl, (blk_cell BK997.out 3).trans rfl⟩ (fun hHeld => ?_)
      clear hK K
      refine norm_ (a' := ?_) ?_ ?_
      rotate_left
      ·show Act.put _ (some 33) _ = _
       simp only [Act.put, List.setIfInBounds_toArray, List.set_cons_zero, List.set_cons_succ, i64_w, i32_w]
       rfl
      refine one_ (i := 3) (N := some 35) #[true, true, true, true, false, false, false, false, false, false, false] rfl rfl (one_of HT_.out (by kernel_rfl)) (by decide) (fun K hK => ?_)
      refine goes_ Try.func40 (by kernel_rfl) rfl #[.agg #[.int .i64 t1012, .int .i64 t1013, .int .i64 t1014, .int .i64 t1015], .agg #[.int .i64 t998, .int .i64 t999, .int .i64 t1000, .int .i64 t1001]] (by rfl) rfl rfl (by (try simp only [List.map_toArray, List.map_cons, List.map_nil]); first | done | rfl | (simp only [List.length_drop, List.length_take]; rfl)) ?_
      with_reducible refine (impl_RangeIn.calls kj4 t1012 t1013 t1014 t1015 t998 t999 t1000 t1001 true _ A32.out).mono ?_
      rintro e w38 ⟨rfl, hb⟩
      refine ⟨_, rfl, ?_⟩
      have n0_ := zb BK996 hb rfl
      have n1_ := zb BK997 hb rfl
      have n2_ := zb BK1002 hb rfl
      have n3_ := Aside0.mk (below_step (by repeat first | (with_reducible first | exact HB.out | apply vA | apply vN | apply vD | refine vS ?_ GE996.out | refine vS ?_ GE997.out | refine vS ?_ GE1002.out) | exact HB.out) hb)
      clear BK996
      clear BK997
      clear BK1002
      clear HB
      have BK996 := n0_
      have BK997 := n1_
      have BK1002 := n2_
      have HB := n3_
      clear n0_ n1_ n2_ n3_
      (try clear hb)
      (try clear hb2)
      (try clear hk)
      (try clear hi)
      refine hK.out _ _ ⟨(blk_cell BK996.out 0).trans rfl, (blk_cell BK996.out 1).trans rfl, (blk_cell BK996.out 2).trans rfl, (blk_cell BK996.out 3).trans rfl, (blk_cell BK1002.out 0).trans rfl, (blk_cell BK1002.out 1).trans rfl, (blk_cell BK1002.out 2).trans rfl, (blk_cell BK1002.out 3).trans rfl, (blk_cell BK997.out 0).trans rfl, (blk_cell BK997.out 1).trans rfl, (blk_cell BK997.out 2).trans rfl, (blk_cell BK997.out 3).trans rfl⟩ (fun hHeld => ?_)
      clear hK K
      refine norm_ (a' := ?_) ?_ ?_
      rotate_left
      ·show Act.put _ (some 35) _ = _
       simp only [Act.put, List.setIfInBounds_toArray, List.set_cons_zero, List.set_cons_succ, i64_w, i32_w]
       rfl
      refine pure_ (i := 4) (N := some 36) (v := ?_) (a' := ?_) #[true, true, true, true, true, false, false, false, false, false, false] rfl rfl (any_of HT_.out (by kernel_rfl)) (fun _ _ _ h => h) (Or.inl ⟨by rfl, ?_⟩) ?_ ?_
      rotate_left
      ·intro w'
       go_simp
       with_reducible rfl
      rotate_left
      ·simp only [Act.put, List.setIfInBounds_toArray, List.set_cons_zero, List.set_cons_succ, i64_w, i32_w]
       rfl
      refine take_ (i := 5) (N := some 37) (v := ?_) (a' := ?_) #[true, true, true, true, true, true, false, false, false, false, false] rfl rfl (take_ofW HT_.out HW_.out (by kernel_rfl)) (fun _ _ _ h => h) (Or.inl ⟨by rfl, ?_⟩) hHeld ?_ ?_
      rotate_left
      ·rintro w' ⟨s0, s1, s2, s3, s4, s5, s6, s7, s8, s9, s10, s11⟩
       go_simp
       with_reducible rfl
      rotate_left
      ·simp only [Act.put, List.setIfInBounds_toArray, List.set_cons_zero, List.set_cons_succ, i64_w, i32_w]
       rfl
      refine take_ (i := 7) (N := some 39) (v := ?_) (a' := ?_) #[true, true, true, true, true, true, false, true, false, false, false] rfl rfl (take_ofW HT_.out HW_.out (by kernel_rfl)) (fun _ _ _ h => h) (Or.inl ⟨by rfl, ?_⟩) hHeld ?_ ?_
      rotate_left
      ·rintro w' ⟨s0, s1, s2, s3, s4, s5, s6, s7, s8, s9, s10, s11⟩
       go_simp
       with_reducible rfl
      rotate_left
      ·simp only [Act.put, List.setIfInBounds_toArray, List.set_cons_zero, List.set_cons_succ, i64_w, i32_w]
       rfl
      refine one_ (i := 6) (N := some 38) #[true, true, true, true, true, true, true, true, false, false, false] rfl rfl (one_of HT_.out (by kernel_rfl)) (by decide) (fun K hK => ?_)
      refine goes_ Try.func31 (by kernel_rfl) rfl #[.agg #[.int .i64 t992, .int .i64 t993, .int .i64 t994, .int .i64 t995]] (by rfl) rfl rfl (by (try simp only [List.map_toArray, List.map_cons, List.map_nil]); first | done | rfl | (simp only [List.length_drop, List.length_take]; rfl)) ?_
      with_reducible refine (impl_RangeTidy.calls kj4 t992 t993 t994 t995 t1017 t1018 t1019 t1020 _ A34.out).mono ?_
      rintro e w39 ⟨rfl, hb⟩
      refine ⟨_, rfl, ?_⟩
      have n0_ := zb BK996 hb rfl
      have n1_ := zb BK997 hb rfl
      have n2_ := zb BK1002 hb rfl
      have n3_ := Aside0.mk (below_step (by repeat first | (with_reducible first | exact HB.out | apply vA | apply vN | apply vD | refine vS ?_ GE996.out | refine vS ?_ GE997.out | refine vS ?_ GE1002.out) | exact HB.out) hb)
      clear BK996
      clear BK997
      clear BK1002
      clear HB
      have BK996 := n0_
      have BK997 := n1_
      have BK1002 := n2_
      have HB := n3_
      clear n0_ n1_ n2_ n3_
      (try clear hb)
      (try clear hb2)
      (try clear hk)
      (try clear hi)
      refine hK.out _ _ ⟨(blk_cell BK996.out 0).trans rfl, (blk_cell BK996.out 1).trans rfl, (blk_cell BK996.out 2).trans rfl, (blk_cell BK996.out 3).trans rfl, (blk_cell BK1002.out 0).trans rfl, (blk_cell BK1002.out 1).trans rfl, (blk_cell BK1002.out 2).trans rfl, (blk_cell BK1002.out 3).trans rfl, (blk_cell BK997.out 0).trans rfl, (blk_cell BK997.out 1).trans rfl, (blk_cell BK997.out 2).trans rfl, (blk_cell BK997.out 3).trans rfl⟩ (fun hHeld => ?_)
      clear hK K
      refine norm_ (a' := ?_) ?_ ?_
      rotate_left
      ·show Act.put _ (some 38) _ = _
       simp only [Act.put, List.setIfInBounds_toArray, List.set_cons_zero, List.set_cons_succ, i64_w, i32_w]
       rfl
      refine one_ (i := 8) (N := some 40) #[true, true, true, true, true, true, true, true, true, false, false] rfl rfl (one_of HT_.out (by kernel_rfl)) (by decide) (fun K hK => ?_)
      refine goes_ Try.func40 (by kernel_rfl) rfl #[.agg #[.int .i64 t1017, .int .i64 t1018, .int .i64 t1019, .int .i64 t1020], .agg #[.int .i64 t998, .int .i64 t999, .int .i64 t1000, .int .i64 t1001]] (by rfl) rfl rfl (by (try simp only [List.map_toArray, List.map_cons, List.map_nil]); first | done | rfl | (simp only [List.length_drop, List.length_take]; rfl)) ?_
      with_reducible refine (impl_RangeIn.calls kj4 t1017 t1018 t1019 t1020 t998 t999 t1000 t1001 t1021 _ A35.out).mono ?_
      rintro e w40 ⟨rfl, hb⟩
      refine ⟨_, rfl, ?_⟩
      have n0_ := zb BK996 hb rfl
      have n1_ := zb BK997 hb rfl
      have n2_ := zb BK1002 hb rfl
      have n3_ := Aside0.mk (below_step (by repeat first | (with_reducible first | exact HB.out | apply vA | apply vN | apply vD | refine vS ?_ GE996.out | refine vS ?_ GE997.out | refine vS ?_ GE1002.out) | exact HB.out) hb)
      clear BK996
      clear BK997
      clear BK1002
      clear HB
      have BK996 := n0_
      have BK997 := n1_
      have BK1002 := n2_
      have HB := n3_
      clear n0_ n1_ n2_ n3_
      (try clear hb)
      (try clear hb2)
      (try clear hk)
      (try clear hi)
      refine hK.out _ _ ⟨(blk_cell BK996.out 0).trans rfl, (blk_cell BK996.out 1).trans rfl, (blk_cell BK996.out 2).trans rfl, (blk_cell BK996.out 3).trans rfl, (blk_cell BK1002.out 0).trans rfl, (blk_cell BK1002.out 1).trans rfl, (blk_cell BK1002.out 2).trans rfl, (blk_cell BK1002.out 3).trans rfl, (blk_cell BK997.out 0).trans rfl, (blk_cell BK997.out 1).trans rfl, (blk_cell BK997.out 2).trans rfl, (blk_cell BK997.out 3).trans rfl⟩ (fun hHeld => ?_)
      clear hK K
      refine norm_ (a' := ?_) ?_ ?_
      rotate_left
      ·show Act.put _ (some 40) _ = _
       simp only [Act.put, List.setIfInBounds_toArray, List.set_cons_zero, List.set_cons_succ, i64_w, i32_w]
       rfl
      refine pure_ (i := 9) (N := some 41) (v := ?_) (a' := ?_) #[true, true, true, true, true, true, true, true, true, true, false] rfl rfl (any_of HT_.out (by kernel_rfl)) (fun _ _ _ h => h) (Or.inl ⟨by rfl, ?_⟩) ?_ ?_
      rotate_left
      ·intro w'
       go_simp
       with_reducible rfl
      rotate_left
      ·simp only [Act.put, List.setIfInBounds_toArray, List.set_cons_zero, List.set_cons_succ, i64_w, i32_w]
       rfl
      refine pure_ (i := 10) (N := some 2) (v := ?_) (a' := ?_) #[true, true, true, true, true, true, true, true, true, true, true] rfl rfl (any_of HT_.out (by kernel_rfl)) (fun _ _ _ h => h) (Or.inl ⟨by rfl, ?_⟩) ?_ ?_
      rotate_left
      ·intro w'
       go_simp
       with_reducible rfl
      rotate_left
      ·simp only [Act.put, List.setIfInBounds_toArray, List.set_cons_zero, List.set_cons_succ, i64_w, i32_w]
       rfl
      refine done_ (done_of HT_.out (by kernel_rfl)) ?_
      try go_wp2
      go_ret
      exact ⟨by first | rfl | (simp [errW_none, errW_some] <;> rfl) | (simp [*, errW_none, errW_some] <;> rfl), by repeat first | (with_reducible first | exact HB.out | apply vA | apply vN | apply vD | refine vS ?_ GE996.out | refine vS ?_ GE997.out | refine vS ?_ GE1002.out) | exact HB.out⟩
     ·replace c33 := Bool.eq_false_iff.mpr c33
      subst c33
      rw [if_neg (show ¬ (false = true) by decide)] at H
      exact absurd H (by simp)

/-- THE ONE PURE STATEMENT of laws_FnJoinIn: yours. -/
def laws_FnJoinIn.Pure : Prop := ∀ (l0 : List Int), l0.length ≤ maxLen → l0.length * 1 ≤ 140737488351232 → (∀ x ∈ l0, (Lit.int .u8 x).wf = true) → ∃ k, laws_FnJoinIn.f k l0 = some true
theorem laws_FnJoinIn.walk (P : laws_FnJoinIn.Pure) (a0 : Option Addr) (len0 cap0 : Nat) (z0 : List Int) (w : World) (w0 : (a0 = none ∧ len0 = 0 ∧ cap0 = 0 ∧ z0 = []) ∨ ∃ x, a0 = some x ∧ len0 ≤ cap0 ∧ cap0 ≤ maxLen ∧ z0.length = cap0 ∧ (∀ i, i < z0.length → w.cell? (x.add i) = some (.int .u8 (z0.getD i 0))) ∧ ∀ n ∈ z0, (Lit.int .u8 n).wf = true) (y0 : len0 * 1 ≤ 140737488351232) :
  Calls Try.prog 13 #[.slice a0 len0 cap0] w fun e w' => e = .returned (.bool true) ∧ Below w.heap.size w w' := by
 obtain ⟨l0, rfl, hr0, hm0, hw0, hc0⟩ := ReadsInt.ofRowC w0
 obtain ⟨k, h⟩ := P l0 hm0 y0 hw0
 refine (laws_FnJoinIn.calls k _ _ l0 true w (Kd.C_of_reads (d := (0 : Int)) (h1 := fun _ => rfl) hr0) hc0 h).mono ?_
 rintro e w' ⟨rfl, hd⟩
 exact ⟨rfl, hd⟩

end Go.Proofs.Ytabencccbmjnbaa.Q
