/- The machine's side of this seat's laws: Go functions as Lean functions, and their contracts. By a program of this work over the kit's print. -/
import Derived.Test.YtdhijcfohbkpoaaQ0
import Derived.Test.YtdhijcfohbkpoaaQ1
import Derived.Test.YtdhijcfohbkpoaaQ6
import Derived.Test.YtdhijcfohbkpoaaQ12
import Derived.Test.YtdhijcfohbkpoaaQ20
import Derived.Test.YtdhijcfohbkpoaaQ21
namespace Go.Proofs.Ytdhijcfohbkpoaa.Q
open Go.RowKit Go.Proofs.YtdhijcfohbkpoaaW.PrintWords Go.Proofs.YtdhijcfohbkpoaaW.PrintLast Go.Proofs.YtdhijcfohbkpoaaW.PrintMore
attribute [local go_sem] max2_int min2_int max_two min_two max_three min_three max_four min_four Go.Proofs.YtdhijcfohbkpoaaN.not_i64 Go.Proofs.YtdhijcfohbkpoaaN.isSome_setCell   -- for this text's walks alone
set_option linter.unusedVariables false
set_option linter.unusedSimpArgs false

attribute [local go_sem high] eqA24
/-! ### laws_FnOf: function 3 -/
mutual
def laws_FnOf.j0 : Nat → List Int → List Int → Bool → Option (Bool)
 | 0, _, _, _ => none
 | k + 1, x0, x1, x18 => if x18 = true then (some true) else ((spec_DrawRangeOf.f k x0).bind fun bt557 => ((impl_RangeOf.f k bt557.1 bt557.2.1 bt557.2.2.1 bt557.2.2.2.1 bt557.2.2.2.2.1 bt557.2.2.2.2.2.1 bt557.2.2.2.2.2.2.1 bt557.2.2.2.2.2.2.2.1 bt557.2.2.2.2.2.2.2.2).bind fun bt568 => ((spec_RangeOf.f k bt557.1 bt557.2.1 bt557.2.2.1 bt557.2.2.2.1 bt557.2.2.2.2.1 bt557.2.2.2.2.2.1 bt557.2.2.2.2.2.2.1 bt557.2.2.2.2.2.2.2.1 bt557.2.2.2.2.2.2.2.2).bind fun bt573 => (if (!(bt568.1 == bt573.1) || (!(bt568.2.1 == bt573.2.1) || (!(bt568.2.2.1 == bt573.2.2.1) || (!(bt568.2.2.2 == bt573.2.2.2))))) = true then (laws_FnOf.j1 k x1 bt557.1 true bt557.2.1 bt557.2.2.1 bt557.2.2.2.1 bt557.2.2.2.2.1 bt557.2.2.2.2.2.1 bt557.2.2.2.2.2.2.1 bt557.2.2.2.2.2.2.2.1 bt557.2.2.2.2.2.2.2.2 bt568.1 bt568.2.1 bt568.2.2.1 bt568.2.2.2) else ((impl_RangeOk.f bt568.1 bt568.2.1 bt568.2.2.1 bt568.2.2.2).bind fun t577 => (laws_FnOf.j1 k x1 bt557.1 (!t577) bt557.2.1 bt557.2.2.1 bt557.2.2.2.1 bt557.2.2.2.2.1 bt557.2.2.2.2.2.1 bt557.2.2.2.2.2.2.1 bt557.2.2.2.2.2.2.2.1 bt557.2.2.2.2.2.2.2.2 bt568.1 bt568.2.1 bt568.2.2.1 bt568.2.2.2))))))
def laws_FnOf.j1 : Nat → List Int → Int → Bool → Int → Int → Int → Int → Int → Int → Int → Int → Int → Int → Int → Int → Option (Bool)
 | 0, _, _, _, _, _, _, _, _, _, _, _, _, _, _, _ => none
 | k + 1, x1, x5, x39, x567000, x567001, x567002, x567003, x568000, x568001, x568002, x568003, x573000, x573001, x573002, x573003 => if x39 = true then ((spec_RangeOf.f k x5 x567000 x567001 x567002 x567003 x568000 x568001 x568002 x568003).bind fun bt578 => (some (x573000 == bt578.1 && (x573001 == bt578.2.1 && (x573002 == bt578.2.2.1 && (x573003 == bt578.2.2.2)))))) else ((laws_sgSome.f k x567000 x567001 x567002 x567003 (x1.length : Int)).bind fun t582 => ((laws_sgSome.f k x568000 x568001 x568002 x568003 (wrap64 ((x1.length : Int) / 7))).bind fun t583 => ((impl_RangeDo.f k x5 t582 t583).bind fun t584 => ((impl_RangeHas.f x573000 x573001 x573002 x573003 t584).bind fun t585 => (if t585 = true then ((impl_RangeLeast.f k x567000 x567001 x567002 x567003).bind fun t586 => ((impl_RangeLeast.f k x568000 x568001 x568002 x568003).bind fun t587 => ((impl_RangeDo.f k x5 t586 t587).bind fun t588 => ((impl_RangeHas.f x573000 x573001 x573002 x573003 t588).bind fun t589 => (some t589))))) else (none))))))
end
def laws_FnOf.f (k : Nat) (l0 : List Int) (l1 : List Int) : Option (Bool) := if (l0.length : Int) > 1048576 then (laws_FnOf.j0 k l0 l1 true) else (laws_FnOf.j0 k l0 l1 (decide ((l1.length : Int) > 1048576)))


def laws_FnOf.T5 : Bool × List (List Nat × List Nat) := (true, [([], []), ([], []), ([], []), ([], []), ([1, 2, 3], [1, 2, 3]), ([0, 4], [0, 4]), ([5, 4], [5]), ([6], [6]), ([7, 6, 6], [6, 7]), ([8, 6], [6, 8]), ([6, 9], [6, 9])])
def laws_FnOf.B5 : List Nat := [0, 0, 0, 0, 14, 31, 63, 127, 255, 511, 1023]
theorem laws_FnOf.tab5 : rtab .any (opsOf Try.f3 5) = laws_FnOf.T5 := by kernel_rfl
theorem laws_FnOf.bits5 : waitsOk laws_FnOf.T5.2 laws_FnOf.B5 = true := by kernel_rfl
def laws_FnOf.T9 : Bool × List (List Nat × List Nat) := (true, [([], []), ([], []), ([], []), ([], []), ([1, 2, 3], [1, 2, 3]), ([0, 4, 4], [0, 4]), ([5, 5], [5]), ([6], [6]), ([6], [6]), ([6], [6]), ([9, 6, 6], [6, 9]), ([6], [6]), ([11, 10, 6], [6, 11]), ([8, 10, 12, 12, 6], [6, 8, 10, 12]), ([7, 13, 13, 6], [6, 7, 13]), ([6, 14], [6, 14]), ([15, 14, 0, 1, 2, 3, 4, 5, 6, 7, 8, 9, 10, 11, 12, 13, 14, 15], [15])])
def laws_FnOf.B9 : List Nat := [0, 0, 0, 0, 14, 31, 63, 127, 127, 127, 639, 127, 3711, 8063, 16383, 32767, 65535]
theorem laws_FnOf.tab9 : rtab .any (opsOf Try.f3 9) = laws_FnOf.T9 := by kernel_rfl
theorem laws_FnOf.bits9 : waitsOk laws_FnOf.T9.2 laws_FnOf.B9 = true := by kernel_rfl
set_option maxHeartbeats 8000000 in
set_option maxRecDepth 100000 in
theorem laws_FnOf.calls (k : Nat) (A0 : Option Addr) (c0 : Nat) (l0 : List Int) (A1 : Option Addr) (c1 : Nat) (l1 : List Int) (r : Bool) (w : World) (hr0 : Kd.C (Kd.int .u8) w A0 l0.length l0) (hc0 : l0.length ≤ c0) (hr1 : Kd.C (Kd.int .u8) w A1 l1.length l1) (hc1 : l1.length ≤ c1) (h : laws_FnOf.f k l0 l1 = some r) :
  Calls Try.prog 3 #[.slice A0 l0.length c0, .slice A1 l1.length c1] w fun e w' => e = .returned (.bool r) ∧ Below w.heap.size w w' := by
 have hu24 := Try.underlying24
 have HR0 := Aside0.mk hr0
 have HC0 := Aside0.mk hc0
 clear hr0 hc0
 have HR1 := Aside0.mk hr1
 have HC1 := Aside0.mk hc1
 clear hr1 hc1
 have HB := Aside0.mk (Below.refl w.heap.size w)
 have H : (if (l0.length : Int) > 1048576 then (laws_FnOf.j0 k l0 l1 true) else (laws_FnOf.j0 k l0 l1 (decide ((l1.length : Int) > 1048576)))) = some r := h
 clear h
 have HC3 := Aside0.mk H
 clear H
 go_enter Try.func3, Try.ntmps3
 go_upto_region 1 with (fail)
 go_cut [18] (fun v18 wc => ∃ (kq : Nat) (x18_2 : Bool), v18 = .bool x18_2 ∧ Aside0 (laws_FnOf.j0 kq l0 l1 x18_2 = some r) ∧ Aside0 (kq ≤ k) ∧ Aside0 (Below w.heap.size w wc))
 case first =>
  have H := HC3.out
  clear HC3
  by_cases c4 : (l0.length : Int) > 1048576
  ·rw [if_pos c4] at H
   have c4b0 : decide (1048576 < (l0.length : Int)) = true := decide_eq_true c4
   have c4b1 : decide (1048576 < l0.length) = true := decide_eq_true (by omega)
   clear c4
   (first | rw [c4b0] | (simp only [i64_w, i32_w]; rw [c4b0]) | skip)
   have H' := Aside0.mk H
   clear H
   go_wp2
   go_meet
   case rel => exact ⟨_, (true), (by first | rfl | (simp; done) | (simp [*]; done)), H', ⟨by first | omega | exact Nat.le_refl _⟩, ⟨zB⟩⟩
  ·rw [if_neg c4] at H
   have c4b0 : decide (1048576 < (l0.length : Int)) = false := decide_eq_false c4
   have c4b1 : decide (1048576 < l0.length) = false := decide_eq_false (by omega)
   clear c4
   (first | rw [c4b0] | (simp only [i64_w, i32_w]; rw [c4b0]) | skip)
   have H' := Aside0.mk H
   clear H
   go_wp2
   go_meet
   case rel => exact ⟨_, (decide ((l1.length : Int) > 1048576)), (by first | rfl | (simp; done) | (simp [*]; done)), H', ⟨by first | omega | exact Nat.le_refl _⟩, ⟨zB⟩⟩
 case rest =>
  clear HC3
  try clear c1
  try clear p2
  try clear c3
  try clear c4
  try clear c4b0
  try clear c4b1
  obtain ⟨kq, x18_2, rfl, HA, HJ2, HB⟩ := hcut
  cases kq with
  | zero => exact absurd HA.out (by simp [laws_FnOf.j0])
  | succ kj2 =>
   have H := HA.out
   clear HA
   simp only [laws_FnOf.j0] at H
   by_cases c5 : x18_2 = true
   ·subst c5
    rw [if_pos rfl] at H
    obtain rfl := Option.some.inj H
    go_wp2
    go_ret
    exact ⟨zR, zB⟩
   ·replace c5 := Bool.eq_false_iff.mpr c5
    subst c5
    rw [if_neg (show ¬ (false = true) by decide)] at H
    replace H := Option.bind_eq_some_iff.mp H
    obtain ⟨⟨t557, t558, t559, t560, t561, t562, t563, t564, t565⟩, A60, H⟩ := H
    try dsimp only at H
    have A6 := Aside0.mk A60
    clear A60
    replace H := Option.bind_eq_some_iff.mp H
    obtain ⟨⟨t568, t569, t570, t571⟩, A70, H⟩ := H
    try dsimp only at H
    have A7 := Aside0.mk A70
    clear A70
    have HC8 := Aside0.mk H
    clear H
    go_upto_region 5 with (first | ((with_reducible refine gate_callee (f := 5) rfl ?_); refine gl 21 Try.func5 #[.slice A0 l0.length c0] ?_; (with_reducible refine (spec_DrawRangeOf.calls kj2 _ _ l0 t557 t558 t559 t560 t561 t562 t563 t564 t565 _ ?side1 ?side2 A6.out).mono ?_); (case side1 => repeat (first | exact (Kd.C_below HR0.out HB.out) | (with_reducible refine Kd.C_alloc ?_ _) | (with_reducible refine Kd.C_drewN ?_ _) | (with_reducible refine Kd.C_drew ?_))); (case side2 => exact HC0.out); rintro e w9 ⟨rfl, hb⟩; refine ⟨_, rfl, ?_⟩; replace HB := zS hb; try clear hb) | ((with_reducible refine gate_dst (N := 6) rfl ?_); (try (refine gate_guard (by rfl) ?_; dsimp only)); refine be 6 #[.int .i64 0, .int .i64 0, .int .i64 0, .int .i64 0] 24 ?_; intro gb566 hg w10 hbox hb; have BK566 := Aside0.mk hbox; have GW566 := zW hg; replace HB := zS hb; have GE566 := GW566; clear hb hbox hg) | ((with_reducible refine gate_dst (N := 7) rfl ?_); (try (refine gate_guard (by rfl) ?_; dsimp only)); refine be 7 #[.int .i64 0, .int .i64 0, .int .i64 0, .int .i64 0] 24 ?_; intro gb567 hg w11 hbox hb; have BK567 := Aside0.mk hbox; have GW567 := zW hg; replace HB := zS hb; have GE567 := GW567; have NB566_567 := zl BK566 hg rfl; have NB567_566 := zg BK566 hg rfl; replace BK566 := zb BK566 hb rfl; clear hb hbox hg; have hnb12 := NB566_567.out; have hnc12 := NB567_566.out; obtain ⟨hcz13_0, hcz13_1, hcz13_2, hcz13_3, hfz13_0, hfz13_1, hfz13_2, hfz13_3⟩ := zc4 BK566; obtain ⟨hcz14_0, hcz14_1, hcz14_2, hcz14_3, hfz14_0, hfz14_1, hfz14_2, hfz14_3⟩ := zc4 BK567) | ((with_reducible refine gate_callee (f := 6) rfl ?_); refine gl 28 Try.func6 #[.int .i64 t557, .agg #[.int .i64 t558, .int .i64 t559, .int .i64 t560, .int .i64 t561], .agg #[.int .i64 t562, .int .i64 t563, .int .i64 t564, .int .i64 t565]] ?_; (with_reducible refine (impl_RangeOf.calls kj2 t557 t558 t559 t560 t561 t562 t563 t564 t565 t568 t569 t570 t571 _ A7.out).mono ?_); rintro e w15 ⟨rfl, hb⟩; refine ⟨_, rfl, ?_⟩; replace BK566 := Aside0.mk (blk_below (g := gb566) (o := .cells #[.int .i64 t558, .int .i64 t559, .int .i64 t560, .int .i64 t561] 24 (0, 0)) (by refine fq ?_ NB566_567.out; refine fq ?_ NB566_567.out; refine fq ?_ NB566_567.out; refine fq ?_ NB566_567.out; refine bq ?_; refine blk_put (cs := #[.int .i64 t558, .int .i64 t559, .int .i64 t560, .int .i64 0]) ?_ 3 _ rfl; refine bq ?_; refine blk_put (cs := #[.int .i64 t558, .int .i64 t559, .int .i64 0, .int .i64 0]) ?_ 2 _ rfl; refine bq ?_; refine blk_put (cs := #[.int .i64 t558, .int .i64 0, .int .i64 0, .int .i64 0]) ?_ 1 _ rfl; refine bq ?_; refine blk_put (cs := #[.int .i64 0, .int .i64 0, .int .i64 0, .int .i64 0]) ?_ 0 _ rfl; exact bq BK566.out) hb); replace BK567 := Aside0.mk (blk_below (g := gb567) (o := .cells #[.int .i64 t562, .int .i64 t563, .int .i64 t564, .int .i64 t565] 24 (0, 0)) (by refine bq ?_; refine blk_put (cs := #[.int .i64 t562, .int .i64 t563, .int .i64 t564, .int .i64 0]) ?_ 3 _ rfl; refine bq ?_; refine blk_put (cs := #[.int .i64 t562, .int .i64 t563, .int .i64 0, .int .i64 0]) ?_ 2 _ rfl; refine bq ?_; refine blk_put (cs := #[.int .i64 t562, .int .i64 0, .int .i64 0, .int .i64 0]) ?_ 1 _ rfl; refine bq ?_; refine blk_put (cs := #[.int .i64 0, .int .i64 0, .int .i64 0, .int .i64 0]) ?_ 0 _ rfl; refine fq ?_ NB567_566.out; refine fq ?_ NB567_566.out; refine fq ?_ NB567_566.out; refine fq ?_ NB567_566.out; exact bq BK567.out) hb); replace HB := zS hb; try clear hb) | ((with_reducible refine gate_dst (N := 8) rfl ?_); (try (refine gate_guard (by rfl) ?_; dsimp only)); refine be 8 #[.int .i64 0, .int .i64 0, .int .i64 0, .int .i64 0] 24 ?_; intro gb572 hg w16 hbox hb; have BK572 := Aside0.mk hbox; have GW572 := zW hg; replace HB := zS hb; have GE572 := GW572; have NB566_572 := zl BK566 hg rfl; have NB572_566 := zg BK566 hg rfl; replace BK566 := zb BK566 hb rfl; have NB567_572 := zl BK567 hg rfl; have NB572_567 := zg BK567 hg rfl; replace BK567 := zb BK567 hb rfl; clear hb hbox hg; have hnb17 := NB572_566.out; have hnc17 := NB566_572.out; have hnb18 := NB572_567.out; have hnc18 := NB567_572.out; obtain ⟨hcz19_0, hcz19_1, hcz19_2, hcz19_3, hfz19_0, hfz19_1, hfz19_2, hfz19_3⟩ := zc4 BK572))
    (try simp only [Act.put, List.setIfInBounds_toArray, List.set_cons_zero, List.set_cons_succ])
    go_cut [39] (fun v39 wc => ∃ (kq : Nat) (x39_7 : Bool), v39 = .bool x39_7 ∧ Aside0 (laws_FnOf.j1 kq l1 t557 x39_7 t558 t559 t560 t561 t562 t563 t564 t565 t568 t569 t570 t571 = some r) ∧ Aside0 (kq ≤ kj2) ∧ Aside0 (wc.heap[gb566]? = some (.cells #[.int .i64 t558, .int .i64 t559, .int .i64 t560, .int .i64 t561] 24 (0, 0))) ∧ Aside0 (wc.heap[gb567]? = some (.cells #[.int .i64 t562, .int .i64 t563, .int .i64 t564, .int .i64 t565] 24 (0, 0))) ∧ Aside0 (wc.heap[gb572]? = some (.cells #[.int .i64 t568, .int .i64 t569, .int .i64 t570, .int .i64 t571] 24 (0, 0))) ∧ Aside0 (Below w.heap.size w wc))
    case first =>
     have H := HC8.out
     clear HC8
     replace H := Option.bind_eq_some_iff.mp H
     obtain ⟨⟨t573, t574, t575, t576⟩, A200, H⟩ := H
     try dsimp only at H
     have A20 := Aside0.mk A200
     clear A200
     by_cases c21 : (!(t568 == t573) || (!(t569 == t574) || (!(t570 == t575) || (!(t571 == t576))))) = true
     ·rw [if_pos c21] at H
      have c21b0 : (!(t568 == t573) || (!(t569 == t574) || (!(t570 == t575) || (!(t571 == t576))))) = true := c21
      clear c21
      (first | rw [c21b0] | (simp only [i64_w, i32_w]; rw [c21b0]) | skip)
      have H' := Aside0.mk H
      clear H
      try go_wp2
      have n0_ : Aside0 (((((w16.setCell ⟨gb572, 0, none⟩ (.int .i64 t568)).setCell ⟨gb572, 1, none⟩ (.int .i64 t569)).setCell ⟨gb572, 2, none⟩ (.int .i64 t570)).setCell ⟨gb572, 3, none⟩ (.int .i64 t571)).heap[gb566]? = some (.cells #[.int .i64 t558, .int .i64 t559, .int .i64 t560, .int .i64 t561] 24 (0, 0))) := ⟨by refine fq ?_ NB566_572.out; refine fq ?_ NB566_572.out; refine fq ?_ NB566_572.out; refine fq ?_ NB566_572.out; exact bq BK566.out⟩
      have n1_ : Aside0 (((((w16.setCell ⟨gb572, 0, none⟩ (.int .i64 t568)).setCell ⟨gb572, 1, none⟩ (.int .i64 t569)).setCell ⟨gb572, 2, none⟩ (.int .i64 t570)).setCell ⟨gb572, 3, none⟩ (.int .i64 t571)).heap[gb567]? = some (.cells #[.int .i64 t562, .int .i64 t563, .int .i64 t564, .int .i64 t565] 24 (0, 0))) := ⟨by refine fq ?_ NB567_572.out; refine fq ?_ NB567_572.out; refine fq ?_ NB567_572.out; refine fq ?_ NB567_572.out; exact bq BK567.out⟩
      have n2_ : Aside0 (((((w16.setCell ⟨gb572, 0, none⟩ (.int .i64 t568)).setCell ⟨gb572, 1, none⟩ (.int .i64 t569)).setCell ⟨gb572, 2, none⟩ (.int .i64 t570)).setCell ⟨gb572, 3, none⟩ (.int .i64 t571)).heap[gb572]? = some (.cells #[.int .i64 t568, .int .i64 t569, .int .i64 t570, .int .i64 t571] 24 (0, 0))) := ⟨by refine bq ?_; refine blk_put (cs := #[.int .i64 t568, .int .i64 t569, .int .i64 t570, .int .i64 0]) ?_ 3 _ rfl; refine bq ?_; refine blk_put (cs := #[.int .i64 t568, .int .i64 t569, .int .i64 0, .int .i64 0]) ?_ 2 _ rfl; refine bq ?_; refine blk_put (cs := #[.int .i64 t568, .int .i64 0, .int .i64 0, .int .i64 0]) ?_ 1 _ rfl; refine bq ?_; refine blk_put (cs := #[.int .i64 0, .int .i64 0, .int .i64 0, .int .i64 0]) ?_ 0 _ rfl; exact bq BK572.out⟩
      have n3_ : Aside0 (Below w.heap.size w ((((w16.setCell ⟨gb572, 0, none⟩ (.int .i64 t568)).setCell ⟨gb572, 1, none⟩ (.int .i64 t569)).setCell ⟨gb572, 2, none⟩ (.int .i64 t570)).setCell ⟨gb572, 3, none⟩ (.int .i64 t571))) := ⟨zB⟩
      (try clear BK566)
      (try clear BK567)
      (try clear BK572)
      (try clear HB)
      generalize ((((w16.setCell ⟨gb572, 0, none⟩ (.int .i64 t568)).setCell ⟨gb572, 1, none⟩ (.int .i64 t569)).setCell ⟨gb572, 2, none⟩ (.int .i64 t570)).setCell ⟨gb572, 3, none⟩ (.int .i64 t571)) = w22 at n0_ n1_ n2_ n3_ ⊢
      have BK566 := n0_
      have BK567 := n1_
      have BK572 := n2_
      have HB := n3_
      clear n0_ n1_ n2_ n3_
      replace BK566 := Aside0.mk (blk_drew BK566.out)
      replace BK567 := Aside0.mk (blk_drew BK567.out)
      replace BK572 := Aside0.mk (blk_drew BK572.out)
      replace HB := Aside0.mk (below_drew1 HB.out)
      refine start_ (n := 11) (S := fun w' => w'.cell? ⟨gb572, 0, none⟩ = some (.int .i64 t568) ∧ w'.cell? ⟨gb572, 1, none⟩ = some (.int .i64 t569) ∧ w'.cell? ⟨gb572, 2, none⟩ = some (.int .i64 t570) ∧ w'.cell? ⟨gb572, 3, none⟩ = some (.int .i64 t571) ∧ w'.cell? ⟨gb566, 0, none⟩ = some (.int .i64 t558) ∧ w'.cell? ⟨gb566, 1, none⟩ = some (.int .i64 t559) ∧ w'.cell? ⟨gb566, 2, none⟩ = some (.int .i64 t560) ∧ w'.cell? ⟨gb566, 3, none⟩ = some (.int .i64 t561) ∧ w'.cell? ⟨gb567, 0, none⟩ = some (.int .i64 t562) ∧ w'.cell? ⟨gb567, 1, none⟩ = some (.int .i64 t563) ∧ w'.cell? ⟨gb567, 2, none⟩ = some (.int .i64 t564) ∧ w'.cell? ⟨gb567, 3, none⟩ = some (.int .i64 t565)) (ds := []) #[false, false, false, false, false, false, false, false, false, false, false] (by kernel_rfl) rfl rfl ⟨(blk_cell BK572.out 0).trans rfl, (blk_cell BK572.out 1).trans rfl, (blk_cell BK572.out 2).trans rfl, (blk_cell BK572.out 3).trans rfl, (blk_cell BK566.out 0).trans rfl, (blk_cell BK566.out 1).trans rfl, (blk_cell BK566.out 2).trans rfl, (blk_cell BK566.out 3).trans rfl, (blk_cell BK567.out 0).trans rfl, (blk_cell BK567.out 1).trans rfl, (blk_cell BK567.out 2).trans rfl, (blk_cell BK567.out 3).trans rfl⟩ (fun hHeld => ?_); refine with_tabW laws_FnOf.tab5 laws_FnOf.bits5 (fun HT_ HW_ => ?_)
      generalize w22.drew = w23 at BK566 BK567 BK572 HB hHeld ⊢
      refine pz 1 30 ?_
      refine tz 0 29 ?_
      refine tz 2 31 ?_
      refine tz 3 32 ?_
      refine oz 4 33 fun K hK => ?_
      refine gz Try.func7 #[.int .i64 t557, .agg #[.int .i64 t558, .int .i64 t559, .int .i64 t560, .int .i64 t561], .agg #[.int .i64 t562, .int .i64 t563, .int .i64 t564, .int .i64 t565]] ?_
      with_reducible refine (spec_RangeOf.calls kj2 t557 t558 t559 t560 t561 t562 t563 t564 t565 t573 t574 t575 t576 _ A20.out).mono ?_
      rintro e w24 ⟨rfl, hb⟩
      refine ⟨_, rfl, ?_⟩
      replace BK566 := zb BK566 hb rfl
      replace BK567 := zb BK567 hb rfl
      replace BK572 := zb BK572 hb rfl
      replace HB := zS hb
      try clear hb
      refine hK.out _ _ ⟨(blk_cell BK572.out 0).trans rfl, (blk_cell BK572.out 1).trans rfl, (blk_cell BK572.out 2).trans rfl, (blk_cell BK572.out 3).trans rfl, (blk_cell BK566.out 0).trans rfl, (blk_cell BK566.out 1).trans rfl, (blk_cell BK566.out 2).trans rfl, (blk_cell BK566.out 3).trans rfl, (blk_cell BK567.out 0).trans rfl, (blk_cell BK567.out 1).trans rfl, (blk_cell BK567.out 2).trans rfl, (blk_cell BK567.out 3).trans rfl⟩ (fun hHeld => ?_)
      clear hK K
      refine nz ?_
      refine pz 5 34 ?_
      refine pz 6 35 ?_
      refine uz 7 36 ?_
      refine uz 8 37 ?_
      refine uz 9 38 ?_
      refine pz 10 39 ?_
      refine done_ (done_of HT_.out (by kernel_rfl)) ?_
      try go_wp2
      go_meet
      case rel => exact ⟨_, (true), (by first | rfl | (simp; done) | (simp [*]; done)), H', ⟨by have := HJ2.out; first | omega | exact Nat.le_refl _⟩, ⟨by exact bq BK566.out⟩, ⟨by exact bq BK567.out⟩, ⟨by exact bq BK572.out⟩, ⟨zB⟩⟩
     ·rw [if_neg c21] at H
      have c21b0 : (!(t568 == t573) || (!(t569 == t574) || (!(t570 == t575) || (!(t571 == t576))))) = false := by simpa using c21
      clear c21
      (first | rw [c21b0] | (simp only [i64_w, i32_w]; rw [c21b0]) | skip)
      replace H := Option.bind_eq_some_iff.mp H
      obtain ⟨t577, A250, H⟩ := H
      try dsimp only at H
      have A25 := Aside0.mk A250
      clear A250
      have H' := Aside0.mk H
      clear H
      try go_wp2
      have n0_ : Aside0 (((((w16.setCell ⟨gb572, 0, none⟩ (.int .i64 t568)).setCell ⟨gb572, 1, none⟩ (.int .i64 t569)).setCell ⟨gb572, 2, none⟩ (.int .i64 t570)).setCell ⟨gb572, 3, none⟩ (.int .i64 t571)).heap[gb566]? = some (.cells #[.int .i64 t558, .int .i64 t559, .int .i64 t560, .int .i64 t561] 24 (0, 0))) := ⟨by refine fq ?_ NB566_572.out; refine fq ?_ NB566_572.out; refine fq ?_ NB566_572.out; refine fq ?_ NB566_572.out; exact bq BK566.out⟩
      have n1_ : Aside0 (((((w16.setCell ⟨gb572, 0, none⟩ (.int .i64 t568)).setCell ⟨gb572, 1, none⟩ (.int .i64 t569)).setCell ⟨gb572, 2, none⟩ (.int .i64 t570)).setCell ⟨gb572, 3, none⟩ (.int .i64 t571)).heap[gb567]? = some (.cells #[.int .i64 t562, .int .i64 t563, .int .i64 t564, .int .i64 t565] 24 (0, 0))) := ⟨by refine fq ?_ NB567_572.out; refine fq ?_ NB567_572.out; refine fq ?_ NB567_572.out; refine fq ?_ NB567_572.out; exact bq BK567.out⟩
      have n2_ : Aside0 (((((w16.setCell ⟨gb572, 0, none⟩ (.int .i64 t568)).setCell ⟨gb572, 1, none⟩ (.int .i64 t569)).setCell ⟨gb572, 2, none⟩ (.int .i64 t570)).setCell ⟨gb572, 3, none⟩ (.int .i64 t571)).heap[gb572]? = some (.cells #[.int .i64 t568, .int .i64 t569, .int .i64 t570, .int .i64 t571] 24 (0, 0))) := ⟨by refine bq ?_; refine blk_put (cs := #[.int .i64 t568, .int .i64 t569, .int .i64 t570, .int .i64 0]) ?_ 3 _ rfl; refine bq ?_; refine blk_put (cs := #[.int .i64 t568, .int .i64 t569, .int .i64 0, .int .i64 0]) ?_ 2 _ rfl; refine bq ?_; refine blk_put (cs := #[.int .i64 t568, .int .i64 0, .int .i64 0, .int .i64 0]) ?_ 1 _ rfl; refine bq ?_; refine blk_put (cs := #[.int .i64 0, .int .i64 0, .int .i64 0, .int .i64 0]) ?_ 0 _ rfl; exact bq BK572.out⟩
      have n3_ : Aside0 (Below w.heap.size w ((((w16.setCell ⟨gb572, 0, none⟩ (.int .i64 t568)).setCell ⟨gb572, 1, none⟩ (.int .i64 t569)).setCell ⟨gb572, 2, none⟩ (.int .i64 t570)).setCell ⟨gb572, 3, none⟩ (.int .i64 t571))) := ⟨zB⟩
      (try clear BK566)
      (try clear BK567)
      (try clear BK572)
      (try clear HB)
      generalize ((((w16.setCell ⟨gb572, 0, none⟩ (.int .i64 t568)).setCell ⟨gb572, 1, none⟩ (.int .i64 t569)).setCell ⟨gb572, 2, none⟩ (.int .i64 t570)).setCell ⟨gb572, 3, none⟩ (.int .i64 t571)) = w26 at n0_ n1_ n2_ n3_ ⊢
      have BK566 := n0_
      have BK567 := n1_
      have BK572 := n2_
      have HB := n3_
      clear n0_ n1_ n2_ n3_
      replace BK566 := Aside0.mk (blk_drew BK566.out)
      replace BK567 := Aside0.mk (blk_drew BK567.out)
      replace BK572 := Aside0.mk (blk_drew BK572.out)
      replace HB := Aside0.mk (below_drew1 HB.out)
      refine start_ (n := 11) (S := fun w' => w'.cell? ⟨gb572, 0, none⟩ = some (.int .i64 t568) ∧ w'.cell? ⟨gb572, 1, none⟩ = some (.int .i64 t569) ∧ w'.cell? ⟨gb572, 2, none⟩ = some (.int .i64 t570) ∧ w'.cell? ⟨gb572, 3, none⟩ = some (.int .i64 t571) ∧ w'.cell? ⟨gb566, 0, none⟩ = some (.int .i64 t558) ∧ w'.cell? ⟨gb566, 1, none⟩ = some (.int .i64 t559) ∧ w'.cell? ⟨gb566, 2, none⟩ = some (.int .i64 t560) ∧ w'.cell? ⟨gb566, 3, none⟩ = some (.int .i64 t561) ∧ w'.cell? ⟨gb567, 0, none⟩ = some (.int .i64 t562) ∧ w'.cell? ⟨gb567, 1, none⟩ = some (.int .i64 t563) ∧ w'.cell? ⟨gb567, 2, none⟩ = some (.int .i64 t564) ∧ w'.cell? ⟨gb567, 3, none⟩ = some (.int .i64 t565)) (ds := []) #[false, false, false, false, false, false, false, false, false, false, false] (by kernel_rfl) rfl rfl ⟨(blk_cell BK572.out 0).trans rfl, (blk_cell BK572.out 1).trans rfl, (blk_cell BK572.out 2).trans rfl, (blk_cell BK572.out 3).trans rfl, (blk_cell BK566.out 0).trans rfl, (blk_cell BK566.out 1).trans rfl, (blk_cell BK566.out 2).trans rfl, (blk_cell BK566.out 3).trans rfl, (blk_cell BK567.out 0).trans rfl, (blk_cell BK567.out 1).trans rfl, (blk_cell BK567.out 2).trans rfl, (blk_cell BK567.out 3).trans rfl⟩ (fun hHeld => ?_); refine with_tabW laws_FnOf.tab5 laws_FnOf.bits5 (fun HT_ HW_ => ?_)
      generalize w26.drew = w27 at BK566 BK567 BK572 HB hHeld ⊢
      refine pz 1 30 ?_
      refine tz 0 29 ?_
      refine tz 2 31 ?_
      refine tz 3 32 ?_
      refine oz 4 33 fun K hK => ?_
      refine gz Try.func7 #[.int .i64 t557, .agg #[.int .i64 t558, .int .i64 t559, .int .i64 t560, .int .i64 t561], .agg #[.int .i64 t562, .int .i64 t563, .int .i64 t564, .int .i64 t565]] ?_
      with_reducible refine (spec_RangeOf.calls kj2 t557 t558 t559 t560 t561 t562 t563 t564 t565 t573 t574 t575 t576 _ A20.out).mono ?_
      rintro e w28 ⟨rfl, hb⟩
      refine ⟨_, rfl, ?_⟩
      replace BK566 := zb BK566 hb rfl
      replace BK567 := zb BK567 hb rfl
      replace BK572 := zb BK572 hb rfl
      replace HB := zS hb
      try clear hb
      refine hK.out _ _ ⟨(blk_cell BK572.out 0).trans rfl, (blk_cell BK572.out 1).trans rfl, (blk_cell BK572.out 2).trans rfl, (blk_cell BK572.out 3).trans rfl, (blk_cell BK566.out 0).trans rfl, (blk_cell BK566.out 1).trans rfl, (blk_cell BK566.out 2).trans rfl, (blk_cell BK566.out 3).trans rfl, (blk_cell BK567.out 0).trans rfl, (blk_cell BK567.out 1).trans rfl, (blk_cell BK567.out 2).trans rfl, (blk_cell BK567.out 3).trans rfl⟩ (fun hHeld => ?_)
      clear hK K
      refine nz ?_
      refine pz 5 34 ?_
      refine pz 6 35 ?_
      refine tz 7 36 ?_
      refine oz 8 37 fun K hK => ?_
      refine gz Try.func8 #[.agg #[.int .i64 t568, .int .i64 t569, .int .i64 t570, .int .i64 t571]] ?_
      with_reducible refine (impl_RangeOk.calls t568 t569 t570 t571 t577 _ A25.out).mono ?_
      rintro e w29 ⟨rfl, hb⟩
      refine ⟨_, rfl, ?_⟩
      replace BK566 := zb BK566 hb rfl
      replace BK567 := zb BK567 hb rfl
      replace BK572 := zb BK572 hb rfl
      replace HB := zS hb
      try clear hb
      refine hK.out _ _ ⟨(blk_cell BK572.out 0).trans rfl, (blk_cell BK572.out 1).trans rfl, (blk_cell BK572.out 2).trans rfl, (blk_cell BK572.out 3).trans rfl, (blk_cell BK566.out 0).trans rfl, (blk_cell BK566.out 1).trans rfl, (blk_cell BK566.out 2).trans rfl, (blk_cell BK566.out 3).trans rfl, (blk_cell BK567.out 0).trans rfl, (blk_cell BK567.out 1).trans rfl, (blk_cell BK567.out 2).trans rfl, (blk_cell BK567.out 3).trans rfl⟩ (fun hHeld => ?_)
      clear hK K
      refine nz ?_
      refine pz 9 38 ?_
      refine pz 10 39 ?_
      refine done_ (done_of HT_.out (by kernel_rfl)) ?_
      try go_wp2
      go_meet
      case rel => exact ⟨_, (!t577), (by first | rfl | (simp; done) | (simp [*]; done)), H', ⟨by have := HJ2.out; first | omega | exact Nat.le_refl _⟩, ⟨by exact bq BK566.out⟩, ⟨by exact bq BK567.out⟩, ⟨by exact bq BK572.out⟩, ⟨zB⟩⟩
    case rest =>
     clear HC8
     try clear c1
     try clear c2
     try clear p2 p2
     try clear c3
     try clear c4
     try clear c4b0
     try clear c4b1
     try clear c5
     try clear c6
     try clear c7
     try clear c8
     try clear c12
     try clear c17
     try clear c18
     try clear c21
     try clear c21b0
     try clear hcz13_0 hcz13_1 hcz13_2 hcz13_3 hfz13_0 hfz13_1 hfz13_2 hfz13_3
     try clear hcz14_0 hcz14_1 hcz14_2 hcz14_3 hfz14_0 hfz14_1 hfz14_2 hfz14_3
     try clear hcz19_0 hcz19_1 hcz19_2 hcz19_3 hfz19_0 hfz19_1 hfz19_2 hfz19_3
     obtain ⟨kq, x39_7, rfl, HA, HJ7, BK566, BK567, BK572, HB⟩ := hcut
     cases kq with
     | zero => exact absurd HA.out (by simp [laws_FnOf.j1])
     | succ kj7 =>
      have H := HA.out
      clear HA
      simp only [laws_FnOf.j1] at H
      by_cases c30 : x39_7 = true
      ·subst c30
       rw [if_pos rfl] at H
       replace H := Option.bind_eq_some_iff.mp H
       obtain ⟨⟨t578, t579, t580, t581⟩, A310, H⟩ := H
       try dsimp only at H
       have A31 := Aside0.mk A310
       clear A310
       obtain rfl := Option.some.inj H
       try go_wp2
       replace BK566 := Aside0.mk (blk_drew BK566.out)
       replace BK567 := Aside0.mk (blk_drew BK567.out)
       replace BK572 := Aside0.mk (blk_drew BK572.out)
       replace HB := Aside0.mk (below_drew1 HB.out)
       refine start_ (n := 7) (S := fun w' => w'.cell? ⟨gb572, 0, none⟩ = some (.int .i64 t568) ∧ w'.cell? ⟨gb572, 1, none⟩ = some (.int .i64 t569) ∧ w'.cell? ⟨gb572, 2, none⟩ = some (.int .i64 t570) ∧ w'.cell? ⟨gb572, 3, none⟩ = some (.int .i64 t571) ∧ w'.cell? ⟨gb566, 0, none⟩ = some (.int .i64 t558) ∧ w'.cell? ⟨gb566, 1, none⟩ = some (.int .i64 t559) ∧ w'.cell? ⟨gb566, 2, none⟩ = some (.int .i64 t560) ∧ w'.cell? ⟨gb566, 3, none⟩ = some (.int .i64 t561) ∧ w'.cell? ⟨gb567, 0, none⟩ = some (.int .i64 t562) ∧ w'.cell? ⟨gb567, 1, none⟩ = some (.int .i64 t563) ∧ w'.cell? ⟨gb567, 2, none⟩ = some (.int .i64 t564) ∧ w'.cell? ⟨gb567, 3, none⟩ = some (.int .i64 t565)) (ds := []) #[false, false, false, false, false, false, false] (by kernel_rfl) rfl rfl ⟨(blk_cell BK572.out 0).trans rfl, (blk_cell BK572.out 1).trans rfl, (blk_cell BK572.out 2).trans rfl, (blk_cell BK572.out 3).trans rfl, (blk_cell BK566.out 0).trans rfl, (blk_cell BK566.out 1).trans rfl, (blk_cell BK566.out 2).trans rfl, (blk_cell BK566.out 3).trans rfl, (blk_cell BK567.out 0).trans rfl, (blk_cell BK567.out 1).trans rfl, (blk_cell BK567.out 2).trans rfl, (blk_cell BK567.out 3).trans rfl⟩ (fun hHeld => ?_)
       generalize wc.drew = w32 at BK566 BK567 BK572 HB hHeld ⊢
       refine pz 1 41 ?_
       refine tz 0 40 ?_
       refine tz 2 42 ?_
       refine tz 3 43 ?_
       refine oz 4 44 fun K hK => ?_
       refine gz Try.func7 #[.int .i64 t557, .agg #[.int .i64 t558, .int .i64 t559, .int .i64 t560, .int .i64 t561], .agg #[.int .i64 t562, .int .i64 t563, .int .i64 t564, .int .i64 t565]] ?_
       with_reducible refine (spec_RangeOf.calls kj7 t557 t558 t559 t560 t561 t562 t563 t564 t565 t578 t579 t580 t581 _ A31.out).mono ?_
       rintro e w33 ⟨rfl, hb⟩
       refine ⟨_, rfl, ?_⟩
       replace BK566 := zb BK566 hb rfl
       replace BK567 := zb BK567 hb rfl
       replace BK572 := zb BK572 hb rfl
       replace HB := zS hb
       try clear hb
       refine hK.out _ _ ⟨(blk_cell BK572.out 0).trans rfl, (blk_cell BK572.out 1).trans rfl, (blk_cell BK572.out 2).trans rfl, (blk_cell BK572.out 3).trans rfl, (blk_cell BK566.out 0).trans rfl, (blk_cell BK566.out 1).trans rfl, (blk_cell BK566.out 2).trans rfl, (blk_cell BK566.out 3).trans rfl, (blk_cell BK567.out 0).trans rfl, (blk_cell BK567.out 1).trans rfl, (blk_cell BK567.out 2).trans rfl, (blk_cell BK567.out 3).trans rfl⟩ (fun hHeld => ?_)
       clear hK K
       refine nz ?_
       refine pz 5 45 ?_
       refine pz 6 4 ?_
       refine done_ (by kernel_rfl) ?_
       try go_wp2
       go_ret
       exact ⟨zR, zB⟩
      ·replace c30 := Bool.eq_false_iff.mpr c30
       subst c30
       rw [if_neg (show ¬ (false = true) by decide)] at H
       replace H := Option.bind_eq_some_iff.mp H
       obtain ⟨t582, A340, H⟩ := H
       try dsimp only at H
       have A34 := Aside0.mk A340
       clear A340
       replace H := Option.bind_eq_some_iff.mp H
       obtain ⟨t583, A350, H⟩ := H
       try dsimp only at H
       have A35 := Aside0.mk A350
       clear A350
       replace H := Option.bind_eq_some_iff.mp H
       obtain ⟨t584, A360, H⟩ := H
       try dsimp only at H
       have A36 := Aside0.mk A360
       clear A360
       replace H := Option.bind_eq_some_iff.mp H
       obtain ⟨t585, A370, H⟩ := H
       try dsimp only at H
       have A37 := Aside0.mk A370
       clear A370
       by_cases c38 : t585 = true
       ·subst c38
        rw [if_pos rfl] at H
        replace H := Option.bind_eq_some_iff.mp H
        obtain ⟨t586, A390, H⟩ := H
        try dsimp only at H
        have A39 := Aside0.mk A390
        clear A390
        replace H := Option.bind_eq_some_iff.mp H
        obtain ⟨t587, A400, H⟩ := H
        try dsimp only at H
        have A40 := Aside0.mk A400
        clear A400
        replace H := Option.bind_eq_some_iff.mp H
        obtain ⟨t588, A410, H⟩ := H
        try dsimp only at H
        have A41 := Aside0.mk A410
        clear A410
        replace H := Option.bind_eq_some_iff.mp H
        obtain ⟨t589, A420, H⟩ := H
        try dsimp only at H
        have A42 := Aside0.mk A420
        clear A420
        obtain rfl := Option.some.inj H
        have hnb43 := NB566_567.out
        have hnc43 := NB567_566.out
        have hnb44 := NB566_572.out
        have hnc44 := NB572_566.out
        obtain ⟨hcz45_0, hcz45_1, hcz45_2, hcz45_3, hfz45_0, hfz45_1, hfz45_2, hfz45_3⟩ := zc4 BK566
        try go_wp2_with (first | ((with_reducible refine gate_callee (f := 9) rfl ?_); refine gl 49 Try.func9 #[.agg #[.int .i64 t558, .int .i64 t559, .int .i64 t560, .int .i64 t561], .int .i64 (l1.length : Int)] ?_; (with_reducible refine (laws_sgSome.calls kj7 t558 t559 t560 t561 (l1.length : Int) t582 _ A34.out).mono ?_); rintro e w46 ⟨rfl, hb⟩; refine ⟨_, rfl, ?_⟩; replace BK566 := zb BK566 hb rfl; replace BK567 := zb BK567 hb rfl; replace BK572 := zb BK572 hb rfl; replace HB := zS hb; try clear hb; have hnb47 := NB567_572.out; have hnc47 := NB572_567.out; obtain ⟨hcz48_0, hcz48_1, hcz48_2, hcz48_3, hfz48_0, hfz48_1, hfz48_2, hfz48_3⟩ := zc4 BK567) | ((with_reducible refine gate_callee (f := 9) rfl ?_); refine gl 54 Try.func9 #[.agg #[.int .i64 t562, .int .i64 t563, .int .i64 t564, .int .i64 t565], .int .i64 (wrap64 ((l1.length : Int) / 7))] ?_; (with_reducible refine (laws_sgSome.calls kj7 t562 t563 t564 t565 (wrap64 ((l1.length : Int) / 7)) t583 _ A35.out).mono ?_); rintro e w49 ⟨rfl, hb⟩; refine ⟨_, rfl, ?_⟩; replace BK566 := zb BK566 hb rfl; replace BK567 := zb BK567 hb rfl; replace BK572 := zb BK572 hb rfl; replace HB := zS hb; try clear hb))
        replace BK566 := Aside0.mk (blk_drew BK566.out)
        replace BK567 := Aside0.mk (blk_drew BK567.out)
        replace BK572 := Aside0.mk (blk_drew BK572.out)
        replace HB := Aside0.mk (below_drew1 HB.out)
        refine start_ (n := 17) (S := fun w' => w'.cell? ⟨gb572, 0, none⟩ = some (.int .i64 t568) ∧ w'.cell? ⟨gb572, 1, none⟩ = some (.int .i64 t569) ∧ w'.cell? ⟨gb572, 2, none⟩ = some (.int .i64 t570) ∧ w'.cell? ⟨gb572, 3, none⟩ = some (.int .i64 t571) ∧ w'.cell? ⟨gb566, 0, none⟩ = some (.int .i64 t558) ∧ w'.cell? ⟨gb566, 1, none⟩ = some (.int .i64 t559) ∧ w'.cell? ⟨gb566, 2, none⟩ = some (.int .i64 t560) ∧ w'.cell? ⟨gb566, 3, none⟩ = some (.int .i64 t561) ∧ w'.cell? ⟨gb567, 0, none⟩ = some (.int .i64 t562) ∧ w'.cell? ⟨gb567, 1, none⟩ = some (.int .i64 t563) ∧ w'.cell? ⟨gb567, 2, none⟩ = some (.int .i64 t564) ∧ w'.cell? ⟨gb567, 3, none⟩ = some (.int .i64 t565)) (ds := []) #[false, false, false, false, false, false, false, false, false, false, false, false, false, false, false, false, false] (by kernel_rfl) rfl rfl ⟨(blk_cell BK572.out 0).trans rfl, (blk_cell BK572.out 1).trans rfl, (blk_cell BK572.out 2).trans rfl, (blk_cell BK572.out 3).trans rfl, (blk_cell BK566.out 0).trans rfl, (blk_cell BK566.out 1).trans rfl, (blk_cell BK566.out 2).trans rfl, (blk_cell BK566.out 3).trans rfl, (blk_cell BK567.out 0).trans rfl, (blk_cell BK567.out 1).trans rfl, (blk_cell BK567.out 2).trans rfl, (blk_cell BK567.out 3).trans rfl⟩ (fun hHeld => ?_); refine with_tabW laws_FnOf.tab9 laws_FnOf.bits9 (fun HT_ HW_ => ?_)
        generalize w49.drew = w50 at BK566 BK567 BK572 HB hHeld ⊢
        refine pz 1 56 ?_
        refine pz 2 57 ?_
        refine pz 3 58 ?_
        refine tz 0 55 ?_
        refine oz 4 59 fun K hK => ?_
        refine gz Try.func11 #[.int .i64 t557, .int .i64 t582, .int .i64 t583] ?_
        with_reducible refine (impl_RangeDo.calls kj7 t557 t582 t583 t584 _ A36.out).mono ?_
        rintro e w' ⟨rfl, ⟨nd, rfl⟩⟩
        refine ⟨_, rfl, ?_⟩
        refine hK.out _ _ ⟨(blk_cell BK572.out 0).trans rfl, (blk_cell BK572.out 1).trans rfl, (blk_cell BK572.out 2).trans rfl, (blk_cell BK572.out 3).trans rfl, (blk_cell BK566.out 0).trans rfl, (blk_cell BK566.out 1).trans rfl, (blk_cell BK566.out 2).trans rfl, (blk_cell BK566.out 3).trans rfl, (blk_cell BK567.out 0).trans rfl, (blk_cell BK567.out 1).trans rfl, (blk_cell BK567.out 2).trans rfl, (blk_cell BK567.out 3).trans rfl⟩ (fun hHeld => ?_)
        clear hK K
        refine nz ?_
        refine oz 5 60 fun K hK => ?_
        refine gz Try.func10 #[.agg #[.int .i64 t568, .int .i64 t569, .int .i64 t570, .int .i64 t571], .int .i64 t584] ?_
        with_reducible refine (impl_RangeHas.calls t568 t569 t570 t571 t584 true _ A37.out).mono ?_
        rintro e w51 ⟨rfl, hb⟩
        refine ⟨_, rfl, ?_⟩
        replace BK566 := zb BK566 hb rfl
        replace BK567 := zb BK567 hb rfl
        replace BK572 := zb BK572 hb rfl
        replace HB := zS hb
        try clear hb
        refine hK.out _ _ ⟨(blk_cell BK572.out 0).trans rfl, (blk_cell BK572.out 1).trans rfl, (blk_cell BK572.out 2).trans rfl, (blk_cell BK572.out 3).trans rfl, (blk_cell BK566.out 0).trans rfl, (blk_cell BK566.out 1).trans rfl, (blk_cell BK566.out 2).trans rfl, (blk_cell BK566.out 3).trans rfl, (blk_cell BK567.out 0).trans rfl, (blk_cell BK567.out 1).trans rfl, (blk_cell BK567.out 2).trans rfl, (blk_cell BK567.out 3).trans rfl⟩ (fun hHeld => ?_)
        clear hK K
        refine nz ?_
        refine pz 6 61 ?_
        refine pz 8 63 ?_
        refine tz 7 62 ?_
        refine tz 9 64 ?_
        refine tz 11 66 ?_
        refine oz 10 65 fun K hK => ?_
        refine gz Try.func12 #[.agg #[.int .i64 t558, .int .i64 t559, .int .i64 t560, .int .i64 t561]] ?_
        with_reducible refine (impl_RangeLeast.calls kj7 t558 t559 t560 t561 t586 _ A39.out).mono ?_
        rintro e w52 ⟨rfl, hb⟩
        refine ⟨_, rfl, ?_⟩
        replace BK566 := zb BK566 hb rfl
        replace BK567 := zb BK567 hb rfl
        replace BK572 := zb BK572 hb rfl
        replace HB := zS hb
        try clear hb
        refine hK.out _ _ ⟨(blk_cell BK572.out 0).trans rfl, (blk_cell BK572.out 1).trans rfl, (blk_cell BK572.out 2).trans rfl, (blk_cell BK572.out 3).trans rfl, (blk_cell BK566.out 0).trans rfl, (blk_cell BK566.out 1).trans rfl, (blk_cell BK566.out 2).trans rfl, (blk_cell BK566.out 3).trans rfl, (blk_cell BK567.out 0).trans rfl, (blk_cell BK567.out 1).trans rfl, (blk_cell BK567.out 2).trans rfl, (blk_cell BK567.out 3).trans rfl⟩ (fun hHeld => ?_)
        clear hK K
        refine nz ?_
        refine oz 12 67 fun K hK => ?_
        refine gz Try.func12 #[.agg #[.int .i64 t562, .int .i64 t563, .int .i64 t564, .int .i64 t565]] ?_
        with_reducible refine (impl_RangeLeast.calls kj7 t562 t563 t564 t565 t587 _ A40.out).mono ?_
        rintro e w53 ⟨rfl, hb⟩
        refine ⟨_, rfl, ?_⟩
        replace BK566 := zb BK566 hb rfl
        replace BK567 := zb BK567 hb rfl
        replace BK572 := zb BK572 hb rfl
        replace HB := zS hb
        try clear hb
        refine hK.out _ _ ⟨(blk_cell BK572.out 0).trans rfl, (blk_cell BK572.out 1).trans rfl, (blk_cell BK572.out 2).trans rfl, (blk_cell BK572.out 3).trans rfl, (blk_cell BK566.out 0).trans rfl, (blk_cell BK566.out 1).trans rfl, (blk_cell BK566.out 2).trans rfl, (blk_cell BK566.out 3).trans rfl, (blk_cell BK567.out 0).trans rfl, (blk_cell BK567.out 1).trans rfl, (blk_cell BK567.out 2).trans rfl, (blk_cell BK567.out 3).trans rfl⟩ (fun hHeld => ?_)
        clear hK K
        refine nz ?_
        refine oz 13 68 fun K hK => ?_
        refine gz Try.func11 #[.int .i64 t557, .int .i64 t586, .int .i64 t587] ?_
        with_reducible refine (impl_RangeDo.calls kj7 t557 t586 t587 t588 _ A41.out).mono ?_
        rintro e w' ⟨rfl, ⟨nd, rfl⟩⟩
        refine ⟨_, rfl, ?_⟩
        refine hK.out _ _ ⟨(blk_cell BK572.out 0).trans rfl, (blk_cell BK572.out 1).trans rfl, (blk_cell BK572.out 2).trans rfl, (blk_cell BK572.out 3).trans rfl, (blk_cell BK566.out 0).trans rfl, (blk_cell BK566.out 1).trans rfl, (blk_cell BK566.out 2).trans rfl, (blk_cell BK566.out 3).trans rfl, (blk_cell BK567.out 0).trans rfl, (blk_cell BK567.out 1).trans rfl, (blk_cell BK567.out 2).trans rfl, (blk_cell BK567.out 3).trans rfl⟩ (fun hHeld => ?_)
        clear hK K
        refine nz ?_
        refine oz 14 69 fun K hK => ?_
        refine gz Try.func10 #[.agg #[.int .i64 t568, .int .i64 t569, .int .i64 t570, .int .i64 t571], .int .i64 t588] ?_
        with_reducible refine (impl_RangeHas.calls t568 t569 t570 t571 t588 t589 _ A42.out).mono ?_
        rintro e w54 ⟨rfl, hb⟩
        refine ⟨_, rfl, ?_⟩
        replace BK566 := zb BK566 hb rfl
        replace BK567 := zb BK567 hb rfl
        replace BK572 := zb BK572 hb rfl
        replace HB := zS hb
        try clear hb
        refine hK.out _ _ ⟨(blk_cell BK572.out 0).trans rfl, (blk_cell BK572.out 1).trans rfl, (blk_cell BK572.out 2).trans rfl, (blk_cell BK572.out 3).trans rfl, (blk_cell BK566.out 0).trans rfl, (blk_cell BK566.out 1).trans rfl, (blk_cell BK566.out 2).trans rfl, (blk_cell BK566.out 3).trans rfl, (blk_cell BK567.out 0).trans rfl, (blk_cell BK567.out 1).trans rfl, (blk_cell BK567.out 2).trans rfl, (blk_cell BK567.out 3).trans rfl⟩ (fun hHeld => ?_)
        clear hK K
        refine nz ?_
        refine pz 15 70 ?_
        refine pz 16 4 ?_
        refine done_ (done_of HT_.out (by kernel_rfl)) ?_
        try go_wp2
        go_ret
        exact ⟨zR, zB⟩
       ·replace c38 := Bool.eq_false_iff.mpr c38
        subst c38
        rw [if_neg (show ¬ (false = true) by decide)] at H
        exact absurd H (by simp)

/-- THE ONE PURE STATEMENT of laws_FnOf: yours. -/
def laws_FnOf.Pure : Prop := ∀ (l0 : List Int) (l1 : List Int), l0.length ≤ maxLen → l0.length * 1 ≤ 140737488351232 → (∀ x ∈ l0, (Lit.int .u8 x).wf = true) → l1.length ≤ maxLen → l1.length * 1 ≤ 140737488351232 → (∀ x ∈ l1, (Lit.int .u8 x).wf = true) → ∃ k, laws_FnOf.f k l0 l1 = some true
theorem laws_FnOf.walk (P : laws_FnOf.Pure) (a0 : Option Addr) (len0 cap0 : Nat) (z0 : List Int) (a1 : Option Addr) (len1 cap1 : Nat) (z1 : List Int) (w : World) (w0 : (a0 = none ∧ len0 = 0 ∧ cap0 = 0 ∧ z0 = []) ∨ ∃ x, a0 = some x ∧ len0 ≤ cap0 ∧ cap0 ≤ maxLen ∧ z0.length = cap0 ∧ (∀ i, i < z0.length → w.cell? (x.add i) = some (.int .u8 (z0.getD i 0))) ∧ ∀ n ∈ z0, (Lit.int .u8 n).wf = true) (y0 : len0 * 1 ≤ 140737488351232) (w1 : (a1 = none ∧ len1 = 0 ∧ cap1 = 0 ∧ z1 = []) ∨ ∃ x, a1 = some x ∧ len1 ≤ cap1 ∧ cap1 ≤ maxLen ∧ z1.length = cap1 ∧ (∀ i, i < z1.length → w.cell? (x.add i) = some (.int .u8 (z1.getD i 0))) ∧ ∀ n ∈ z1, (Lit.int .u8 n).wf = true) (y1 : len1 * 1 ≤ 140737488351232) :
  Calls Try.prog 3 #[.slice a0 len0 cap0, .slice a1 len1 cap1] w fun e w' => e = .returned (.bool true) ∧ Below w.heap.size w w' := by
 obtain ⟨l0, rfl, hr0, hm0, hw0, hc0⟩ := ReadsInt.ofRowC w0
 obtain ⟨l1, rfl, hr1, hm1, hw1, hc1⟩ := ReadsInt.ofRowC w1
 obtain ⟨k, h⟩ := P l0 l1 hm0 y0 hw0 hm1 y1 hw1
 refine (laws_FnOf.calls k _ _ l0 _ _ l1 true w (Kd.C_of_reads (d := (0 : Int)) (h1 := fun _ => rfl) hr0) hc0 (Kd.C_of_reads (d := (0 : Int)) (h1 := fun _ => rfl) hr1) hc1 h).mono ?_
 rintro e w' ⟨rfl, hd⟩
 exact ⟨rfl, hd⟩

end Go.Proofs.Ytdhijcfohbkpoaa.Q
