/- The machine's side of this seat's laws: Go functions as Lean functions, and their contracts. By a program of this work over the kit's print. -/
import Derived.Test.YtdhijcfohbkpoaaQ0
import Derived.Test.YtdhijcfohbkpoaaQ2
import Derived.Test.YtdhijcfohbkpoaaQ3
import Derived.Test.YtdhijcfohbkpoaaQ12
import Derived.Test.YtdhijcfohbkpoaaQ14
import Derived.Test.YtdhijcfohbkpoaaQ15
import Derived.Test.YtdhijcfohbkpoaaQ16
import Derived.Test.YtdhijcfohbkpoaaQ17
import Derived.Test.YtdhijcfohbkpoaaQ18
namespace Go.Proofs.Ytdhijcfohbkpoaa.Q
open Go.RowKit Go.Proofs.YtdhijcfohbkpoaaW.PrintWords Go.Proofs.YtdhijcfohbkpoaaW.PrintLast Go.Proofs.YtdhijcfohbkpoaaW.PrintMore
attribute [local go_sem] max2_int min2_int max_two min_two max_three min_three max_four min_four Go.Proofs.YtdhijcfohbkpoaaN.not_i64 Go.Proofs.YtdhijcfohbkpoaaN.isSome_setCell   -- for this text's walks alone
set_option linter.unusedVariables false
set_option linter.unusedSimpArgs false

/-! ### spec_l2Of: function 26 -/
mutual
def spec_l2Of.j0 : Nat → Int → Bool → Int → Int → Int → Int → Int → Int → Int → Int → Option (Int × Int × Int × Int)
 | 0, _, _, _, _, _, _, _, _, _, _ => none
 | k + 1, x0, x18, x475000, x475001, x475002, x475003, x476000, x476001, x476002, x476003 => if x18 = true then ((spec_l2Do.f x0 x475000 x476000).bind fun t477 => ((spec_l2One.f t477).bind fun bt478 => (some (bt478.1, bt478.2.1, bt478.2.2.1, bt478.2.2.2)))) else (if x0 = 1 then (some (x476000, x476001, x476002, x476003)) else (if x0 = 2 then ((spec_l2Sum.f k x475000 x475001 x475002 x475003 x476000 x476001 x476002 x476003).bind fun bt482 => (some (bt482.1, bt482.2.1, bt482.2.2.1, bt482.2.2.2))) else (if x0 = 3 then ((spec_l2Less.f k x475000 x475001 x475002 x475003 x476000 x476001 x476002 x476003).bind fun bt486 => (some (bt486.1, bt486.2.1, bt486.2.2.1, bt486.2.2.2))) else (if x0 = 4 then (if x475001 = 0 then (spec_l2Of.j1 k true x475000 x475001 x475002 x475003 x476000 x476001 x476002 x476003) else (spec_l2Of.j1 k (decide (x476001 ≤ (wrap64 (Int.tdiv (4294967295 : Int) x475001)))) x475000 x475001 x475002 x475003 x476000 x476001 x476002 x476003)) else ((spec_l1In.f x0 5 7).bind fun t498 => (if t498 = true then ((spec_l2Bitwise.f k x0 x475000 x475001 x475002 x475003 x476000 x476001 x476002 x476003).bind fun bt499 => (some (bt499.1, bt499.2.1, bt499.2.2.1, bt499.2.2.2))) else ((spec_l1In.f x0 8 9).bind fun t503 => (if t503 = true then (if x476000 = x476001 then ((spec_l2Shift.f k x0 x475000 x475001 x475002 x475003 (Go.bits .and .i64 x476000 31)).bind fun bt504 => (some (bt504.1, bt504.2.1, bt504.2.2.1, bt504.2.2.2))) else (if x0 = 9 then ((spec_l2Ends.f k 0 x475001).bind fun bt508 => (some (bt508.1, bt508.2.1, bt508.2.2.1, bt508.2.2.2))) else ((spec_l2All.f).bind fun bt512 => (some (bt512.1, bt512.2.1, bt512.2.2.1, bt512.2.2.2))))) else ((spec_l2Parts.f k x0 x475000 x475001 x475002 x475003 x476000 x476001 x476002 x476003).bind fun bt516 => (some (bt516.1, bt516.2.1, bt516.2.2.1, bt516.2.2.2)))))))))))
def spec_l2Of.j1 : Nat → Bool → Int → Int → Int → Int → Int → Int → Int → Int → Option (Int × Int × Int × Int)
 | 0, _, _, _, _, _, _, _, _, _ => none
 | k + 1, x56, x475000, x475001, x475002, x475003, x476000, x476001, x476002, x476003 => if x56 = true then ((spec_l2Ends.f k (wrap64 (x475000 * x476000)) (wrap64 (x475001 * x476001))).bind fun bt490 => (some (bt490.1, bt490.2.1, bt490.2.2.1, bt490.2.2.2))) else ((spec_l2All.f).bind fun bt494 => (some (bt494.1, bt494.2.1, bt494.2.2.1, bt494.2.2.2)))
end
def spec_l2Of.f (k : Nat) (a0 : Int) (a1_0 : Int) (a1_1 : Int) (a1_2 : Int) (a1_3 : Int) (a2_0 : Int) (a2_1 : Int) (a2_2 : Int) (a2_3 : Int) : Option (Int × Int × Int × Int) := if a1_0 = a1_1 then (spec_l2Of.j0 k a0 (a2_0 == a2_1) a1_0 a1_1 a1_2 a1_3 a2_0 a2_1 a2_2 a2_3) else (spec_l2Of.j0 k a0 false a1_0 a1_1 a1_2 a1_3 a2_0 a2_1 a2_2 a2_3)


set_option maxHeartbeats 8000000 in
set_option maxRecDepth 100000 in
theorem spec_l2Of.calls (k : Nat) (a0 : Int) (a1_0 : Int) (a1_1 : Int) (a1_2 : Int) (a1_3 : Int) (a2_0 : Int) (a2_1 : Int) (a2_2 : Int) (a2_3 : Int) (r1 : Int) (r2 : Int) (r3 : Int) (r4 : Int) (w : World) (h : spec_l2Of.f k a0 a1_0 a1_1 a1_2 a1_3 a2_0 a2_1 a2_2 a2_3 = some (r1, r2, r3, r4)) :
  Calls Try.prog 26 #[.int .i64 a0, .agg #[.int .i64 a1_0, .int .i64 a1_1, .int .i64 a1_2, .int .i64 a1_3], .agg #[.int .i64 a2_0, .int .i64 a2_1, .int .i64 a2_2, .int .i64 a2_3]] w fun e w' => e = .returned (.agg #[.int .i64 r1, .int .i64 r2, .int .i64 r3, .int .i64 r4]) ∧ Below w.heap.size w w' := by
 have hu24 := Try.underlying24
 have HB := Aside0.mk (Below.refl w.heap.size w)
 have H : (if a1_0 = a1_1 then (spec_l2Of.j0 k a0 (a2_0 == a2_1) a1_0 a1_1 a1_2 a1_3 a2_0 a2_1 a2_2 a2_3) else (spec_l2Of.j0 k a0 false a1_0 a1_1 a1_2 a1_3 a2_0 a2_1 a2_2 a2_3)) = some (r1, r2, r3, r4) := h
 clear h
 have HC4 := Aside0.mk H
 clear H
 go_enter Try.func26, Try.ntmps26
 go_upto_region 1 with (first | ((with_reducible refine gate_dst (N := 4) rfl ?_); refine be 4 #[.int .i64 a1_0, .int .i64 a1_1, .int .i64 a1_2, .int .i64 a1_3] 24 ?_; intro gb474 hg w5 hbox hb; have BK474 := Aside0.mk hbox; have GW474 := zW hg; replace HB := zS hb; have GE474 := GW474; clear hb hbox hg) | ((with_reducible refine gate_dst (N := 5) rfl ?_); refine be 5 #[.int .i64 a2_0, .int .i64 a2_1, .int .i64 a2_2, .int .i64 a2_3] 24 ?_; intro gb475 hg w6 hbox hb; have BK475 := Aside0.mk hbox; have GW475 := zW hg; replace HB := zS hb; have GE475 := GW475; have NB474_475 := zl BK474 hg rfl; have NB475_474 := zg BK474 hg rfl; replace BK474 := zb BK474 hb rfl; clear hb hbox hg) | ((with_reducible refine gate_dst (N := 6) rfl ?_); refine be 6 #[.int .i64 0, .int .i64 0, .int .i64 0, .int .i64 0] 24 ?_; intro gb476 hg w7 hbox hb; have BK476 := Aside0.mk hbox; have GW476 := zW hg; replace HB := zS hb; have GE476 := GW476; have NB474_476 := zl BK474 hg rfl; have NB476_474 := zg BK474 hg rfl; replace BK474 := zb BK474 hb rfl; have NB475_476 := zl BK475 hg rfl; have NB476_475 := zg BK475 hg rfl; replace BK475 := zb BK475 hb rfl; clear hb hbox hg))
 repeat (go_quiet (first | ((with_reducible refine gate_dst (N := 4) rfl ?_); refine be 4 #[.int .i64 a1_0, .int .i64 a1_1, .int .i64 a1_2, .int .i64 a1_3] 24 ?_; intro gb474 hg w5 hbox hb; have BK474 := Aside0.mk hbox; have GW474 := zW hg; replace HB := zS hb; have GE474 := GW474; clear hb hbox hg) | ((with_reducible refine gate_dst (N := 5) rfl ?_); refine be 5 #[.int .i64 a2_0, .int .i64 a2_1, .int .i64 a2_2, .int .i64 a2_3] 24 ?_; intro gb475 hg w6 hbox hb; have BK475 := Aside0.mk hbox; have GW475 := zW hg; replace HB := zS hb; have GE475 := GW475; have NB474_475 := zl BK474 hg rfl; have NB475_474 := zg BK474 hg rfl; replace BK474 := zb BK474 hb rfl; clear hb hbox hg) | ((with_reducible refine gate_dst (N := 6) rfl ?_); refine be 6 #[.int .i64 0, .int .i64 0, .int .i64 0, .int .i64 0] 24 ?_; intro gb476 hg w7 hbox hb; have BK476 := Aside0.mk hbox; have GW476 := zW hg; replace HB := zS hb; have GE476 := GW476; have NB474_476 := zl BK474 hg rfl; have NB476_474 := zg BK474 hg rfl; replace BK474 := zb BK474 hb rfl; have NB475_476 := zl BK475 hg rfl; have NB476_475 := zg BK475 hg rfl; replace BK475 := zb BK475 hb rfl; clear hb hbox hg)); go_upto_region 1 with (first | ((with_reducible refine gate_dst (N := 4) rfl ?_); refine be 4 #[.int .i64 a1_0, .int .i64 a1_1, .int .i64 a1_2, .int .i64 a1_3] 24 ?_; intro gb474 hg w5 hbox hb; have BK474 := Aside0.mk hbox; have GW474 := zW hg; replace HB := zS hb; have GE474 := GW474; clear hb hbox hg) | ((with_reducible refine gate_dst (N := 5) rfl ?_); refine be 5 #[.int .i64 a2_0, .int .i64 a2_1, .int .i64 a2_2, .int .i64 a2_3] 24 ?_; intro gb475 hg w6 hbox hb; have BK475 := Aside0.mk hbox; have GW475 := zW hg; replace HB := zS hb; have GE475 := GW475; have NB474_475 := zl BK474 hg rfl; have NB475_474 := zg BK474 hg rfl; replace BK474 := zb BK474 hb rfl; clear hb hbox hg) | ((with_reducible refine gate_dst (N := 6) rfl ?_); refine be 6 #[.int .i64 0, .int .i64 0, .int .i64 0, .int .i64 0] 24 ?_; intro gb476 hg w7 hbox hb; have BK476 := Aside0.mk hbox; have GW476 := zW hg; replace HB := zS hb; have GE476 := GW476; have NB474_476 := zl BK474 hg rfl; have NB476_474 := zg BK474 hg rfl; replace BK474 := zb BK474 hb rfl; have NB475_476 := zl BK475 hg rfl; have NB476_475 := zg BK475 hg rfl; replace BK475 := zb BK475 hb rfl; clear hb hbox hg)))
 (try simp only [Act.put, List.setIfInBounds_toArray, List.set_cons_zero, List.set_cons_succ])
 go_cut [18] (fun v18 wc => ∃ (kq : Nat) (x18_3 : Bool), v18 = .bool x18_3 ∧ Aside0 (spec_l2Of.j0 kq a0 x18_3 a1_0 a1_1 a1_2 a1_3 a2_0 a2_1 a2_2 a2_3 = some (r1, r2, r3, r4)) ∧ Aside0 (kq ≤ k) ∧ Aside0 (wc.heap[gb474]? = some (.cells #[.int .i64 a1_0, .int .i64 a1_1, .int .i64 a1_2, .int .i64 a1_3] 24 (0, 0))) ∧ Aside0 (wc.heap[gb475]? = some (.cells #[.int .i64 a2_0, .int .i64 a2_1, .int .i64 a2_2, .int .i64 a2_3] 24 (0, 0))) ∧ Aside0 (wc.heap[gb476]? = some (.cells #[.int .i64 0, .int .i64 0, .int .i64 0, .int .i64 0] 24 (0, 0))) ∧ Aside0 (Below w.heap.size w wc))
 case first =>
  have H := HC4.out
  clear HC4
  by_cases c8 : a1_0 = a1_1
  ·rw [if_pos c8] at H
   have c8b0 : (a1_0 == a1_1) = true := beq_iff_eq.mpr c8
   have c8b1 : (a1_0 != a1_1) = false := bne_eq_false_iff_eq.mpr c8
   clear c8
   (first | rw [c8b0] | (simp only [i64_w, i32_w]; rw [c8b0]) | skip)
   have H' := Aside0.mk H
   clear H
   have hnb9 := NB474_475.out
   have hnc9 := NB475_474.out
   have hnb10 := NB474_476.out
   have hnc10 := NB476_474.out
   obtain ⟨hcz11_0, hcz11_1, hcz11_2, hcz11_3, hfz11_0, hfz11_1, hfz11_2, hfz11_3⟩ := zc4 BK474
   have hnb12 := NB475_476.out
   have hnc12 := NB476_475.out
   obtain ⟨hcz13_0, hcz13_1, hcz13_2, hcz13_3, hfz13_0, hfz13_1, hfz13_2, hfz13_3⟩ := zc4 BK475
   go_wp2
   repeat (go_quiet (fail); try go_wp2)
   go_meet
   case rel => exact ⟨_, ((a2_0 == a2_1)), (by first | rfl | (simp; done) | (simp [*]; done)), H', ⟨by first | omega | exact Nat.le_refl _⟩, ⟨by exact bq BK474.out⟩, ⟨by exact bq BK475.out⟩, ⟨by exact bq BK476.out⟩, ⟨zB⟩⟩
  ·rw [if_neg c8] at H
   have c8b0 : (a1_0 == a1_1) = false := beq_eq_false_iff_ne.mpr c8
   have c8b1 : (a1_0 != a1_1) = true := bne_iff_ne.mpr c8
   (first | rw [c8b0] | (simp only [i64_w, i32_w]; rw [c8b0]) | skip)
   have H' := Aside0.mk H
   clear H
   have hnb14 := NB474_475.out
   have hnc14 := NB475_474.out
   have hnb15 := NB474_476.out
   have hnc15 := NB476_474.out
   obtain ⟨hcz16_0, hcz16_1, hcz16_2, hcz16_3, hfz16_0, hfz16_1, hfz16_2, hfz16_3⟩ := zc4 BK474
   go_wp2
   repeat (go_quiet (fail); try go_wp2)
   go_meet
   case rel => exact ⟨_, (false), (by first | rfl | (simp; done) | (simp [*]; done)), H', ⟨by first | omega | exact Nat.le_refl _⟩, ⟨by exact bq BK474.out⟩, ⟨by exact bq BK475.out⟩, ⟨by exact bq BK476.out⟩, ⟨zB⟩⟩
 case rest =>
  clear HC4
  try clear c1
  try clear c2
  try clear p2
  try clear c8
  try clear c8b0
  try clear c8b1
  try clear c9
  try clear c10
  try clear c12
  try clear c14
  try clear c15
  try clear hcz11_0 hcz11_1 hcz11_2 hcz11_3 hfz11_0 hfz11_1 hfz11_2 hfz11_3
  try clear hcz13_0 hcz13_1 hcz13_2 hcz13_3 hfz13_0 hfz13_1 hfz13_2 hfz13_3
  try clear hcz16_0 hcz16_1 hcz16_2 hcz16_3 hfz16_0 hfz16_1 hfz16_2 hfz16_3
  obtain ⟨kq, x18_3, rfl, HA, HJ3, BK474, BK475, BK476, HB⟩ := hcut
  cases kq with
  | zero => exact absurd HA.out (by simp [spec_l2Of.j0])
  | succ kj3 =>
   have H := HA.out
   clear HA
   simp only [spec_l2Of.j0] at H
   by_cases c17 : x18_3 = true
   ·subst c17
    rw [if_pos rfl] at H
    replace H := Option.bind_eq_some_iff.mp H
    obtain ⟨t477, A180, H⟩ := H
    try dsimp only at H
    have A18 := Aside0.mk A180
    clear A180
    replace H := Option.bind_eq_some_iff.mp H
    obtain ⟨⟨t478, t479, t480, t481⟩, A190, H⟩ := H
    try dsimp only at H
    have A19 := Aside0.mk A190
    clear A190
    simp only [Option.some.injEq, Prod.mk.injEq] at H
    obtain ⟨rfl, rfl, rfl, rfl⟩ := H
    have hnb20 := NB474_475.out
    have hnc20 := NB475_474.out
    have hnb21 := NB474_476.out
    have hnc21 := NB476_474.out
    obtain ⟨hcz22_0, hcz22_1, hcz22_2, hcz22_3, hfz22_0, hfz22_1, hfz22_2, hfz22_3⟩ := zc4 BK474
    have hnb23 := NB475_476.out
    have hnc23 := NB476_475.out
    obtain ⟨hcz24_0, hcz24_1, hcz24_2, hcz24_3, hfz24_0, hfz24_1, hfz24_2, hfz24_3⟩ := zc4 BK475
    go_wp2_with (first | (go_at_call 50; (with_reducible refine (spec_l2Do.calls a0 a1_0 a2_0 t477 _ A18.out).mono ?_); rintro e w' ⟨rfl, ⟨nd, rfl⟩⟩; (try first | exact ⟨rfl, _, World.drewN_drewN _ _ _⟩ | exact ⟨rfl, _, Eq.trans (World.drewN_drewN _ _ _) (congrArg (World.drewN _) (Nat.add_assoc _ _ _))⟩)) | (go_at_call 34; (with_reducible refine (spec_l2One.calls t477 t478 t479 t480 t481 _ A19.out).mono ?_); rintro e w25 ⟨rfl, hb⟩; replace BK474 := zb BK474 hb rfl; replace BK475 := zb BK475 hb rfl; replace BK476 := zb BK476 hb rfl; replace HB := zS hb; try clear hb; obtain ⟨hcz26_0, hcz26_1, hcz26_2, hcz26_3, hfz26_0, hfz26_1, hfz26_2, hfz26_3⟩ := zc4 BK476))
    repeat (go_quiet (first | (go_at_call 50; (with_reducible refine (spec_l2Do.calls a0 a1_0 a2_0 t477 _ A18.out).mono ?_); rintro e w' ⟨rfl, ⟨nd, rfl⟩⟩; (try first | exact ⟨rfl, _, World.drewN_drewN _ _ _⟩ | exact ⟨rfl, _, Eq.trans (World.drewN_drewN _ _ _) (congrArg (World.drewN _) (Nat.add_assoc _ _ _))⟩)) | (go_at_call 34; (with_reducible refine (spec_l2One.calls t477 t478 t479 t480 t481 _ A19.out).mono ?_); rintro e w25 ⟨rfl, hb⟩; replace BK474 := zb BK474 hb rfl; replace BK475 := zb BK475 hb rfl; replace BK476 := zb BK476 hb rfl; replace HB := zS hb; try clear hb; obtain ⟨hcz26_0, hcz26_1, hcz26_2, hcz26_3, hfz26_0, hfz26_1, hfz26_2, hfz26_3⟩ := zc4 BK476)); try go_wp2_with (first | (go_at_call 50; (with_reducible refine (spec_l2Do.calls a0 a1_0 a2_0 t477 _ A18.out).mono ?_); rintro e w' ⟨rfl, ⟨nd, rfl⟩⟩; (try first | exact ⟨rfl, _, World.drewN_drewN _ _ _⟩ | exact ⟨rfl, _, Eq.trans (World.drewN_drewN _ _ _) (congrArg (World.drewN _) (Nat.add_assoc _ _ _))⟩)) | (go_at_call 34; (with_reducible refine (spec_l2One.calls t477 t478 t479 t480 t481 _ A19.out).mono ?_); rintro e w25 ⟨rfl, hb⟩; replace BK474 := zb BK474 hb rfl; replace BK475 := zb BK475 hb rfl; replace BK476 := zb BK476 hb rfl; replace HB := zS hb; try clear hb; obtain ⟨hcz26_0, hcz26_1, hcz26_2, hcz26_3, hfz26_0, hfz26_1, hfz26_2, hfz26_3⟩ := zc4 BK476)))
    refine bodyPost_ret (results_cell_row rfl _ _ gb476 24 #[.int .i64 t478, .int .i64 t479, .int .i64 t480, .int .i64 t481] (0, 0) _ rfl (by refine bq ?_; refine blk_put (cs := #[.int .i64 t478, .int .i64 t479, .int .i64 t480, .int .i64 0]) ?_ 3 _ rfl; refine bq ?_; refine blk_put (cs := #[.int .i64 t478, .int .i64 t479, .int .i64 0, .int .i64 0]) ?_ 2 _ rfl; refine bq ?_; refine blk_put (cs := #[.int .i64 t478, .int .i64 0, .int .i64 0, .int .i64 0]) ?_ 1 _ rfl; refine bq ?_; refine blk_put (cs := #[.int .i64 0, .int .i64 0, .int .i64 0, .int .i64 0]) ?_ 0 _ rfl; exact bq BK476.out) Try.underlying24 rfl (by kernel_rfl)) rfl ?_
    exact ⟨zR, zB⟩
   ·replace c17 := Bool.eq_false_iff.mpr c17
    subst c17
    rw [if_neg (show ¬ (false = true) by decide)] at H
    by_cases c27 : a0 = 1
    ·rw [if_pos c27] at H
     have c27b0 : (a0 == 1) = true := beq_iff_eq.mpr c27
     have c27b1 : (a0 != 1) = false := bne_eq_false_iff_eq.mpr c27
     clear c27
     simp only [Option.some.injEq, Prod.mk.injEq] at H
     obtain ⟨rfl, rfl, rfl, rfl⟩ := H
     have hnb28 := NB475_474.out
     have hnc28 := NB474_475.out
     have hnb29 := NB475_476.out
     have hnc29 := NB476_475.out
     obtain ⟨hcz30_0, hcz30_1, hcz30_2, hcz30_3, hfz30_0, hfz30_1, hfz30_2, hfz30_3⟩ := zc4 BK475
     have hnb31 := NB476_474.out
     have hnc31 := NB474_476.out
     obtain ⟨hcz32_0, hcz32_1, hcz32_2, hcz32_3, hfz32_0, hfz32_1, hfz32_2, hfz32_3⟩ := zc4 BK476
     go_wp2
     repeat (go_quiet (fail); try go_wp2)
     refine bodyPost_ret (results_cell_row rfl _ _ gb476 24 #[.int .i64 a2_0, .int .i64 a2_1, .int .i64 a2_2, .int .i64 a2_3] (0, 0) _ rfl (by refine bq ?_; refine blk_put (cs := #[.int .i64 a2_0, .int .i64 a2_1, .int .i64 a2_2, .int .i64 0]) ?_ 3 _ rfl; refine bq ?_; refine blk_put (cs := #[.int .i64 a2_0, .int .i64 a2_1, .int .i64 0, .int .i64 0]) ?_ 2 _ rfl; refine bq ?_; refine blk_put (cs := #[.int .i64 a2_0, .int .i64 0, .int .i64 0, .int .i64 0]) ?_ 1 _ rfl; refine bq ?_; refine blk_put (cs := #[.int .i64 0, .int .i64 0, .int .i64 0, .int .i64 0]) ?_ 0 _ rfl; exact bq BK476.out) Try.underlying24 rfl (by kernel_rfl)) rfl ?_
     exact ⟨zR, zB⟩
    ·rw [if_neg c27] at H
     have c27b0 : (a0 == 1) = false := beq_eq_false_iff_ne.mpr c27
     have c27b1 : (a0 != 1) = true := bne_iff_ne.mpr c27
     by_cases c33 : a0 = 2
     ·rw [if_pos c33] at H
      have c33b0 : (a0 == 2) = true := beq_iff_eq.mpr c33
      have c33b1 : (a0 != 2) = false := bne_eq_false_iff_eq.mpr c33
      clear c33
      replace H := Option.bind_eq_some_iff.mp H
      obtain ⟨⟨t482, t483, t484, t485⟩, A340, H⟩ := H
      try dsimp only at H
      have A34 := Aside0.mk A340
      clear A340
      simp only [Option.some.injEq, Prod.mk.injEq] at H
      obtain ⟨rfl, rfl, rfl, rfl⟩ := H
      have hnb35 := NB474_475.out
      have hnc35 := NB475_474.out
      have hnb36 := NB474_476.out
      have hnc36 := NB476_474.out
      obtain ⟨hcz37_0, hcz37_1, hcz37_2, hcz37_3, hfz37_0, hfz37_1, hfz37_2, hfz37_3⟩ := zc4 BK474
      have hnb38 := NB475_476.out
      have hnc38 := NB476_475.out
      obtain ⟨hcz39_0, hcz39_1, hcz39_2, hcz39_3, hfz39_0, hfz39_1, hfz39_2, hfz39_3⟩ := zc4 BK475
      go_wp2_with (first | (go_at_call 51; (with_reducible refine (spec_l2Sum.calls kj3 a1_0 a1_1 a1_2 a1_3 a2_0 a2_1 a2_2 a2_3 t482 t483 t484 t485 _ A34.out).mono ?_); rintro e w40 ⟨rfl, hb⟩; replace BK474 := zb BK474 hb rfl; replace BK475 := zb BK475 hb rfl; replace BK476 := zb BK476 hb rfl; replace HB := zS hb; try clear hb; obtain ⟨hcz41_0, hcz41_1, hcz41_2, hcz41_3, hfz41_0, hfz41_1, hfz41_2, hfz41_3⟩ := zc4 BK476))
      repeat (go_quiet (first | (go_at_call 51; (with_reducible refine (spec_l2Sum.calls kj3 a1_0 a1_1 a1_2 a1_3 a2_0 a2_1 a2_2 a2_3 t482 t483 t484 t485 _ A34.out).mono ?_); rintro e w40 ⟨rfl, hb⟩; replace BK474 := zb BK474 hb rfl; replace BK475 := zb BK475 hb rfl; replace BK476 := zb BK476 hb rfl; replace HB := zS hb; try clear hb; obtain ⟨hcz41_0, hcz41_1, hcz41_2, hcz41_3, hfz41_0, hfz41_1, hfz41_2, hfz41_3⟩ := zc4 BK476)); try go_wp2_with (first | (go_at_call 51; (with_reducible refine (spec_l2Sum.calls kj3 a1_0 a1_1 a1_2 a1_3 a2_0 a2_1 a2_2 a2_3 t482 t483 t484 t485 _ A34.out).mono ?_); rintro e w40 ⟨rfl, hb⟩; replace BK474 := zb BK474 hb rfl; replace BK475 := zb BK475 hb rfl; replace BK476 := zb BK476 hb rfl; replace HB := zS hb; try clear hb; obtain ⟨hcz41_0, hcz41_1, hcz41_2, hcz41_3, hfz41_0, hfz41_1, hfz41_2, hfz41_3⟩ := zc4 BK476)))
      refine bodyPost_ret (results_cell_row rfl _ _ gb476 24 #[.int .i64 t482, .int .i64 t483, .int .i64 t484, .int .i64 t485] (0, 0) _ rfl (by refine bq ?_; refine blk_put (cs := #[.int .i64 t482, .int .i64 t483, .int .i64 t484, .int .i64 0]) ?_ 3 _ rfl; refine bq ?_; refine blk_put (cs := #[.int .i64 t482, .int .i64 t483, .int .i64 0, .int .i64 0]) ?_ 2 _ rfl; refine bq ?_; refine blk_put (cs := #[.int .i64 t482, .int .i64 0, .int .i64 0, .int .i64 0]) ?_ 1 _ rfl; refine bq ?_; refine blk_put (cs := #[.int .i64 0, .int .i64 0, .int .i64 0, .int .i64 0]) ?_ 0 _ rfl; exact bq BK476.out) Try.underlying24 rfl (by kernel_rfl)) rfl ?_
      exact ⟨zR, zB⟩
     ·rw [if_neg c33] at H
      have c33b0 : (a0 == 2) = false := beq_eq_false_iff_ne.mpr c33
      have c33b1 : (a0 != 2) = true := bne_iff_ne.mpr c33
      by_cases c42 : a0 = 3
      ·rw [if_pos c42] at H
       have c42b0 : (a0 == 3) = true := beq_iff_eq.mpr c42
       have c42b1 : (a0 != 3) = false := bne_eq_false_iff_eq.mpr c42
       clear c42
       replace H := Option.bind_eq_some_iff.mp H
       obtain ⟨⟨t486, t487, t488, t489⟩, A430, H⟩ := H
       try dsimp only at H
       have A43 := Aside0.mk A430
       clear A430
       simp only [Option.some.injEq, Prod.mk.injEq] at H
       obtain ⟨rfl, rfl, rfl, rfl⟩ := H
       have hnb44 := NB474_475.out
       have hnc44 := NB475_474.out
       have hnb45 := NB474_476.out
       have hnc45 := NB476_474.out
       obtain ⟨hcz46_0, hcz46_1, hcz46_2, hcz46_3, hfz46_0, hfz46_1, hfz46_2, hfz46_3⟩ := zc4 BK474
       have hnb47 := NB475_476.out
       have hnc47 := NB476_475.out
       obtain ⟨hcz48_0, hcz48_1, hcz48_2, hcz48_3, hfz48_0, hfz48_1, hfz48_2, hfz48_3⟩ := zc4 BK475
       go_wp2_with (first | (go_at_call 52; (with_reducible refine (spec_l2Less.calls kj3 a1_0 a1_1 a1_2 a1_3 a2_0 a2_1 a2_2 a2_3 t486 t487 t488 t489 _ A43.out).mono ?_); rintro e w49 ⟨rfl, hb⟩; replace BK474 := zb BK474 hb rfl; replace BK475 := zb BK475 hb rfl; replace BK476 := zb BK476 hb rfl; replace HB := zS hb; try clear hb; obtain ⟨hcz50_0, hcz50_1, hcz50_2, hcz50_3, hfz50_0, hfz50_1, hfz50_2, hfz50_3⟩ := zc4 BK476))
       repeat (go_quiet (first | (go_at_call 52; (with_reducible refine (spec_l2Less.calls kj3 a1_0 a1_1 a1_2 a1_3 a2_0 a2_1 a2_2 a2_3 t486 t487 t488 t489 _ A43.out).mono ?_); rintro e w49 ⟨rfl, hb⟩; replace BK474 := zb BK474 hb rfl; replace BK475 := zb BK475 hb rfl; replace BK476 := zb BK476 hb rfl; replace HB := zS hb; try clear hb; obtain ⟨hcz50_0, hcz50_1, hcz50_2, hcz50_3, hfz50_0, hfz50_1, hfz50_2, hfz50_3⟩ := zc4 BK476)); try go_wp2_with (first | (go_at_call 52; (with_reducible refine (spec_l2Less.calls kj3 a1_0 a1_1 a1_2 a1_3 a2_0 a2_1 a2_2 a2_3 t486 t487 t488 t489 _ A43.out).mono ?_); rintro e w49 ⟨rfl, hb⟩; replace BK474 := zb BK474 hb rfl; replace BK475 := zb BK475 hb rfl; replace BK476 := zb BK476 hb rfl; replace HB := zS hb; try clear hb; obtain ⟨hcz50_0, hcz50_1, hcz50_2, hcz50_3, hfz50_0, hfz50_1, hfz50_2, hfz50_3⟩ := zc4 BK476)))
       refine bodyPost_ret (results_cell_row rfl _ _ gb476 24 #[.int .i64 t486, .int .i64 t487, .int .i64 t488, .int .i64 t489] (0, 0) _ rfl (by refine bq ?_; refine blk_put (cs := #[.int .i64 t486, .int .i64 t487, .int .i64 t488, .int .i64 0]) ?_ 3 _ rfl; refine bq ?_; refine blk_put (cs := #[.int .i64 t486, .int .i64 t487, .int .i64 0, .int .i64 0]) ?_ 2 _ rfl; refine bq ?_; refine blk_put (cs := #[.int .i64 t486, .int .i64 0, .int .i64 0, .int .i64 0]) ?_ 1 _ rfl; refine bq ?_; refine blk_put (cs := #[.int .i64 0, .int .i64 0, .int .i64 0, .int .i64 0]) ?_ 0 _ rfl; exact bq BK476.out) Try.underlying24 rfl (by kernel_rfl)) rfl ?_
       exact ⟨zR, zB⟩
      ·rw [if_neg c42] at H
       have c42b0 : (a0 == 3) = false := beq_eq_false_iff_ne.mpr c42
       have c42b1 : (a0 != 3) = true := bne_iff_ne.mpr c42
       by_cases c51 : a0 = 4
       ·rw [if_pos c51] at H
        have c51b0 : (a0 == 4) = true := beq_iff_eq.mpr c51
        have c51b1 : (a0 != 4) = false := bne_eq_false_iff_eq.mpr c51
        clear c51
        have HC52 := Aside0.mk H
        clear H
        go_upto_region 10 with (fail)
        repeat (go_quiet (fail); go_upto_region 10 with (fail))
        go_cut [56] (fun v56 wc => ∃ (kq : Nat) (x56_51 : Bool), v56 = .bool x56_51 ∧ Aside0 (spec_l2Of.j1 kq x56_51 a1_0 a1_1 a1_2 a1_3 a2_0 a2_1 a2_2 a2_3 = some (r1, r2, r3, r4)) ∧ Aside0 (kq ≤ kj3) ∧ Aside0 (wc.heap[gb474]? = some (.cells #[.int .i64 a1_0, .int .i64 a1_1, .int .i64 a1_2, .int .i64 a1_3] 24 (0, 0))) ∧ Aside0 (wc.heap[gb475]? = some (.cells #[.int .i64 a2_0, .int .i64 a2_1, .int .i64 a2_2, .int .i64 a2_3] 24 (0, 0))) ∧ Aside0 (wc.heap[gb476]? = some (.cells #[.int .i64 0, .int .i64 0, .int .i64 0, .int .i64 0] 24 (0, 0))) ∧ Aside0 (Below w.heap.size w wc))
        case first =>
         have H := HC52.out
         clear HC52
         by_cases c53 : a1_1 = 0
         ·rw [if_pos c53] at H
          have c53b0 : (a1_1 == 0) = true := beq_iff_eq.mpr c53
          have c53b1 : (a1_1 != 0) = false := bne_eq_false_iff_eq.mpr c53
          clear c53
          (first | rw [c53b0] | (simp only [i64_w, i32_w]; rw [c53b0]) | skip)
          have H' := Aside0.mk H
          clear H
          have hnb54 := NB474_475.out
          have hnc54 := NB475_474.out
          have hnb55 := NB474_476.out
          have hnc55 := NB476_474.out
          obtain ⟨hcz56_0, hcz56_1, hcz56_2, hcz56_3, hfz56_0, hfz56_1, hfz56_2, hfz56_3⟩ := zc4 BK474
          go_wp2
          repeat (go_quiet (fail); try go_wp2)
          go_meet
          case rel => exact ⟨_, (true), (by first | rfl | (simp; done) | (simp [*]; done)), H', ⟨by have := HJ3.out; first | omega | exact Nat.le_refl _⟩, ⟨by exact bq BK474.out⟩, ⟨by exact bq BK475.out⟩, ⟨by exact bq BK476.out⟩, ⟨zB⟩⟩
         ·rw [if_neg c53] at H
          have c53b0 : (a1_1 == 0) = false := beq_eq_false_iff_ne.mpr c53
          have c53b1 : (a1_1 != 0) = true := bne_iff_ne.mpr c53
          (first | rw [c53b0] | (simp only [i64_w, i32_w]; rw [c53b0]) | skip)
          have AC_spec_l2Top := Aside0.mk (show spec_l2Top.f = some 4294967295 from rfl)
          have H' := Aside0.mk H
          clear H
          have hnb57 := NB474_475.out
          have hnc57 := NB475_474.out
          have hnb58 := NB474_476.out
          have hnc58 := NB476_474.out
          obtain ⟨hcz59_0, hcz59_1, hcz59_2, hcz59_3, hfz59_0, hfz59_1, hfz59_2, hfz59_3⟩ := zc4 BK474
          have hnb60 := NB475_476.out
          have hnc60 := NB476_475.out
          obtain ⟨hcz61_0, hcz61_1, hcz61_2, hcz61_3, hfz61_0, hfz61_1, hfz61_2, hfz61_3⟩ := zc4 BK475
          go_wp2_with (first | (go_at_call 39; (with_reducible refine (spec_l2Top.calls  4294967295 _ AC_spec_l2Top.out).mono ?_); rintro e w' ⟨rfl, ⟨nd, rfl⟩⟩; (try first | exact ⟨rfl, _, World.drewN_drewN _ _ _⟩ | exact ⟨rfl, _, Eq.trans (World.drewN_drewN _ _ _) (congrArg (World.drewN _) (Nat.add_assoc _ _ _))⟩)))
          repeat (go_quiet (first | (go_at_call 39; (with_reducible refine (spec_l2Top.calls  4294967295 _ AC_spec_l2Top.out).mono ?_); rintro e w' ⟨rfl, ⟨nd, rfl⟩⟩; (try first | exact ⟨rfl, _, World.drewN_drewN _ _ _⟩ | exact ⟨rfl, _, Eq.trans (World.drewN_drewN _ _ _) (congrArg (World.drewN _) (Nat.add_assoc _ _ _))⟩))); try go_wp2_with (first | (go_at_call 39; (with_reducible refine (spec_l2Top.calls  4294967295 _ AC_spec_l2Top.out).mono ?_); rintro e w' ⟨rfl, ⟨nd, rfl⟩⟩; (try first | exact ⟨rfl, _, World.drewN_drewN _ _ _⟩ | exact ⟨rfl, _, Eq.trans (World.drewN_drewN _ _ _) (congrArg (World.drewN _) (Nat.add_assoc _ _ _))⟩))))
          go_meet
          case rel => exact ⟨_, (decide (a2_1 ≤ (wrap64 (Int.tdiv (4294967295 : Int) a1_1)))), (by first | rfl | (simp; done) | (simp [*]; done)), H', ⟨by have := HJ3.out; first | omega | exact Nat.le_refl _⟩, ⟨by exact bq BK474.out⟩, ⟨by exact bq BK475.out⟩, ⟨by exact bq BK476.out⟩, ⟨zB⟩⟩
        case rest =>
         clear HC52
         try clear c1
         try clear c2
         try clear p2 p2
         try clear c3
         try clear c4
         try clear c5
         try clear c6
         try clear p6
         try clear c8
         try clear c8b0
         try clear c8b1
         try clear c9
         try clear c10
         try clear c12
         try clear c14
         try clear c15
         try clear c17
         try clear c20
         try clear c21
         try clear c23
         try clear c26
         try clear c27
         try clear c27b0
         try clear c27b1
         try clear c28
         try clear c29
         try clear c31
         try clear c33
         try clear c33b0
         try clear c33b1
         try clear c35
         try clear c36
         try clear c38
         try clear c42
         try clear c42b0
         try clear c42b1
         try clear c44
         try clear c45
         try clear c47
         try clear c51
         try clear c51b0
         try clear c51b1
         try clear c53
         try clear c53b0
         try clear c53b1
         try clear c54
         try clear c55
         try clear c57
         try clear c58
         try clear c60
         try clear hcz11_0 hcz11_1 hcz11_2 hcz11_3 hfz11_0 hfz11_1 hfz11_2 hfz11_3
         try clear hcz13_0 hcz13_1 hcz13_2 hcz13_3 hfz13_0 hfz13_1 hfz13_2 hfz13_3
         try clear hcz16_0 hcz16_1 hcz16_2 hcz16_3 hfz16_0 hfz16_1 hfz16_2 hfz16_3
         try clear hcz22_0 hcz22_1 hcz22_2 hcz22_3 hfz22_0 hfz22_1 hfz22_2 hfz22_3
         try clear hcz24_0 hcz24_1 hcz24_2 hcz24_3 hfz24_0 hfz24_1 hfz24_2 hfz24_3
         try clear hcz26_0 hcz26_1 hcz26_2 hcz26_3 hfz26_0 hfz26_1 hfz26_2 hfz26_3
         try clear hcz30_0 hcz30_1 hcz30_2 hcz30_3 hfz30_0 hfz30_1 hfz30_2 hfz30_3
         try clear hcz32_0 hcz32_1 hcz32_2 hcz32_3 hfz32_0 hfz32_1 hfz32_2 hfz32_3
         try clear hcz37_0 hcz37_1 hcz37_2 hcz37_3 hfz37_0 hfz37_1 hfz37_2 hfz37_3
         try clear hcz39_0 hcz39_1 hcz39_2 hcz39_3 hfz39_0 hfz39_1 hfz39_2 hfz39_3
         try clear hcz41_0 hcz41_1 hcz41_2 hcz41_3 hfz41_0 hfz41_1 hfz41_2 hfz41_3
         try clear hcz46_0 hcz46_1 hcz46_2 hcz46_3 hfz46_0 hfz46_1 hfz46_2 hfz46_3
         try clear hcz48_0 hcz48_1 hcz48_2 hcz48_3 hfz48_0 hfz48_1 hfz48_2 hfz48_3
         try clear hcz50_0 hcz50_1 hcz50_2 hcz50_3 hfz50_0 hfz50_1 hfz50_2 hfz50_3
         try clear hcz56_0 hcz56_1 hcz56_2 hcz56_3 hfz56_0 hfz56_1 hfz56_2 hfz56_3
         try clear hcz59_0 hcz59_1 hcz59_2 hcz59_3 hfz59_0 hfz59_1 hfz59_2 hfz59_3
         try clear hcz61_0 hcz61_1 hcz61_2 hcz61_3 hfz61_0 hfz61_1 hfz61_2 hfz61_3
         obtain ⟨kq, x56_51, rfl, HA, HJ51, BK474, BK475, BK476, HB⟩ := hcut
         cases kq with
         | zero => exact absurd HA.out (by simp [spec_l2Of.j1])
         | succ kj51 =>
          have H := HA.out
          clear HA
          simp only [spec_l2Of.j1] at H
          by_cases c62 : x56_51 = true
          ·subst c62
           rw [if_pos rfl] at H
           replace H := Option.bind_eq_some_iff.mp H
           obtain ⟨⟨t490, t491, t492, t493⟩, A630, H⟩ := H
           try dsimp only at H
           have A63 := Aside0.mk A630
           clear A630
           simp only [Option.some.injEq, Prod.mk.injEq] at H
           obtain ⟨rfl, rfl, rfl, rfl⟩ := H
           have hnb64 := NB474_475.out
           have hnc64 := NB475_474.out
           have hnb65 := NB474_476.out
           have hnc65 := NB476_474.out
           obtain ⟨hcz66_0, hcz66_1, hcz66_2, hcz66_3, hfz66_0, hfz66_1, hfz66_2, hfz66_3⟩ := zc4 BK474
           have hnb67 := NB475_476.out
           have hnc67 := NB476_475.out
           obtain ⟨hcz68_0, hcz68_1, hcz68_2, hcz68_3, hfz68_0, hfz68_1, hfz68_2, hfz68_3⟩ := zc4 BK475
           go_wp2_with (first | (go_at_call 37; (with_reducible refine (spec_l2Ends.calls kj51 (wrap64 (a1_0 * a2_0)) (wrap64 (a1_1 * a2_1)) t490 t491 t492 t493 _ A63.out).mono ?_); rintro e w69 ⟨rfl, hb⟩; replace BK474 := zb BK474 hb rfl; replace BK475 := zb BK475 hb rfl; replace BK476 := zb BK476 hb rfl; replace HB := zS hb; try clear hb; obtain ⟨hcz70_0, hcz70_1, hcz70_2, hcz70_3, hfz70_0, hfz70_1, hfz70_2, hfz70_3⟩ := zc4 BK476))
           repeat (go_quiet (first | (go_at_call 37; (with_reducible refine (spec_l2Ends.calls kj51 (wrap64 (a1_0 * a2_0)) (wrap64 (a1_1 * a2_1)) t490 t491 t492 t493 _ A63.out).mono ?_); rintro e w69 ⟨rfl, hb⟩; replace BK474 := zb BK474 hb rfl; replace BK475 := zb BK475 hb rfl; replace BK476 := zb BK476 hb rfl; replace HB := zS hb; try clear hb; obtain ⟨hcz70_0, hcz70_1, hcz70_2, hcz70_3, hfz70_0, hfz70_1, hfz70_2, hfz70_3⟩ := zc4 BK476)); try go_wp2_with (first | (go_at_call 37; (with_reducible refine (spec_l2Ends.calls kj51 (wrap64 (a1_0 * a2_0)) (wrap64 (a1_1 * a2_1)) t490 t491 t492 t493 _ A63.out).mono ?_); rintro e w69 ⟨rfl, hb⟩; replace BK474 := zb BK474 hb rfl; replace BK475 := zb BK475 hb rfl; replace BK476 := zb BK476 hb rfl; replace HB := zS hb; try clear hb; obtain ⟨hcz70_0, hcz70_1, hcz70_2, hcz70_3, hfz70_0, hfz70_1, hfz70_2, hfz70_3⟩ := zc4 BK476)))
           refine bodyPost_ret (results_cell_row rfl _ _ gb476 24 #[.int .i64 t490, .int .i64 t491, .int .i64 t492, .int .i64 t493] (0, 0) _ rfl (by refine bq ?_; refine blk_put (cs := #[.int .i64 t490, .int .i64 t491, .int .i64 t492, .int .i64 0]) ?_ 3 _ rfl; refine bq ?_; refine blk_put (cs := #[.int .i64 t490, .int .i64 t491, .int .i64 0, .int .i64 0]) ?_ 2 _ rfl; refine bq ?_; refine blk_put (cs := #[.int .i64 t490, .int .i64 0, .int .i64 0, .int .i64 0]) ?_ 1 _ rfl; refine bq ?_; refine blk_put (cs := #[.int .i64 0, .int .i64 0, .int .i64 0, .int .i64 0]) ?_ 0 _ rfl; exact bq BK476.out) Try.underlying24 rfl (by kernel_rfl)) rfl ?_
           exact ⟨zR, zB⟩
          ·replace c62 := Bool.eq_false_iff.mpr c62
           subst c62
           rw [if_neg (show ¬ (false = true) by decide)] at H
           replace H := Option.bind_eq_some_iff.mp H
           obtain ⟨⟨t494, t495, t496, t497⟩, A710, H⟩ := H
           try dsimp only at H
           have A71 := Aside0.mk A710
           clear A710
           simp only [Option.some.injEq, Prod.mk.injEq] at H
           obtain ⟨rfl, rfl, rfl, rfl⟩ := H
           go_wp2_with (first | (go_at_call 36; (with_reducible refine (spec_l2All.calls  t494 t495 t496 t497 _ A71.out).mono ?_); rintro e w72 ⟨rfl, hb⟩; replace BK474 := zb BK474 hb rfl; replace BK475 := zb BK475 hb rfl; replace BK476 := zb BK476 hb rfl; replace HB := zS hb; try clear hb; have hnb73 := NB476_474.out; have hnc73 := NB474_476.out; have hnb74 := NB476_475.out; have hnc74 := NB475_476.out; obtain ⟨hcz75_0, hcz75_1, hcz75_2, hcz75_3, hfz75_0, hfz75_1, hfz75_2, hfz75_3⟩ := zc4 BK476))
           repeat (go_quiet (first | (go_at_call 36; (with_reducible refine (spec_l2All.calls  t494 t495 t496 t497 _ A71.out).mono ?_); rintro e w72 ⟨rfl, hb⟩; replace BK474 := zb BK474 hb rfl; replace BK475 := zb BK475 hb rfl; replace BK476 := zb BK476 hb rfl; replace HB := zS hb; try clear hb; have hnb73 := NB476_474.out; have hnc73 := NB474_476.out; have hnb74 := NB476_475.out; have hnc74 := NB475_476.out; obtain ⟨hcz75_0, hcz75_1, hcz75_2, hcz75_3, hfz75_0, hfz75_1, hfz75_2, hfz75_3⟩ := zc4 BK476)); try go_wp2_with (first | (go_at_call 36; (with_reducible refine (spec_l2All.calls  t494 t495 t496 t497 _ A71.out).mono ?_); rintro e w72 ⟨rfl, hb⟩; replace BK474 := zb BK474 hb rfl; replace BK475 := zb BK475 hb rfl; replace BK476 := zb BK476 hb rfl; replace HB := zS hb; try clear hb; have hnb73 := NB476_474.out; have hnc73 := NB474_476.out; have hnb74 := NB476_475.out; have hnc74 := NB475_476.out; obtain ⟨hcz75_0, hcz75_1, hcz75_2, hcz75_3, hfz75_0, hfz75_1, hfz75_2, hfz75_3⟩ := zc4 BK476)))
           refine bodyPost_ret (results_cell_row rfl _ _ gb476 24 #[.int .i64 t494, .int .i64 t495, .int .i64 t496, .int .i64 t497] (0, 0) _ rfl (by refine bq ?_; refine blk_put (cs := #[.int .i64 t494, .int .i64 t495, .int .i64 t496, .int .i64 0]) ?_ 3 _ rfl; refine bq ?_; refine blk_put (cs := #[.int .i64 t494, .int .i64 t495, .int .i64 0, .int .i64 0]) ?_ 2 _ rfl; refine bq ?_; refine blk_put (cs := #[.int .i64 t494, .int .i64 0, .int .i64 0, .int .i64 0]) ?_ 1 _ rfl; refine bq ?_; refine blk_put (cs := #[.int .i64 0, .int .i64 0, .int .i64 0, .int .i64 0]) ?_ 0 _ rfl; exact bq BK476.out) Try.underlying24 rfl (by kernel_rfl)) rfl ?_
           exact ⟨zR, zB⟩
       ·rw [if_neg c51] at H
        have c51b0 : (a0 == 4) = false := beq_eq_false_iff_ne.mpr c51
        have c51b1 : (a0 != 4) = true := bne_iff_ne.mpr c51
        replace H := Option.bind_eq_some_iff.mp H
        obtain ⟨t498, A760, H⟩ := H
        try dsimp only at H
        have A76 := Aside0.mk A760
        clear A760
        by_cases c77 : t498 = true
        ·subst c77
         rw [if_pos rfl] at H
         replace H := Option.bind_eq_some_iff.mp H
         obtain ⟨⟨t499, t500, t501, t502⟩, A780, H⟩ := H
         try dsimp only at H
         have A78 := Aside0.mk A780
         clear A780
         simp only [Option.some.injEq, Prod.mk.injEq] at H
         obtain ⟨rfl, rfl, rfl, rfl⟩ := H
         go_wp2_with (first | (go_at_call 48; (with_reducible refine (spec_l1In.calls a0 5 7 true _ A76.out).mono ?_); rintro e w' ⟨rfl, ⟨nd, rfl⟩⟩; (try first | exact ⟨rfl, _, World.drewN_drewN _ _ _⟩ | exact ⟨rfl, _, Eq.trans (World.drewN_drewN _ _ _) (congrArg (World.drewN _) (Nat.add_assoc _ _ _))⟩); have hnb79 := NB474_475.out; have hnc79 := NB475_474.out; have hnb80 := NB474_476.out; have hnc80 := NB476_474.out; obtain ⟨hcz81_0, hcz81_1, hcz81_2, hcz81_3, hfz81_0, hfz81_1, hfz81_2, hfz81_3⟩ := zc4 BK474; have hnb82 := NB475_476.out; have hnc82 := NB476_475.out; obtain ⟨hcz83_0, hcz83_1, hcz83_2, hcz83_3, hfz83_0, hfz83_1, hfz83_2, hfz83_3⟩ := zc4 BK475) | (go_at_call 53; (with_reducible refine (spec_l2Bitwise.calls kj3 a0 a1_0 a1_1 a1_2 a1_3 a2_0 a2_1 a2_2 a2_3 t499 t500 t501 t502 _ A78.out).mono ?_); rintro e w84 ⟨rfl, hb⟩; replace BK474 := zb BK474 hb rfl; replace BK475 := zb BK475 hb rfl; replace BK476 := zb BK476 hb rfl; replace HB := zS hb; try clear hb; obtain ⟨hcz85_0, hcz85_1, hcz85_2, hcz85_3, hfz85_0, hfz85_1, hfz85_2, hfz85_3⟩ := zc4 BK476))
         repeat (go_quiet (first | (go_at_call 48; (with_reducible refine (spec_l1In.calls a0 5 7 true _ A76.out).mono ?_); rintro e w' ⟨rfl, ⟨nd, rfl⟩⟩; (try first | exact ⟨rfl, _, World.drewN_drewN _ _ _⟩ | exact ⟨rfl, _, Eq.trans (World.drewN_drewN _ _ _) (congrArg (World.drewN _) (Nat.add_assoc _ _ _))⟩); have hnb79 := NB474_475.out; have hnc79 := NB475_474.out; have hnb80 := NB474_476.out; have hnc80 := NB476_474.out; obtain ⟨hcz81_0, hcz81_1, hcz81_2, hcz81_3, hfz81_0, hfz81_1, hfz81_2, hfz81_3⟩ := zc4 BK474; have hnb82 := NB475_476.out; have hnc82 := NB476_475.out; obtain ⟨hcz83_0, hcz83_1, hcz83_2, hcz83_3, hfz83_0, hfz83_1, hfz83_2, hfz83_3⟩ := zc4 BK475) | (go_at_call 53; (with_reducible refine (spec_l2Bitwise.calls kj3 a0 a1_0 a1_1 a1_2 a1_3 a2_0 a2_1 a2_2 a2_3 t499 t500 t501 t502 _ A78.out).mono ?_); rintro e w84 ⟨rfl, hb⟩; replace BK474 := zb BK474 hb rfl; replace BK475 := zb BK475 hb rfl; replace BK476 := zb BK476 hb rfl; replace HB := zS hb; try clear hb; obtain ⟨hcz85_0, hcz85_1, hcz85_2, hcz85_3, hfz85_0, hfz85_1, hfz85_2, hfz85_3⟩ := zc4 BK476)); try go_wp2_with (first | (go_at_call 48; (with_reducible refine (spec_l1In.calls a0 5 7 true _ A76.out).mono ?_); rintro e w' ⟨rfl, ⟨nd, rfl⟩⟩; (try first | exact ⟨rfl, _, World.drewN_drewN _ _ _⟩ | exact ⟨rfl, _, Eq.trans (World.drewN_drewN _ _ _) (congrArg (World.drewN _) (Nat.add_assoc _ _ _))⟩); have hnb79 := NB474_475.out; have hnc79 := NB475_474.out; have hnb80 := NB474_476.out; have hnc80 := NB476_474.out; obtain ⟨hcz81_0, hcz81_1, hcz81_2, hcz81_3, hfz81_0, hfz81_1, hfz81_2, hfz81_3⟩ := zc4 BK474; have hnb82 := NB475_476.out; have hnc82 := NB476_475.out; obtain ⟨hcz83_0, hcz83_1, hcz83_2, hcz83_3, hfz83_0, hfz83_1, hfz83_2, hfz83_3⟩ := zc4 BK475) | (go_at_call 53; (with_reducible refine (spec_l2Bitwise.calls kj3 a0 a1_0 a1_1 a1_2 a1_3 a2_0 a2_1 a2_2 a2_3 t499 t500 t501 t502 _ A78.out).mono ?_); rintro e w84 ⟨rfl, hb⟩; replace BK474 := zb BK474 hb rfl; replace BK475 := zb BK475 hb rfl; replace BK476 := zb BK476 hb rfl; replace HB := zS hb; try clear hb; obtain ⟨hcz85_0, hcz85_1, hcz85_2, hcz85_3, hfz85_0, hfz85_1, hfz85_2, hfz85_3⟩ := zc4 BK476)))
         refine bodyPost_ret (results_cell_row rfl _ _ gb476 24 #[.int .i64 t499, .int .i64 t500, .int .i64 t501, .int .i64 t502] (0, 0) _ rfl (by refine bq ?_; refine blk_put (cs := #[.int .i64 t499, .int .i64 t500, .int .i64 t501, .int .i64 0]) ?_ 3 _ rfl; refine bq ?_; refine blk_put (cs := #[.int .i64 t499, .int .i64 t500, .int .i64 0, .int .i64 0]) ?_ 2 _ rfl; refine bq ?_; refine blk_put (cs := #[.int .i64 t499, .int .i64 0, .int .i64 0, .int .i64 0]) ?_ 1 _ rfl; refine bq ?_; refine blk_put (cs := #[.int .i64 0, .int .i64 0, .int .i64 0, .int .i64 0]) ?_ 0 _ rfl; exact bq BK476.out) Try.underlying24 rfl (by kernel_rfl)) rfl ?_
         exact ⟨zR, zB⟩
        ·replace c77 := Bool.eq_false_iff.mpr c77
         subst c77
         rw [if_neg (show ¬ (false = true) by decide)] at H
         replace H := Option.bind_eq_some_iff.mp H
         obtain ⟨t503, A860, H⟩ := H
         try dsimp only at H
         have A86 := Aside0.mk A860
         clear A860
         by_cases c87 : t503 = true
         ·subst c87
          rw [if_pos rfl] at H
          by_cases c88 : a2_0 = a2_1
          ·rw [if_pos c88] at H
           have c88b0 : (a2_0 == a2_1) = true := beq_iff_eq.mpr c88
           have c88b1 : (a2_0 != a2_1) = false := bne_eq_false_iff_eq.mpr c88
           clear c88
           replace H := Option.bind_eq_some_iff.mp H
           obtain ⟨⟨t504, t505, t506, t507⟩, A890, H⟩ := H
           try dsimp only at H
           have A89 := Aside0.mk A890
           clear A890
           simp only [Option.some.injEq, Prod.mk.injEq] at H
           obtain ⟨rfl, rfl, rfl, rfl⟩ := H
           go_wp2_with (first | (go_at_call 48; (with_reducible refine (spec_l1In.calls a0 5 7 false _ A76.out).mono ?_); rintro e w' ⟨rfl, ⟨nd, rfl⟩⟩; (try first | exact ⟨rfl, _, World.drewN_drewN _ _ _⟩ | exact ⟨rfl, _, Eq.trans (World.drewN_drewN _ _ _) (congrArg (World.drewN _) (Nat.add_assoc _ _ _))⟩)) | (go_at_call 48; (with_reducible refine (spec_l1In.calls a0 8 9 true _ A86.out).mono ?_); rintro e w' ⟨rfl, ⟨nd, rfl⟩⟩; (try first | exact ⟨rfl, _, World.drewN_drewN _ _ _⟩ | exact ⟨rfl, _, Eq.trans (World.drewN_drewN _ _ _) (congrArg (World.drewN _) (Nat.add_assoc _ _ _))⟩); have hnb90 := NB475_474.out; have hnc90 := NB474_475.out; have hnb91 := NB475_476.out; have hnc91 := NB476_475.out; obtain ⟨hcz92_0, hcz92_1, hcz92_2, hcz92_3, hfz92_0, hfz92_1, hfz92_2, hfz92_3⟩ := zc4 BK475; have hnb93 := NB474_476.out; have hnc93 := NB476_474.out; obtain ⟨hcz94_0, hcz94_1, hcz94_2, hcz94_3, hfz94_0, hfz94_1, hfz94_2, hfz94_3⟩ := zc4 BK474) | (go_at_call 54; (with_reducible refine (spec_l2Shift.calls kj3 a0 a1_0 a1_1 a1_2 a1_3 (Go.bits .and .i64 a2_0 31) t504 t505 t506 t507 _ A89.out).mono ?_); rintro e w95 ⟨rfl, hb⟩; replace BK474 := zb BK474 hb rfl; replace BK475 := zb BK475 hb rfl; replace BK476 := zb BK476 hb rfl; replace HB := zS hb; try clear hb; obtain ⟨hcz96_0, hcz96_1, hcz96_2, hcz96_3, hfz96_0, hfz96_1, hfz96_2, hfz96_3⟩ := zc4 BK476))
           repeat (go_quiet (first | (go_at_call 48; (with_reducible refine (spec_l1In.calls a0 5 7 false _ A76.out).mono ?_); rintro e w' ⟨rfl, ⟨nd, rfl⟩⟩; (try first | exact ⟨rfl, _, World.drewN_drewN _ _ _⟩ | exact ⟨rfl, _, Eq.trans (World.drewN_drewN _ _ _) (congrArg (World.drewN _) (Nat.add_assoc _ _ _))⟩)) | (go_at_call 48; (with_reducible refine (spec_l1In.calls a0 8 9 true _ A86.out).mono ?_); rintro e w' ⟨rfl, ⟨nd, rfl⟩⟩; (try first | exact ⟨rfl, _, World.drewN_drewN _ _ _⟩ | exact ⟨rfl, _, Eq.trans (World.drewN_drewN _ _ _) (congrArg (World.drewN _) (Nat.add_assoc _ _ _))⟩); have hnb90 := NB475_474.out; have hnc90 := NB474_475.out; have hnb91 := NB475_476.out; have hnc91 := NB476_475.out; obtain ⟨hcz92_0, hcz92_1, hcz92_2, hcz92_3, hfz92_0, hfz92_1, hfz92_2, hfz92_3⟩ := zc4 BK475; have hnb93 := NB474_476.out; have hnc93 := NB476_474.out; obtain ⟨hcz94_0, hcz94_1, hcz94_2, hcz94_3, hfz94_0, hfz94_1, hfz94_2, hfz94_3⟩ := zc4 BK474) | (go_at_call 54; (with_reducible refine (spec_l2Shift.calls kj3 a0 a1_0 a1_1 a1_2 a1_3 (Go.bits .and .i64 a2_0 31) t504 t505 t506 t507 _ A89.out).mono ?_); rintro e w95 ⟨rfl, hb⟩; replace BK474 := zb BK474 hb rfl; replace BK475 := zb BK475 hb rfl; replace BK476 := zb BK476 hb rfl; replace HB := zS hb; try clear hb; obtain ⟨hcz96_0, hcz96_1, hcz96_2, hcz96_3, hfz96_0, hfz96_1, hfz96_2, hfz96_3⟩ := zc4 BK476)); try go_wp2_with (first | (go_at_call 48; (with_reducible refine (spec_l1In.calls a0 5 7 false _ A76.out).mono ?_); rintro e w' ⟨rfl, ⟨nd, rfl⟩⟩; (try first | exact ⟨rfl, _, World.drewN_drewN _ _ _⟩ | exact ⟨rfl, _, Eq.trans (World.drewN_drewN _ _ _) (congrArg (World.drewN _) (Nat.add_assoc _ _ _))⟩)) | (go_at_call 48; (with_reducible refine (spec_l1In.calls a0 8 9 true _ A86.out).mono ?_); rintro e w' ⟨rfl, ⟨nd, rfl⟩⟩; (try first | exact ⟨rfl, _, World.drewN_drewN _ _ _⟩ | exact ⟨rfl, _, Eq.trans (World.drewN_drewN _ _ _) (congrArg (World.drewN _) (Nat.add_assoc _ _ _))⟩); have hnb90 := NB475_474.out; have hnc90 := NB474_475.out; have hnb91 := NB475_476.out; have hnc91 := NB476_475.out; obtain ⟨hcz92_0, hcz92_1, hcz92_2, hcz92_3, hfz92_0, hfz92_1, hfz92_2, hfz92_3⟩ := zc4 BK475; have hnb93 := NB474_476.out; have hnc93 := NB476_474.out; obtain ⟨hcz94_0, hcz94_1, hcz94_2, hcz94_3, hfz94_0, hfz94_1, hfz94_2, hfz94_3⟩ := zc4 BK474) | (go_at_call 54; (with_reducible refine (spec_l2Shift.calls kj3 a0 a1_0 a1_1 a1_2 a1_3 (Go.bits .and .i64 a2_0 31) t504 t505 t506 t507 _ A89.out).mono ?_); rintro e w95 ⟨rfl, hb⟩; replace BK474 := zb BK474 hb rfl; replace BK475 := zb BK475 hb rfl; replace BK476 := zb BK476 hb rfl; replace HB := zS hb; try clear hb; obtain ⟨hcz96_0, hcz96_1, hcz96_2, hcz96_3, hfz96_0, hfz96_1, hfz96_2, hfz96_3⟩ := zc4 BK476)))
           refine bodyPost_ret (results_cell_row rfl _ _ gb476 24 #[.int .i64 t504, .int .i64 t505, .int .i64 t506, .int .i64 t507] (0, 0) _ rfl (by refine bq ?_; refine blk_put (cs := #[.int .i64 t504, .int .i64 t505, .int .i64 t506, .int .i64 0]) ?_ 3 _ rfl; refine bq ?_; refine blk_put (cs := #[.int .i64 t504, .int .i64 t505, .int .i64 0, .int .i64 0]) ?_ 2 _ rfl; refine bq ?_; refine blk_put (cs := #[.int .i64 t504, .int .i64 0, .int .i64 0, .int .i64 0]) ?_ 1 _ rfl; refine bq ?_; refine blk_put (cs := #[.int .i64 0, .int .i64 0, .int .i64 0, .int .i64 0]) ?_ 0 _ rfl; exact bq BK476.out) Try.underlying24 rfl (by kernel_rfl)) rfl ?_
           exact ⟨zR, zB⟩
          ·rw [if_neg c88] at H
           have c88b0 : (a2_0 == a2_1) = false := beq_eq_false_iff_ne.mpr c88
           have c88b1 : (a2_0 != a2_1) = true := bne_iff_ne.mpr c88
           by_cases c97 : a0 = 9
           ·rw [if_pos c97] at H
            have c97b0 : (a0 == 9) = true := beq_iff_eq.mpr c97
            have c97b1 : (a0 != 9) = false := bne_eq_false_iff_eq.mpr c97
            clear c97
            replace H := Option.bind_eq_some_iff.mp H
            obtain ⟨⟨t508, t509, t510, t511⟩, A980, H⟩ := H
            try dsimp only at H
            have A98 := Aside0.mk A980
            clear A980
            simp only [Option.some.injEq, Prod.mk.injEq] at H
            obtain ⟨rfl, rfl, rfl, rfl⟩ := H
            go_wp2_with (first | (go_at_call 48; (with_reducible refine (spec_l1In.calls a0 5 7 false _ A76.out).mono ?_); rintro e w' ⟨rfl, ⟨nd, rfl⟩⟩; (try first | exact ⟨rfl, _, World.drewN_drewN _ _ _⟩ | exact ⟨rfl, _, Eq.trans (World.drewN_drewN _ _ _) (congrArg (World.drewN _) (Nat.add_assoc _ _ _))⟩)) | (go_at_call 48; (with_reducible refine (spec_l1In.calls a0 8 9 true _ A86.out).mono ?_); rintro e w' ⟨rfl, ⟨nd, rfl⟩⟩; (try first | exact ⟨rfl, _, World.drewN_drewN _ _ _⟩ | exact ⟨rfl, _, Eq.trans (World.drewN_drewN _ _ _) (congrArg (World.drewN _) (Nat.add_assoc _ _ _))⟩); have hnb99 := NB475_474.out; have hnc99 := NB474_475.out; have hnb100 := NB475_476.out; have hnc100 := NB476_475.out; obtain ⟨hcz101_0, hcz101_1, hcz101_2, hcz101_3, hfz101_0, hfz101_1, hfz101_2, hfz101_3⟩ := zc4 BK475; have hnb102 := NB474_476.out; have hnc102 := NB476_474.out; obtain ⟨hcz103_0, hcz103_1, hcz103_2, hcz103_3, hfz103_0, hfz103_1, hfz103_2, hfz103_3⟩ := zc4 BK474) | (go_at_call 37; (with_reducible refine (spec_l2Ends.calls kj3 0 a1_1 t508 t509 t510 t511 _ A98.out).mono ?_); rintro e w104 ⟨rfl, hb⟩; replace BK474 := zb BK474 hb rfl; replace BK475 := zb BK475 hb rfl; replace BK476 := zb BK476 hb rfl; replace HB := zS hb; try clear hb; obtain ⟨hcz105_0, hcz105_1, hcz105_2, hcz105_3, hfz105_0, hfz105_1, hfz105_2, hfz105_3⟩ := zc4 BK476))
            repeat (go_quiet (first | (go_at_call 48; (with_reducible refine (spec_l1In.calls a0 5 7 false _ A76.out).mono ?_); rintro e w' ⟨rfl, ⟨nd, rfl⟩⟩; (try first | exact ⟨rfl, _, World.drewN_drewN _ _ _⟩ | exact ⟨rfl, _, Eq.trans (World.drewN_drewN _ _ _) (congrArg (World.drewN _) (Nat.add_assoc _ _ _))⟩)) | (go_at_call 48; (with_reducible refine (spec_l1In.calls a0 8 9 true _ A86.out).mono ?_); rintro e w' ⟨rfl, ⟨nd, rfl⟩⟩; (try first | exact ⟨rfl, _, World.drewN_drewN _ _ _⟩ | exact ⟨rfl, _, Eq.trans (World.drewN_drewN _ _ _) (congrArg (World.drewN _) (Nat.add_assoc _ _ _))⟩); have hnb99 := NB475_474.out; have hnc99 := NB474_475.out; have hnb100 := NB475_476.out; have hnc100 := NB476_475.out; obtain ⟨hcz101_0, hcz101_1, hcz101_2, hcz101_3, hfz101_0, hfz101_1, hfz101_2, hfz101_3⟩ := zc4 BK475; have hnb102 := NB474_476.out; have hnc102 := NB476_474.out; obtain ⟨hcz103_0, hcz103_1, hcz103_2, hcz103_3, hfz103_0, hfz103_1, hfz103_2, hfz103_3⟩ := zc4 BK474) | (go_at_call 37; (with_reducible refine (spec_l2Ends.calls kj3 0 a1_1 t508 t509 t510 t511 _ A98.out).mono ?_); rintro e w104 ⟨rfl, hb⟩; replace BK474 := zb BK474 hb rfl; replace BK475 := zb BK475 hb rfl; replace BK476 := zb BK476 hb rfl; replace HB := zS hb; try clear hb; obtain ⟨hcz105_0, hcz105_1, hcz105_2, hcz105_3, hfz105_0, hfz105_1, hfz105_2, hfz105_3⟩ := zc4 BK476)); try go_wp2_with (first | (go_at_call 48; (with_reducible refine (spec_l1In.calls a0 5 7 false _ A76.out).mono ?_); rintro e w' ⟨rfl, ⟨nd, rfl⟩⟩; (try first | exact ⟨rfl, _, World.drewN_drewN _ _ _⟩ | exact ⟨rfl, _, Eq.trans (World.drewN_drewN _ _ _) (congrArg (World.drewN _) (Nat.add_assoc _ _ _))⟩)) | (go_at_call 48; (with_reducible refine (spec_l1In.calls a0 8 9 true _ A86.out).mono ?_); rintro e w' ⟨rfl, ⟨nd, rfl⟩⟩; (try first | exact ⟨rfl, _, World.drewN_drewN _ _ _⟩ | exact ⟨rfl, _, Eq.trans (World.drewN_drewN _ _ _) (congrArg (World.drewN _) (Nat.add_assoc _ _ _))⟩); have hnb99 := NB475_474.out; have hnc99 := NB474_475.out; have hnb100 := NB475_476.out; have hnc100 := NB476_475.out; obtain ⟨hcz101_0, hcz101_1, hcz101_2, hcz101_3, hfz101_0, hfz101_1, hfz101_2, hfz101_3⟩ := zc4 BK475; have hnb102 := NB474_476.out; have hnc102 := NB476_474.out; obtain ⟨hcz103_0, hcz103_1, hcz103_2, hcz103_3, hfz103_0, hfz103_1, hfz103_2, hfz103_3⟩ := zc4 BK474) | (go_at_call 37; (with_reducible refine (spec_l2Ends.calls kj3 0 a1_1 t508 t509 t510 t511 _ A98.out).mono ?_); rintro e w104 ⟨rfl, hb⟩; replace BK474 := zb BK474 hb rfl; replace BK475 := zb BK475 hb rfl; replace BK476 := zb BK476 hb rfl; replace HB := zS hb; try clear hb; obtain ⟨hcz105_0, hcz105_1, hcz105_2, hcz105_3, hfz105_0, hfz105_1, hfz105_2, hfz105_3⟩ := zc4 BK476)))
            refine bodyPost_ret (results_cell_row rfl _ _ gb476 24 #[.int .i64 t508, .int .i64 t509, .int .i64 t510, .int .i64 t511] (0, 0) _ rfl (by refine bq ?_; refine blk_put (cs := #[.int .i64 t508, .int .i64 t509, .int .i64 t510, .int .i64 0]) ?_ 3 _ rfl; refine bq ?_; refine blk_put (cs := #[.int .i64 t508, .int .i64 t509, .int .i64 0, .int .i64 0]) ?_ 2 _ rfl; refine bq ?_; refine blk_put (cs := #[.int .i64 t508, .int .i64 0, .int .i64 0, .int .i64 0]) ?_ 1 _ rfl; refine bq ?_; refine blk_put (cs := #[.int .i64 0, .int .i64 0, .int .i64 0, .int .i64 0]) ?_ 0 _ rfl; exact bq BK476.out) Try.underlying24 rfl (by kernel_rfl)) rfl ?_
            exact ⟨zR, zB⟩
           ·rw [if_neg c97] at H
            have c97b0 : (a0 == 9) = false := beq_eq_false_iff_ne.mpr c97
            have c97b1 : (a0 != 9) = true := bne_iff_ne.mpr c97
            replace H := Option.bind_eq_some_iff.mp H
            obtain ⟨⟨t512, t513, t514, t515⟩, A1060, H⟩ := H
            try dsimp only at H
            have A106 := Aside0.mk A1060
            clear A1060
            simp only [Option.some.injEq, Prod.mk.injEq] at H
            obtain ⟨rfl, rfl, rfl, rfl⟩ := H
            go_wp2_with (first | (go_at_call 48; (with_reducible refine (spec_l1In.calls a0 5 7 false _ A76.out).mono ?_); rintro e w' ⟨rfl, ⟨nd, rfl⟩⟩; (try first | exact ⟨rfl, _, World.drewN_drewN _ _ _⟩ | exact ⟨rfl, _, Eq.trans (World.drewN_drewN _ _ _) (congrArg (World.drewN _) (Nat.add_assoc _ _ _))⟩)) | (go_at_call 48; (with_reducible refine (spec_l1In.calls a0 8 9 true _ A86.out).mono ?_); rintro e w' ⟨rfl, ⟨nd, rfl⟩⟩; (try first | exact ⟨rfl, _, World.drewN_drewN _ _ _⟩ | exact ⟨rfl, _, Eq.trans (World.drewN_drewN _ _ _) (congrArg (World.drewN _) (Nat.add_assoc _ _ _))⟩); have hnb107 := NB475_474.out; have hnc107 := NB474_475.out; have hnb108 := NB475_476.out; have hnc108 := NB476_475.out; obtain ⟨hcz109_0, hcz109_1, hcz109_2, hcz109_3, hfz109_0, hfz109_1, hfz109_2, hfz109_3⟩ := zc4 BK475) | (go_at_call 36; (with_reducible refine (spec_l2All.calls  t512 t513 t514 t515 _ A106.out).mono ?_); rintro e w110 ⟨rfl, hb⟩; replace BK474 := zb BK474 hb rfl; replace BK475 := zb BK475 hb rfl; replace BK476 := zb BK476 hb rfl; replace HB := zS hb; try clear hb; have hnb111 := NB476_474.out; have hnc111 := NB474_476.out; obtain ⟨hcz112_0, hcz112_1, hcz112_2, hcz112_3, hfz112_0, hfz112_1, hfz112_2, hfz112_3⟩ := zc4 BK476))
            repeat (go_quiet (first | (go_at_call 48; (with_reducible refine (spec_l1In.calls a0 5 7 false _ A76.out).mono ?_); rintro e w' ⟨rfl, ⟨nd, rfl⟩⟩; (try first | exact ⟨rfl, _, World.drewN_drewN _ _ _⟩ | exact ⟨rfl, _, Eq.trans (World.drewN_drewN _ _ _) (congrArg (World.drewN _) (Nat.add_assoc _ _ _))⟩)) | (go_at_call 48; (with_reducible refine (spec_l1In.calls a0 8 9 true _ A86.out).mono ?_); rintro e w' ⟨rfl, ⟨nd, rfl⟩⟩; (try first | exact ⟨rfl, _, World.drewN_drewN _ _ _⟩ | exact ⟨rfl, _, Eq.trans (World.drewN_drewN _ _ _) (congrArg (World.drewN _) (Nat.add_assoc _ _ _))⟩); have hnb107 := NB475_474.out; have hnc107 := NB474_475.out; have hnb108 := NB475_476.out; have hnc108 := NB476_475.out; obtain ⟨hcz109_0, hcz109_1, hcz109_2, hcz109_3, hfz109_0, hfz109_1, hfz109_2, hfz109_3⟩ := zc4 BK475) | (go_at_call 36; (with_reducible refine (spec_l2All.calls  t512 t513 t514 t515 _ A106.out).mono ?_); rintro e w110 ⟨rfl, hb⟩; replace BK474 := zb BK474 hb rfl; replace BK475 := zb BK475 hb rfl; replace BK476 := zb BK476 hb rfl; replace HB := zS hb; try clear hb; have hnb111 := NB476_474.out; have hnc111 := NB474_476.out; obtain ⟨hcz112_0, hcz112_1, hcz112_2, hcz112_3, hfz112_0, hfz112_1, hfz112_2, hfz112_3⟩ := zc4 BK476)); try go_wp2_with (first | (go_at_call 48; (with_reducible refine (spec_l1In.calls a0 5 7 false _ A76.out).mono ?_); rintro e w' ⟨rfl, ⟨nd, rfl⟩⟩; (try first | exact ⟨rfl, _, World.drewN_drewN _ _ _⟩ | exact ⟨rfl, _, Eq.trans (World.drewN_drewN _ _ _) (congrArg (World.drewN _) (Nat.add_assoc _ _ _))⟩)) | (go_at_call 48; (with_reducible refine (spec_l1In.calls a0 8 9 true _ A86.out).mono ?_); rintro e w' ⟨rfl, ⟨nd, rfl⟩⟩; (try first | exact ⟨rfl, _, World.drewN_drewN _ _ _⟩ | exact ⟨rfl, _, Eq.trans (World.drewN_drewN _ _ _) (congrArg (World.drewN _) (Nat.add_assoc _ _ _))⟩); have hnb107 := NB475_474.out; have hnc107 := NB474_475.out; have hnb108 := NB475_476.out; have hnc108 := NB476_475.out; obtain ⟨hcz109_0, hcz109_1, hcz109_2, hcz109_3, hfz109_0, hfz109_1, hfz109_2, hfz109_3⟩ := zc4 BK475) | (go_at_call 36; (with_reducible refine (spec_l2All.calls  t512 t513 t514 t515 _ A106.out).mono ?_); rintro e w110 ⟨rfl, hb⟩; replace BK474 := zb BK474 hb rfl; replace BK475 := zb BK475 hb rfl; replace BK476 := zb BK476 hb rfl; replace HB := zS hb; try clear hb; have hnb111 := NB476_474.out; have hnc111 := NB474_476.out; obtain ⟨hcz112_0, hcz112_1, hcz112_2, hcz112_3, hfz112_0, hfz112_1, hfz112_2, hfz112_3⟩ := zc4 BK476)))
            refine bodyPost_ret (results_cell_row rfl _ _ gb476 24 #[.int .i64 t512, .int .i64 t513, .int .i64 t514, .int .i64 t515] (0, 0) _ rfl (by refine bq ?_; refine blk_put (cs := #[.int .i64 t512, .int .i64 t513, .int .i64 t514, .int .i64 0]) ?_ 3 _ rfl; refine bq ?_; refine blk_put (cs := #[.int .i64 t512, .int .i64 t513, .int .i64 0, .int .i64 0]) ?_ 2 _ rfl; refine bq ?_; refine blk_put (cs := #[.int .i64 t512, .int .i64 0, .int .i64 0, .int .i64 0]) ?_ 1 _ rfl; refine bq ?_; refine blk_put (cs := #[.int .i64 0, .int .i64 0, .int .i64 0, .int .i64 0]) ?_ 0 _ rfl; exact bq BK476.out) Try.underlying24 rfl (by kernel_rfl)) rfl ?_
            exact ⟨zR, zB⟩
         ·replace c87 := Bool.eq_false_iff.mpr c87
          subst c87
          rw [if_neg (show ¬ (false = true) by decide)] at H
          replace H := Option.bind_eq_some_iff.mp H
          obtain ⟨⟨t516, t517, t518, t519⟩, A1130, H⟩ := H
          try dsimp only at H
          have A113 := Aside0.mk A1130
          clear A1130
          simp only [Option.some.injEq, Prod.mk.injEq] at H
          obtain ⟨rfl, rfl, rfl, rfl⟩ := H
          go_wp2_with (first | (go_at_call 48; (with_reducible refine (spec_l1In.calls a0 5 7 false _ A76.out).mono ?_); rintro e w' ⟨rfl, ⟨nd, rfl⟩⟩; (try first | exact ⟨rfl, _, World.drewN_drewN _ _ _⟩ | exact ⟨rfl, _, Eq.trans (World.drewN_drewN _ _ _) (congrArg (World.drewN _) (Nat.add_assoc _ _ _))⟩)) | (go_at_call 48; (with_reducible refine (spec_l1In.calls a0 8 9 false _ A86.out).mono ?_); rintro e w' ⟨rfl, ⟨nd, rfl⟩⟩; (try first | exact ⟨rfl, _, World.drewN_drewN _ _ _⟩ | exact ⟨rfl, _, Eq.trans (World.drewN_drewN _ _ _) (congrArg (World.drewN _) (Nat.add_assoc _ _ _))⟩); have hnb114 := NB474_475.out; have hnc114 := NB475_474.out; have hnb115 := NB474_476.out; have hnc115 := NB476_474.out; obtain ⟨hcz116_0, hcz116_1, hcz116_2, hcz116_3, hfz116_0, hfz116_1, hfz116_2, hfz116_3⟩ := zc4 BK474; have hnb117 := NB475_476.out; have hnc117 := NB476_475.out; obtain ⟨hcz118_0, hcz118_1, hcz118_2, hcz118_3, hfz118_0, hfz118_1, hfz118_2, hfz118_3⟩ := zc4 BK475) | (go_at_call 55; (with_reducible refine (spec_l2Parts.calls kj3 a0 a1_0 a1_1 a1_2 a1_3 a2_0 a2_1 a2_2 a2_3 t516 t517 t518 t519 _ A113.out).mono ?_); rintro e w119 ⟨rfl, hb⟩; replace BK474 := zb BK474 hb rfl; replace BK475 := zb BK475 hb rfl; replace BK476 := zb BK476 hb rfl; replace HB := zS hb; try clear hb; obtain ⟨hcz120_0, hcz120_1, hcz120_2, hcz120_3, hfz120_0, hfz120_1, hfz120_2, hfz120_3⟩ := zc4 BK476))
          repeat (go_quiet (first | (go_at_call 48; (with_reducible refine (spec_l1In.calls a0 5 7 false _ A76.out).mono ?_); rintro e w' ⟨rfl, ⟨nd, rfl⟩⟩; (try first | exact ⟨rfl, _, World.drewN_drewN _ _ _⟩ | exact ⟨rfl, _, Eq.trans (World.drewN_drewN _ _ _) (congrArg (World.drewN _) (Nat.add_assoc _ _ _))⟩)) | (go_at_call 48; (with_reducible refine (spec_l1In.calls a0 8 9 false _ A86.out).mono ?_); rintro e w' ⟨rfl, ⟨nd, rfl⟩⟩; (try first | exact ⟨rfl, _, World.drewN_drewN _ _ _⟩ | exact ⟨rfl, _, Eq.trans (World.drewN_drewN _ _ _) (congrArg (World.drewN _) (Nat.add_assoc _ _ _))⟩); have hnb114 := NB474_475.out; have hnc114 := NB475_474.out; have hnb115 := NB474_476.out; have hnc115 := NB476_474.out; obtain ⟨hcz116_0, hcz116_1, hcz116_2, hcz116_3, hfz116_0, hfz116_1, hfz116_2, hfz116_3⟩ := zc4 BK474; have hnb117 := NB475_476.out; have hnc117 := NB476_475.out; obtain ⟨hcz118_0, hcz118_1, hcz118_2, hcz118_3, hfz118_0, hfz118_1, hfz118_2, hfz118_3⟩ := zc4 BK475) | (go_at_call 55; (with_reducible refine (spec_l2Parts.calls kj3 a0 a1_0 a1_1 a1_2 a1_3 a2_0 a2_1 a2_2 a2_3 t516 t517 t518 t519 _ A113.out).mono ?_); rintro e w119 ⟨rfl, hb⟩; replace BK474 := zb BK474 hb rfl; replace BK475 := zb BK475 hb rfl; replace BK476 := zb BK476 hb rfl; replace HB := zS hb; try clear hb; obtain ⟨hcz120_0, hcz120_1, hcz120_2, hcz120_3, hfz120_0, hfz120_1, hfz120_2, hfz120_3⟩ := zc4 BK476)); try go_wp2_with (first | (go_at_call 48; (with_reducible refine (spec_l1In.calls a0 5 7 false _ A76.out).mono ?_); rintro e w' ⟨rfl, ⟨nd, rfl⟩⟩; (try first | exact ⟨rfl, _, World.drewN_drewN _ _ _⟩ | exact ⟨rfl, _, Eq.trans (World.drewN_drewN _ _ _) (congrArg (World.drewN _) (Nat.add_assoc _ _ _))⟩)) | (go_at_call 48; (with_reducible refine (spec_l1In.calls a0 8 9 false _ A86.out).mono ?_); rintro e w' ⟨rfl, ⟨nd, rfl⟩⟩; (try first | exact ⟨rfl, _, World.drewN_drewN _ _ _⟩ | exact ⟨rfl, _, Eq.trans (World.drewN_drewN _ _ _) (congrArg (World.drewN _) (Nat.add_assoc _ _ _))⟩); have hnb114 := NB474_475.out; have hnc114 := NB475_474.out; have hnb115 := NB474_476.out; have hnc115 := NB476_474.out; obtain ⟨hcz116_0, hcz116_1, hcz116_2, hcz116_3, hfz116_0, hfz116_1, hfz116_2, hfz116_3⟩ := zc4 BK474; have hnb117 := NB475_476.out; have hnc117 := NB476_475.out; obtain ⟨hcz118_0, hcz118_1, hcz118_2, hcz118_3, hfz118_0, hfz118_1, hfz118_2, hfz118_3⟩ := zc4 BK475) | (go_at_call 55; (with_reducible refine (spec_l2Parts.calls kj3 a0 a1_0 a1_1 a1_2 a1_3 a2_0 a2_1 a2_2 a2_3 t516 t517 t518 t519 _ A113.out).mono ?_); rintro e w119 ⟨rfl, hb⟩; replace BK474 := zb BK474 hb rfl; replace BK475 := zb BK475 hb rfl; replace BK476 := zb BK476 hb rfl; replace HB := zS hb; try clear hb; obtain ⟨hcz120_0, hcz120_1, hcz120_2, hcz120_3, hfz120_0, hfz120_1, hfz120_2, hfz120_3⟩ := zc4 BK476)))
          refine bodyPost_ret (results_cell_row rfl _ _ gb476 24 #[.int .i64 t516, .int .i64 t517, .int .i64 t518, .int .i64 t519] (0, 0) _ rfl (by refine bq ?_; refine blk_put (cs := #[.int .i64 t516, .int .i64 t517, .int .i64 t518, .int .i64 0]) ?_ 3 _ rfl; refine bq ?_; refine blk_put (cs := #[.int .i64 t516, .int .i64 t517, .int .i64 0, .int .i64 0]) ?_ 2 _ rfl; refine bq ?_; refine blk_put (cs := #[.int .i64 t516, .int .i64 0, .int .i64 0, .int .i64 0]) ?_ 1 _ rfl; refine bq ?_; refine blk_put (cs := #[.int .i64 0, .int .i64 0, .int .i64 0, .int .i64 0]) ?_ 0 _ rfl; exact bq BK476.out) Try.underlying24 rfl (by kernel_rfl)) rfl ?_
          exact ⟨zR, zB⟩

end Go.Proofs.Ytdhijcfohbkpoaa.Q
