/- The machine's side of this seat's laws: Go functions as Lean functions, and their contracts. By a program of this work over the kit's print. -/
import Derived.Test.YtjengfiaphgjbaaQ0
import Derived.Test.YtjengfiaphgjbaaQ8
namespace Go.Proofs.Ytjengfiaphgjbaa.Q
open Go.RowKit Go.Proofs.YtjengfiaphgjbaaW.PrintWords Go.Proofs.YtjengfiaphgjbaaW.PrintLast Go.Proofs.YtjengfiaphgjbaaW.PrintMore
attribute [local go_sem] max2_int min2_int max_two min_two max_three min_three max_four min_four Go.Proofs.YtjengfiaphgjbaaN.not_i64 Go.Proofs.YtjengfiaphgjbaaN.isSome_setCell   -- for this text's walks alone
set_option linter.unusedVariables false
set_option linter.unusedSimpArgs false

/-! ### impl_meet: function 29 -/
def impl_meet.j0 : Nat → Bool → Int → Int → Int → Int → Option (Int × Int × Int × Int × Bool)
 | 0, _, _, _, _, _ => none
 | k + 1, x44, x293000, x293001, x293002, x293003 => if x44 = true then ((impl_noRange.f).bind fun bt294 => (some (bt294.1, bt294.2.1, bt294.2.2.1, bt294.2.2.2, false))) else ((impl_Range_tidy.f x293000 x293001 x293002 x293003).bind fun bt298 => (some (bt298.1, bt298.2.1, bt298.2.2.1, bt298.2.2.2, true)))
def impl_meet.f (k : Nat) (a0_0 : Int) (a0_1 : Int) (a0_2 : Int) (a0_3 : Int) (a1_0 : Int) (a1_1 : Int) (a1_2 : Int) (a1_3 : Int) : Option (Int × Int × Int × Int × Bool) := if (Go.bits .andNot .i64 (Go.bits .xor .i64 a0_2 a1_2) (Go.bits .or .i64 a0_3 a1_3)) = 0 then ((impl_Range_some.f k (mx a0_0 a1_0) (mn a0_1 a1_1) (Go.bits .or .i64 a0_2 a1_2) (Go.bits .and .i64 a0_3 a1_3)).bind fun t293 => (impl_meet.j0 k (!t293) (mx a0_0 a1_0) (mn a0_1 a1_1) (Go.bits .or .i64 a0_2 a1_2) (Go.bits .and .i64 a0_3 a1_3))) else (impl_meet.j0 k true (mx a0_0 a1_0) (mn a0_1 a1_1) (Go.bits .or .i64 a0_2 a1_2) (Go.bits .and .i64 a0_3 a1_3))


set_option maxHeartbeats 8000000 in
set_option maxRecDepth 100000 in
theorem impl_meet.calls (k : Nat) (a0_0 : Int) (a0_1 : Int) (a0_2 : Int) (a0_3 : Int) (a1_0 : Int) (a1_1 : Int) (a1_2 : Int) (a1_3 : Int) (r1 : Int) (r2 : Int) (r3 : Int) (r4 : Int) (r5 : Bool) (w : World) (h : impl_meet.f k a0_0 a0_1 a0_2 a0_3 a1_0 a1_1 a1_2 a1_3 = some (r1, r2, r3, r4, r5)) :
  Calls Try.prog 29 #[.agg #[.int .i64 a0_0, .int .i64 a0_1, .int .i64 a0_2, .int .i64 a0_3], .agg #[.int .i64 a1_0, .int .i64 a1_1, .int .i64 a1_2, .int .i64 a1_3]] w fun e w' => e = .returned (.tuple #[.agg #[.int .i64 r1, .int .i64 r2, .int .i64 r3, .int .i64 r4], .bool r5]) ∧ Below w.heap.size w w' := by
 have hu24 := Try.underlying24
 have HB := Aside0.mk (Below.refl w.heap.size w)
 have H : (if (Go.bits .andNot .i64 (Go.bits .xor .i64 a0_2 a1_2) (Go.bits .or .i64 a0_3 a1_3)) = 0 then ((impl_Range_some.f k (mx a0_0 a1_0) (mn a0_1 a1_1) (Go.bits .or .i64 a0_2 a1_2) (Go.bits .and .i64 a0_3 a1_3)).bind fun t293 => (impl_meet.j0 k (!t293) (mx a0_0 a1_0) (mn a0_1 a1_1) (Go.bits .or .i64 a0_2 a1_2) (Go.bits .and .i64 a0_3 a1_3))) else (impl_meet.j0 k true (mx a0_0 a1_0) (mn a0_1 a1_1) (Go.bits .or .i64 a0_2 a1_2) (Go.bits .and .i64 a0_3 a1_3))) = some (r1, r2, r3, r4, r5) := h
 clear h
 obtain ⟨ji3, hji3⟩ : ∃ j_ : Int, (mx a0_0 a1_0) = j_ := ⟨_, rfl⟩
 replace H : (if (Go.bits .andNot .i64 (Go.bits .xor .i64 a0_2 a1_2) (Go.bits .or .i64 a0_3 a1_3)) = 0 then ((impl_Range_some.f k (ji3) (mn a0_1 a1_1) (Go.bits .or .i64 a0_2 a1_2) (Go.bits .and .i64 a0_3 a1_3)).bind fun t293 => (impl_meet.j0 k (!t293) ji3 (mn a0_1 a1_1) (Go.bits .or .i64 a0_2 a1_2) (Go.bits .and .i64 a0_3 a1_3))) else (impl_meet.j0 k true ji3 (mn a0_1 a1_1) (Go.bits .or .i64 a0_2 a1_2) (Go.bits .and .i64 a0_3 a1_3))) = some (r1, r2, r3, r4, r5) := by first | (rw [hji3] at H; exact H) | (simp only [hji3] at H ⊢; exact H)
 have hji3_ : (if a0_0 < a1_0 then a1_0 else a0_0) = ji3 := hji3
 obtain ⟨ji4, hji4⟩ : ∃ j_ : Int, (mn a0_1 a1_1) = j_ := ⟨_, rfl⟩
 replace H : (if (Go.bits .andNot .i64 (Go.bits .xor .i64 a0_2 a1_2) (Go.bits .or .i64 a0_3 a1_3)) = 0 then ((impl_Range_some.f k (ji3) (ji4) (Go.bits .or .i64 a0_2 a1_2) (Go.bits .and .i64 a0_3 a1_3)).bind fun t293 => (impl_meet.j0 k (!t293) ji3 ji4 (Go.bits .or .i64 a0_2 a1_2) (Go.bits .and .i64 a0_3 a1_3))) else (impl_meet.j0 k true ji3 ji4 (Go.bits .or .i64 a0_2 a1_2) (Go.bits .and .i64 a0_3 a1_3))) = some (r1, r2, r3, r4, r5) := by first | (rw [hji4] at H; exact H) | (simp only [hji4] at H ⊢; exact H)
 have hji4_ : (if a1_1 < a0_1 then a1_1 else a0_1) = ji4 := hji4
 have HC5 := Aside0.mk H
 clear H
 go_enter Try.func29, Try.ntmps29
 go_upto_region 2 with (first | ((with_reducible refine gate_dst (N := 2) rfl ?_); refine be 2 #[.int .i64 a0_0, .int .i64 a0_1, .int .i64 a0_2, .int .i64 a0_3] 24 ?_; intro gb289 hg w6 hbox hb; have BK289 := Aside0.mk hbox; have GW289 := zW hg; replace HB := zS hb; have GE289 := GW289; clear hb hbox hg) | ((with_reducible refine gate_dst (N := 3) rfl ?_); refine be 3 #[.int .i64 a1_0, .int .i64 a1_1, .int .i64 a1_2, .int .i64 a1_3] 24 ?_; intro gb290 hg w7 hbox hb; have BK290 := Aside0.mk hbox; have GW290 := zW hg; replace HB := zS hb; have GE290 := GW290; have NB289_290 := zl BK289 hg rfl; have NB290_289 := zg BK289 hg rfl; replace BK289 := zb BK289 hb rfl; clear hb hbox hg) | ((with_reducible refine gate_dst (N := 4) rfl ?_); refine be 4 #[.int .i64 0, .int .i64 0, .int .i64 0, .int .i64 0] 24 ?_; intro gb291 hg w8 hbox hb; have BK291 := Aside0.mk hbox; have GW291 := zW hg; replace HB := zS hb; have GE291 := GW291; have NB289_291 := zl BK289 hg rfl; have NB291_289 := zg BK289 hg rfl; replace BK289 := zb BK289 hb rfl; have NB290_291 := zl BK290 hg rfl; have NB291_290 := zg BK290 hg rfl; replace BK290 := zb BK290 hb rfl; clear hb hbox hg; have hnb9 := NB289_290.out; have hnc9 := NB290_289.out; have hnb10 := NB289_291.out; have hnc10 := NB291_289.out; obtain ⟨hcz11_0, hcz11_1, hcz11_2, hcz11_3, hfz11_0, hfz11_1, hfz11_2, hfz11_3⟩ := zc4 BK289; have hnb12 := NB290_291.out; have hnc12 := NB291_290.out; obtain ⟨hcz13_0, hcz13_1, hcz13_2, hcz13_3, hfz13_0, hfz13_1, hfz13_2, hfz13_3⟩ := zc4 BK290) | ((with_reducible refine gate_dst (N := 6) rfl ?_); refine be 6 #[.int .i64 0, .int .i64 0, .int .i64 0, .int .i64 0] 24 ?_; intro gb292 hg w14 hbox hb; have BK292 := Aside0.mk hbox; have GW292 := zW hg; replace HB := zS hb; have GE292 := GW292; have NB289_292 := zl BK289 hg rfl; have NB292_289 := zg BK289 hg rfl; replace BK289 := zb BK289 hb rfl; have NB290_292 := zl BK290 hg rfl; have NB292_290 := zg BK290 hg rfl; replace BK290 := zb BK290 hb rfl; have NB291_292 := zl BK291 hg rfl; have NB292_291 := zg BK291 hg rfl; replace BK291 := zb BK291 hb rfl; clear hb hbox hg; have hnb15 := NB292_289.out; have hnc15 := NB289_292.out; have hnb16 := NB292_290.out; have hnc16 := NB290_292.out; have hnb17 := NB292_291.out; have hnc17 := NB291_292.out; obtain ⟨hcz18_0, hcz18_1, hcz18_2, hcz18_3, hfz18_0, hfz18_1, hfz18_2, hfz18_3⟩ := zc4 BK292))
 (try simp only [Act.put, List.setIfInBounds_toArray, List.set_cons_zero, List.set_cons_succ])
 go_cut [44] (fun v44 wc => ∃ (kq : Nat) (x44_4 : Bool), v44 = .bool x44_4 ∧ Aside0 (impl_meet.j0 kq x44_4 ji3 ji4 (Go.bits .or .i64 a0_2 a1_2) (Go.bits .and .i64 a0_3 a1_3) = some (r1, r2, r3, r4, r5)) ∧ Aside0 (kq ≤ k) ∧ Aside0 (wc.heap[gb289]? = some (.cells #[.int .i64 a0_0, .int .i64 a0_1, .int .i64 a0_2, .int .i64 a0_3] 24 (0, 0))) ∧ Aside0 (wc.heap[gb290]? = some (.cells #[.int .i64 a1_0, .int .i64 a1_1, .int .i64 a1_2, .int .i64 a1_3] 24 (0, 0))) ∧ Aside0 (wc.heap[gb291]? = some (.cells #[.int .i64 0, .int .i64 0, .int .i64 0, .int .i64 0] 24 (0, 0))) ∧ Aside0 (wc.heap[gb292]? = some (.cells #[.int .i64 ji3, .int .i64 ji4, .int .i64 (Go.bits .or .i64 a0_2 a1_2), .int .i64 (Go.bits .and .i64 a0_3 a1_3)] 24 (0, 0))) ∧ Aside0 (Below w.heap.size w wc))
 case first =>
  have H := HC5.out
  clear HC5
  by_cases c19 : (Go.bits .andNot .i64 (Go.bits .xor .i64 a0_2 a1_2) (Go.bits .or .i64 a0_3 a1_3)) = 0
  ·rw [if_pos c19] at H
   have c19b0 : ((Go.bits .andNot .i64 (Go.bits .xor .i64 a0_2 a1_2) (Go.bits .or .i64 a0_3 a1_3)) == 0) = true := beq_iff_eq.mpr c19
   have c19b1 : ((Go.bits .andNot .i64 (Go.bits .xor .i64 a0_2 a1_2) (Go.bits .or .i64 a0_3 a1_3)) != 0) = false := bne_eq_false_iff_eq.mpr c19
   clear c19
   (first | rw [c19b0] | (simp only [i64_w, i32_w]; rw [c19b0]) | skip)
   replace H := Option.bind_eq_some_iff.mp H
   obtain ⟨t293, A200, H⟩ := H
   try dsimp only at H
   have A20 := Aside0.mk A200
   clear A200
   have H' := Aside0.mk H
   clear H
   have hnb21 := NB289_290.out
   have hnc21 := NB290_289.out
   have hnb22 := NB289_291.out
   have hnc22 := NB291_289.out
   have hnb23 := NB289_292.out
   have hnc23 := NB292_289.out
   obtain ⟨hcz24_0, hcz24_1, hcz24_2, hcz24_3, hfz24_0, hfz24_1, hfz24_2, hfz24_3⟩ := zc4 BK289
   have hnb25 := NB290_291.out
   have hnc25 := NB291_290.out
   have hnb26 := NB290_292.out
   have hnc26 := NB292_290.out
   obtain ⟨hcz27_0, hcz27_1, hcz27_2, hcz27_3, hfz27_0, hfz27_1, hfz27_2, hfz27_3⟩ := zc4 BK290
   have hnb28 := NB292_291.out
   have hnc28 := NB291_292.out
   obtain ⟨hcz29_0, hcz29_1, hcz29_2, hcz29_3, hfz29_0, hfz29_1, hfz29_2, hfz29_3⟩ := zc4 BK292
   go_wp2_with (first | (go_at_call 14; (with_reducible refine (impl_Range_some.calls k ji3 ji4 (Go.bits .or .i64 a0_2 a1_2) (Go.bits .and .i64 a0_3 a1_3) t293 _ A20.out).mono ?_); rintro e w30 ⟨rfl, hb⟩; replace BK289 := Aside0.mk (blk_below (g := gb289) (o := .cells #[.int .i64 a0_0, .int .i64 a0_1, .int .i64 a0_2, .int .i64 a0_3] 24 (0, 0)) (by refine fq ?_ NB289_292.out; refine fq ?_ NB289_292.out; refine fq ?_ NB289_292.out; refine fq ?_ NB289_292.out; exact bq BK289.out) hb); replace BK290 := Aside0.mk (blk_below (g := gb290) (o := .cells #[.int .i64 a1_0, .int .i64 a1_1, .int .i64 a1_2, .int .i64 a1_3] 24 (0, 0)) (by refine fq ?_ NB290_292.out; refine fq ?_ NB290_292.out; refine fq ?_ NB290_292.out; refine fq ?_ NB290_292.out; exact bq BK290.out) hb); replace BK291 := Aside0.mk (blk_below (g := gb291) (o := .cells #[.int .i64 0, .int .i64 0, .int .i64 0, .int .i64 0] 24 (0, 0)) (by refine fq ?_ NB291_292.out; refine fq ?_ NB291_292.out; refine fq ?_ NB291_292.out; refine fq ?_ NB291_292.out; exact bq BK291.out) hb); replace BK292 := Aside0.mk (blk_below (g := gb292) (o := .cells #[.int .i64 ji3, .int .i64 ji4, .int .i64 (Go.bits .or .i64 a0_2 a1_2), .int .i64 (Go.bits .and .i64 a0_3 a1_3)] 24 (0, 0)) (by refine bq ?_; refine blk_put (cs := #[.int .i64 ji3, .int .i64 ji4, .int .i64 (Go.bits .or .i64 a0_2 a1_2), .int .i64 0]) ?_ 3 _ rfl; refine bq ?_; refine blk_put (cs := #[.int .i64 ji3, .int .i64 ji4, .int .i64 0, .int .i64 0]) ?_ 2 _ rfl; refine bq ?_; refine blk_put (cs := #[.int .i64 ji3, .int .i64 0, .int .i64 0, .int .i64 0]) ?_ 1 _ rfl; refine bq ?_; refine blk_put (cs := #[.int .i64 0, .int .i64 0, .int .i64 0, .int .i64 0]) ?_ 0 _ rfl; exact bq BK292.out) hb); replace HB := zS hb; try clear hb))
   go_meet
   case rel => exact ⟨_, (!t293), (by first | rfl | (simp; done) | (simp [*]; done)), H', ⟨by first | omega | exact Nat.le_refl _⟩, ⟨by exact bq BK289.out⟩, ⟨by exact bq BK290.out⟩, ⟨by exact bq BK291.out⟩, ⟨by exact bq BK292.out⟩, ⟨zB⟩⟩
  ·rw [if_neg c19] at H
   have c19b0 : ((Go.bits .andNot .i64 (Go.bits .xor .i64 a0_2 a1_2) (Go.bits .or .i64 a0_3 a1_3)) == 0) = false := beq_eq_false_iff_ne.mpr c19
   have c19b1 : ((Go.bits .andNot .i64 (Go.bits .xor .i64 a0_2 a1_2) (Go.bits .or .i64 a0_3 a1_3)) != 0) = true := bne_iff_ne.mpr c19
   (first | rw [c19b0] | (simp only [i64_w, i32_w]; rw [c19b0]) | skip)
   have H' := Aside0.mk H
   clear H
   have hnb31 := NB289_290.out
   have hnc31 := NB290_289.out
   have hnb32 := NB289_291.out
   have hnc32 := NB291_289.out
   have hnb33 := NB289_292.out
   have hnc33 := NB292_289.out
   obtain ⟨hcz34_0, hcz34_1, hcz34_2, hcz34_3, hfz34_0, hfz34_1, hfz34_2, hfz34_3⟩ := zc4 BK289
   have hnb35 := NB290_291.out
   have hnc35 := NB291_290.out
   have hnb36 := NB290_292.out
   have hnc36 := NB292_290.out
   obtain ⟨hcz37_0, hcz37_1, hcz37_2, hcz37_3, hfz37_0, hfz37_1, hfz37_2, hfz37_3⟩ := zc4 BK290
   go_wp2
   go_meet
   case rel => exact ⟨_, (true), (by first | rfl | (simp; done) | (simp [*]; done)), H', ⟨by first | omega | exact Nat.le_refl _⟩, ⟨by refine fq ?_ NB289_292.out; refine fq ?_ NB289_292.out; refine fq ?_ NB289_292.out; refine fq ?_ NB289_292.out; exact bq BK289.out⟩, ⟨by refine fq ?_ NB290_292.out; refine fq ?_ NB290_292.out; refine fq ?_ NB290_292.out; refine fq ?_ NB290_292.out; exact bq BK290.out⟩, ⟨by refine fq ?_ NB291_292.out; refine fq ?_ NB291_292.out; refine fq ?_ NB291_292.out; refine fq ?_ NB291_292.out; exact bq BK291.out⟩, ⟨by refine bq ?_; refine blk_put (cs := #[.int .i64 ji3, .int .i64 ji4, .int .i64 (Go.bits .or .i64 a0_2 a1_2), .int .i64 0]) ?_ 3 _ rfl; refine bq ?_; refine blk_put (cs := #[.int .i64 ji3, .int .i64 ji4, .int .i64 0, .int .i64 0]) ?_ 2 _ rfl; refine bq ?_; refine blk_put (cs := #[.int .i64 ji3, .int .i64 0, .int .i64 0, .int .i64 0]) ?_ 1 _ rfl; refine bq ?_; refine blk_put (cs := #[.int .i64 0, .int .i64 0, .int .i64 0, .int .i64 0]) ?_ 0 _ rfl; exact bq BK292.out⟩, ⟨zB⟩⟩
 case rest =>
  clear HC5
  try clear c1
  try clear c2
  try clear p2
  try clear c3
  try clear c9
  try clear c10
  try clear c12
  try clear c15
  try clear c16
  try clear c17
  try clear c19
  try clear c19b0
  try clear c19b1
  try clear c21
  try clear c22
  try clear c23
  try clear c25
  try clear c26
  try clear c28
  try clear c29
  try clear c31
  try clear c32
  try clear c33
  try clear c35
  try clear c36
  try clear hcz11_0 hcz11_1 hcz11_2 hcz11_3 hfz11_0 hfz11_1 hfz11_2 hfz11_3
  try clear hcz13_0 hcz13_1 hcz13_2 hcz13_3 hfz13_0 hfz13_1 hfz13_2 hfz13_3
  try clear hcz18_0 hcz18_1 hcz18_2 hcz18_3 hfz18_0 hfz18_1 hfz18_2 hfz18_3
  try clear hcz24_0 hcz24_1 hcz24_2 hcz24_3 hfz24_0 hfz24_1 hfz24_2 hfz24_3
  try clear hcz27_0 hcz27_1 hcz27_2 hcz27_3 hfz27_0 hfz27_1 hfz27_2 hfz27_3
  try clear hcz29_0 hcz29_1 hcz29_2 hcz29_3 hfz29_0 hfz29_1 hfz29_2 hfz29_3
  try clear hcz34_0 hcz34_1 hcz34_2 hcz34_3 hfz34_0 hfz34_1 hfz34_2 hfz34_3
  try clear hcz37_0 hcz37_1 hcz37_2 hcz37_3 hfz37_0 hfz37_1 hfz37_2 hfz37_3
  obtain ⟨kq, x44_4, rfl, HA, HJ4, BK289, BK290, BK291, BK292, HB⟩ := hcut
  cases kq with
  | zero => exact absurd HA.out (by simp [impl_meet.j0])
  | succ kj4 =>
   have H := HA.out
   clear HA
   simp only [impl_meet.j0] at H
   by_cases c38 : x44_4 = true
   ·subst c38
    rw [if_pos rfl] at H
    replace H := Option.bind_eq_some_iff.mp H
    obtain ⟨⟨t294, t295, t296, t297⟩, A390, H⟩ := H
    try dsimp only at H
    have A39 := Aside0.mk A390
    clear A390
    simp only [Option.some.injEq, Prod.mk.injEq] at H
    obtain ⟨rfl, rfl, rfl, rfl, rfl⟩ := H
    go_wp2_with (first | ((with_reducible refine gate_callee (f := 15) rfl ?_); refine gl 45 Try.func15 #[] ?_; (with_reducible refine (impl_noRange.calls  t294 t295 t296 t297 _ A39.out).mono ?_); rintro e w40 ⟨rfl, hb⟩; refine ⟨_, rfl, ?_⟩; replace BK289 := zb BK289 hb rfl; replace BK290 := zb BK290 hb rfl; replace BK291 := zb BK291 hb rfl; replace BK292 := zb BK292 hb rfl; replace HB := zS hb; try clear hb; have hnb41 := NB291_289.out; have hnc41 := NB289_291.out; have hnb42 := NB291_290.out; have hnc42 := NB290_291.out; have hnb43 := NB291_292.out; have hnc43 := NB292_291.out; obtain ⟨hcz44_0, hcz44_1, hcz44_2, hcz44_3, hfz44_0, hfz44_1, hfz44_2, hfz44_3⟩ := zc4 BK291))
    refine bodyPost_ret (results_ct rfl _ _ gb291 24 #[.int .i64 t294, .int .i64 t295, .int .i64 t296, .int .i64 t297] (0, 0) _ rfl (by refine bq ?_; refine blk_put (cs := #[.int .i64 t294, .int .i64 t295, .int .i64 t296, .int .i64 0]) ?_ 3 _ rfl; refine bq ?_; refine blk_put (cs := #[.int .i64 t294, .int .i64 t295, .int .i64 0, .int .i64 0]) ?_ 2 _ rfl; refine bq ?_; refine blk_put (cs := #[.int .i64 t294, .int .i64 0, .int .i64 0, .int .i64 0]) ?_ 1 _ rfl; refine bq ?_; refine blk_put (cs := #[.int .i64 0, .int .i64 0, .int .i64 0, .int .i64 0]) ?_ 0 _ rfl; exact bq BK291.out) Try.underlying24 rfl (by kernel_rfl)) rfl ?_
    exact ⟨by first | rfl | (simp [errW_none, errW_some] <;> rfl) | (simp only [← hji3, ← hji4]; first | rfl | (simp [errW_none, errW_some] <;> rfl)) | (simp [*, errW_none, errW_some] <;> rfl), zB⟩
   ·replace c38 := Bool.eq_false_iff.mpr c38
    subst c38
    rw [if_neg (show ¬ (false = true) by decide)] at H
    replace H := Option.bind_eq_some_iff.mp H
    obtain ⟨⟨t298, t299, t300, t301⟩, A450, H⟩ := H
    try dsimp only at H
    have A45 := Aside0.mk A450
    clear A450
    simp only [Option.some.injEq, Prod.mk.injEq] at H
    obtain ⟨rfl, rfl, rfl, rfl, rfl⟩ := H
    have hnb46 := NB292_289.out
    have hnc46 := NB289_292.out
    have hnb47 := NB292_290.out
    have hnc47 := NB290_292.out
    have hnb48 := NB292_291.out
    have hnc48 := NB291_292.out
    obtain ⟨hcz49_0, hcz49_1, hcz49_2, hcz49_3, hfz49_0, hfz49_1, hfz49_2, hfz49_3⟩ := zc4 BK292
    go_wp2_with (first | ((with_reducible refine gate_callee (f := 27) rfl ?_); refine goesL_ (some 47) rfl rfl Try.func27 (by kernel_rfl) rfl #[.agg #[.int .i64 ji3, .int .i64 ji4, .int .i64 (Go.bits .or .i64 a0_2 a1_2), .int .i64 (Go.bits .and .i64 a0_3 a1_3)]] rfl (by (try simp only [List.map_toArray, List.map_cons, List.map_nil]); first | done | (simp only [hji3, hji4]; rfl) | rfl | (simp only [List.length_drop, List.length_take]; rfl)) ?_; (with_reducible refine (impl_Range_tidy.calls ji3 ji4 (Go.bits .or .i64 a0_2 a1_2) (Go.bits .and .i64 a0_3 a1_3) t298 t299 t300 t301 _ A45.out).mono ?_); rintro e w50 ⟨rfl, hb⟩; refine ⟨_, rfl, ?_⟩; replace BK289 := zb BK289 hb rfl; replace BK290 := zb BK290 hb rfl; replace BK291 := zb BK291 hb rfl; replace BK292 := zb BK292 hb rfl; replace HB := zS hb; try clear hb; have hnb51 := NB291_289.out; have hnc51 := NB289_291.out; have hnb52 := NB291_290.out; have hnc52 := NB290_291.out; obtain ⟨hcz53_0, hcz53_1, hcz53_2, hcz53_3, hfz53_0, hfz53_1, hfz53_2, hfz53_3⟩ := zc4 BK291))
    refine bodyPost_ret (results_ct rfl _ _ gb291 24 #[.int .i64 t298, .int .i64 t299, .int .i64 t300, .int .i64 t301] (0, 0) _ rfl (by refine bq ?_; refine blk_put (cs := #[.int .i64 t298, .int .i64 t299, .int .i64 t300, .int .i64 0]) ?_ 3 _ rfl; refine bq ?_; refine blk_put (cs := #[.int .i64 t298, .int .i64 t299, .int .i64 0, .int .i64 0]) ?_ 2 _ rfl; refine bq ?_; refine blk_put (cs := #[.int .i64 t298, .int .i64 0, .int .i64 0, .int .i64 0]) ?_ 1 _ rfl; refine bq ?_; refine blk_put (cs := #[.int .i64 0, .int .i64 0, .int .i64 0, .int .i64 0]) ?_ 0 _ rfl; exact bq BK291.out) Try.underlying24 rfl (by kernel_rfl)) rfl ?_
    exact ⟨by first | rfl | (simp [errW_none, errW_some] <;> rfl) | (simp only [← hji3, ← hji4]; first | rfl | (simp [errW_none, errW_some] <;> rfl)) | (simp [*, errW_none, errW_some] <;> rfl), zB⟩

/-! ### impl_Range_but: function 30 -/
mutual
def impl_Range_but.j0 : Nat → Int → Int → Int → Int → Int → Int → Int → Int → Int → Option (Int × Int × Int × Int × Bool)
 | 0, _, _, _, _, _, _, _, _, _ => none
 | k + 1, x6, x303000, x303001, x303002, x303003, x306000, x306001, x306002, x306003 => if x303001 = x6 then (impl_Range_but.j1 k x306000 (wrap64 (x306001 - 1)) x306002 x306003) else (impl_Range_but.j1 k x306000 x306001 x306002 x306003)
def impl_Range_but.j1 : Nat → Int → Int → Int → Int → Option (Int × Int × Int × Int × Bool)
 | 0, _, _, _, _ => none
 | k + 1, x306000, x306001, x306002, x306003 => (impl_Range_some.f k x306000 x306001 x306002 x306003).bind fun t306 => (if t306 = true then ((impl_Range_tidy.f x306000 x306001 x306002 x306003).bind fun bt311 => (some (bt311.1, bt311.2.1, bt311.2.2.1, bt311.2.2.2, true))) else ((impl_noRange.f).bind fun bt307 => (some (bt307.1, bt307.2.1, bt307.2.2.1, bt307.2.2.2, false))))
end
def impl_Range_but.f (k : Nat) (a0_0 : Int) (a0_1 : Int) (a0_2 : Int) (a0_3 : Int) (a1_0 : Int) (a1_1 : Int) (a1_2 : Int) (a1_3 : Int) : Option (Int × Int × Int × Int × Bool) := if a1_0 = a1_1 then (if a0_0 = a1_0 then (impl_Range_but.j0 k a1_0 a0_0 a0_1 a0_2 a0_3 (wrap64 (a0_0 + 1)) a0_1 a0_2 a0_3) else (impl_Range_but.j0 k a1_0 a0_0 a0_1 a0_2 a0_3 a0_0 a0_1 a0_2 a0_3)) else (some (a0_0, a0_1, a0_2, a0_3, true))


set_option maxHeartbeats 8000000 in
set_option maxRecDepth 100000 in
theorem impl_Range_but.calls (k : Nat) (a0_0 : Int) (a0_1 : Int) (a0_2 : Int) (a0_3 : Int) (a1_0 : Int) (a1_1 : Int) (a1_2 : Int) (a1_3 : Int) (r1 : Int) (r2 : Int) (r3 : Int) (r4 : Int) (r5 : Bool) (w : World) (h : impl_Range_but.f k a0_0 a0_1 a0_2 a0_3 a1_0 a1_1 a1_2 a1_3 = some (r1, r2, r3, r4, r5)) :
  Calls Try.prog 30 #[.agg #[.int .i64 a0_0, .int .i64 a0_1, .int .i64 a0_2, .int .i64 a0_3], .agg #[.int .i64 a1_0, .int .i64 a1_1, .int .i64 a1_2, .int .i64 a1_3]] w fun e w' => e = .returned (.tuple #[.agg #[.int .i64 r1, .int .i64 r2, .int .i64 r3, .int .i64 r4], .bool r5]) ∧ Below w.heap.size w w' := by
 have hu24 := Try.underlying24
 have HB := Aside0.mk (Below.refl w.heap.size w)
 have H : (if a1_0 = a1_1 then (if a0_0 = a1_0 then (impl_Range_but.j0 k a1_0 a0_0 a0_1 a0_2 a0_3 (wrap64 (a0_0 + 1)) a0_1 a0_2 a0_3) else (impl_Range_but.j0 k a1_0 a0_0 a0_1 a0_2 a0_3 a0_0 a0_1 a0_2 a0_3)) else (some (a0_0, a0_1, a0_2, a0_3, true))) = some (r1, r2, r3, r4, r5) := h
 clear h
 by_cases c3 : a1_0 = a1_1
 ·rw [if_pos c3] at H
  have c3b0 : (a1_0 == a1_1) = true := beq_iff_eq.mpr c3
  have c3b1 : (a1_0 != a1_1) = false := bne_eq_false_iff_eq.mpr c3
  clear c3
  have HC4 := Aside0.mk H
  clear H
  go_enter Try.func30, Try.ntmps30
  go_upto_if 20 with (first | ((with_reducible refine gate_dst (N := 2) rfl ?_); refine be 2 #[.int .i64 a0_0, .int .i64 a0_1, .int .i64 a0_2, .int .i64 a0_3] 24 ?_; intro gb302 hg w5 hbox hb; have BK302 := Aside0.mk hbox; have GW302 := zW hg; replace HB := zS hb; have GE302 := GW302; clear hb hbox hg) | ((with_reducible refine gate_dst (N := 3) rfl ?_); refine be 3 #[.int .i64 a1_0, .int .i64 a1_1, .int .i64 a1_2, .int .i64 a1_3] 24 ?_; intro gb303 hg w6 hbox hb; have BK303 := Aside0.mk hbox; have GW303 := zW hg; replace HB := zS hb; have GE303 := GW303; have NB302_303 := zl BK302 hg rfl; have NB303_302 := zg BK302 hg rfl; replace BK302 := zb BK302 hb rfl; clear hb hbox hg) | ((with_reducible refine gate_dst (N := 4) rfl ?_); refine be 4 #[.int .i64 0, .int .i64 0, .int .i64 0, .int .i64 0] 24 ?_; intro gb304 hg w7 hbox hb; have BK304 := Aside0.mk hbox; have GW304 := zW hg; replace HB := zS hb; have GE304 := GW304; have NB302_304 := zl BK302 hg rfl; have NB304_302 := zg BK302 hg rfl; replace BK302 := zb BK302 hb rfl; have NB303_304 := zl BK303 hg rfl; have NB304_303 := zg BK303 hg rfl; replace BK303 := zb BK303 hb rfl; clear hb hbox hg; have hnb8 := NB303_302.out; have hnc8 := NB302_303.out; have hnb9 := NB303_304.out; have hnc9 := NB304_303.out; obtain ⟨hcz10_0, hcz10_1, hcz10_2, hcz10_3, hfz10_0, hfz10_1, hfz10_2, hfz10_3⟩ := zc4 BK303; have hnb11 := NB302_304.out; have hnc11 := NB304_302.out; obtain ⟨hcz12_0, hcz12_1, hcz12_2, hcz12_3, hfz12_0, hfz12_1, hfz12_2, hfz12_3⟩ := zc4 BK302) | ((with_reducible refine gate_dst (N := 7) rfl ?_); refine be 7 #[.int .i64 0, .int .i64 0, .int .i64 0, .int .i64 0] 24 ?_; intro gb305 hg w13 hbox hb; have BK305 := Aside0.mk hbox; have GW305 := zW hg; replace HB := zS hb; have GE305 := GW305; have NB302_305 := zl BK302 hg rfl; have NB305_302 := zg BK302 hg rfl; replace BK302 := zb BK302 hb rfl; have NB303_305 := zl BK303 hg rfl; have NB305_303 := zg BK303 hg rfl; replace BK303 := zb BK303 hb rfl; have NB304_305 := zl BK304 hg rfl; have NB305_304 := zg BK304 hg rfl; replace BK304 := zb BK304 hb rfl; clear hb hbox hg; have hnb14 := NB305_302.out; have hnc14 := NB302_305.out; have hnb15 := NB305_303.out; have hnc15 := NB303_305.out; have hnb16 := NB305_304.out; have hnc16 := NB304_305.out; obtain ⟨hcz17_0, hcz17_1, hcz17_2, hcz17_3, hfz17_0, hfz17_1, hfz17_2, hfz17_3⟩ := zc4 BK305; obtain ⟨hcz18_0, hcz18_1, hcz18_2, hcz18_3, hfz18_0, hfz18_1, hfz18_2, hfz18_3⟩ := zc4 BK302))
  (try simp only [Act.put, List.setIfInBounds_toArray, List.set_cons_zero, List.set_cons_succ])
  go_cut [] (fun wc => ∃ (kq : Nat) (x306000_3 : Int), Aside0 (impl_Range_but.j0 kq a1_0 a0_0 a0_1 a0_2 a0_3 x306000_3 a0_1 a0_2 a0_3 = some (r1, r2, r3, r4, r5)) ∧ Aside0 (kq ≤ k) ∧ Aside0 (wc.heap[gb302]? = some (.cells #[.int .i64 a0_0, .int .i64 a0_1, .int .i64 a0_2, .int .i64 a0_3] 24 (0, 0))) ∧ Aside0 (wc.heap[gb303]? = some (.cells #[.int .i64 a1_0, .int .i64 a1_1, .int .i64 a1_2, .int .i64 a1_3] 24 (0, 0))) ∧ Aside0 (wc.heap[gb304]? = some (.cells #[.int .i64 0, .int .i64 0, .int .i64 0, .int .i64 0] 24 (0, 0))) ∧ Aside0 (wc.heap[gb305]? = some (.cells #[.int .i64 x306000_3, .int .i64 a0_1, .int .i64 a0_2, .int .i64 a0_3] 24 (0, 0))) ∧ Aside0 (Below w.heap.size w wc))
  case first =>
   have H := HC4.out
   clear HC4
   by_cases c19 : a0_0 = a1_0
   ·rw [if_pos c19] at H
    have c19b0 : (a0_0 == a1_0) = true := beq_iff_eq.mpr c19
    have c19b1 : (a0_0 != a1_0) = false := bne_eq_false_iff_eq.mpr c19
    clear c19
    (first | rw [c19b0] | (simp only [i64_w, i32_w]; rw [c19b0]) | skip)
    have H' := Aside0.mk H
    clear H
    have hnb20 := NB305_302.out
    have hnc20 := NB302_305.out
    have hnb21 := NB305_303.out
    have hnc21 := NB303_305.out
    have hnb22 := NB305_304.out
    have hnc22 := NB304_305.out
    obtain ⟨hcz23_0, hcz23_1, hcz23_2, hcz23_3, hfz23_0, hfz23_1, hfz23_2, hfz23_3⟩ := zc4 BK305
    go_wp2
    go_meet
    case rel => exact ⟨_, (wrap64 (a0_0 + 1)), H', ⟨by first | omega | exact Nat.le_refl _⟩, ⟨by refine fq ?_ NB302_305.out; refine fq ?_ NB302_305.out; refine fq ?_ NB302_305.out; refine fq ?_ NB302_305.out; refine fq ?_ NB302_305.out; exact bq BK302.out⟩, ⟨by refine fq ?_ NB303_305.out; refine fq ?_ NB303_305.out; refine fq ?_ NB303_305.out; refine fq ?_ NB303_305.out; refine fq ?_ NB303_305.out; exact bq BK303.out⟩, ⟨by refine fq ?_ NB304_305.out; refine fq ?_ NB304_305.out; refine fq ?_ NB304_305.out; refine fq ?_ NB304_305.out; refine fq ?_ NB304_305.out; exact bq BK304.out⟩, ⟨by refine bq ?_; refine blk_put (cs := #[.int .i64 a0_0, .int .i64 a0_1, .int .i64 a0_2, .int .i64 a0_3]) ?_ 0 _ rfl; refine bq ?_; refine blk_put (cs := #[.int .i64 a0_0, .int .i64 a0_1, .int .i64 a0_2, .int .i64 0]) ?_ 3 _ rfl; refine bq ?_; refine blk_put (cs := #[.int .i64 a0_0, .int .i64 a0_1, .int .i64 0, .int .i64 0]) ?_ 2 _ rfl; refine bq ?_; refine blk_put (cs := #[.int .i64 a0_0, .int .i64 0, .int .i64 0, .int .i64 0]) ?_ 1 _ rfl; refine bq ?_; refine blk_put (cs := #[.int .i64 0, .int .i64 0, .int .i64 0, .int .i64 0]) ?_ 0 _ rfl; exact bq BK305.out⟩, ⟨zB⟩⟩
   ·rw [if_neg c19] at H
    have c19b0 : (a0_0 == a1_0) = false := beq_eq_false_iff_ne.mpr c19
    have c19b1 : (a0_0 != a1_0) = true := bne_iff_ne.mpr c19
    (first | rw [c19b0] | (simp only [i64_w, i32_w]; rw [c19b0]) | skip)
    have H' := Aside0.mk H
    clear H
    go_wp2
    go_meet
    case rel => exact ⟨_, (a0_0), H', ⟨by first | omega | exact Nat.le_refl _⟩, ⟨by refine fq ?_ NB302_305.out; refine fq ?_ NB302_305.out; refine fq ?_ NB302_305.out; refine fq ?_ NB302_305.out; exact bq BK302.out⟩, ⟨by refine fq ?_ NB303_305.out; refine fq ?_ NB303_305.out; refine fq ?_ NB303_305.out; refine fq ?_ NB303_305.out; exact bq BK303.out⟩, ⟨by refine fq ?_ NB304_305.out; refine fq ?_ NB304_305.out; refine fq ?_ NB304_305.out; refine fq ?_ NB304_305.out; exact bq BK304.out⟩, ⟨by refine bq ?_; refine blk_put (cs := #[.int .i64 a0_0, .int .i64 a0_1, .int .i64 a0_2, .int .i64 0]) ?_ 3 _ rfl; refine bq ?_; refine blk_put (cs := #[.int .i64 a0_0, .int .i64 a0_1, .int .i64 0, .int .i64 0]) ?_ 2 _ rfl; refine bq ?_; refine blk_put (cs := #[.int .i64 a0_0, .int .i64 0, .int .i64 0, .int .i64 0]) ?_ 1 _ rfl; refine bq ?_; refine blk_put (cs := #[.int .i64 0, .int .i64 0, .int .i64 0, .int .i64 0]) ?_ 0 _ rfl; exact bq BK305.out⟩, ⟨zB⟩⟩
  case rest =>
   clear HC4
   try clear c1
   try clear c2
   try clear p2
   try clear c3
   try clear c3b0
   try clear c3b1
   try clear p6
   try clear c8
   try clear c9
   try clear c11
   try clear c14
   try clear c15
   try clear c16
   try clear c19
   try clear c19b0
   try clear c19b1
   try clear c20
   try clear c21
   try clear c22
   try clear hcz10_0 hcz10_1 hcz10_2 hcz10_3 hfz10_0 hfz10_1 hfz10_2 hfz10_3
   try clear hcz12_0 hcz12_1 hcz12_2 hcz12_3 hfz12_0 hfz12_1 hfz12_2 hfz12_3
   try clear hcz17_0 hcz17_1 hcz17_2 hcz17_3 hfz17_0 hfz17_1 hfz17_2 hfz17_3
   try clear hcz18_0 hcz18_1 hcz18_2 hcz18_3 hfz18_0 hfz18_1 hfz18_2 hfz18_3
   try clear hcz23_0 hcz23_1 hcz23_2 hcz23_3 hfz23_0 hfz23_1 hfz23_2 hfz23_3
   obtain ⟨kq, x306000_3, HA, HJ3, BK302, BK303, BK304, BK305, HB⟩ := hcut
   cases kq with
   | zero => exact absurd HA.out (by simp [impl_Range_but.j0])
   | succ kj3 =>
    have H := HA.out
    clear HA
    simp only [impl_Range_but.j0] at H
    have HC24 := Aside0.mk H
    clear H
    have hnb25 := NB302_303.out
    have hnc25 := NB303_302.out
    have hnb26 := NB302_304.out
    have hnc26 := NB304_302.out
    have hnb27 := NB302_305.out
    have hnc27 := NB305_302.out
    obtain ⟨hcz28_0, hcz28_1, hcz28_2, hcz28_3, hfz28_0, hfz28_1, hfz28_2, hfz28_3⟩ := zc4 BK302
    go_upto_if 28 with (fail)
    go_cut [] (fun wc => ∃ (kq : Nat) (x306001_23 : Int), Aside0 (impl_Range_but.j1 kq x306000_3 x306001_23 a0_2 a0_3 = some (r1, r2, r3, r4, r5)) ∧ Aside0 (kq ≤ kj3) ∧ Aside0 (wc.heap[gb302]? = some (.cells #[.int .i64 a0_0, .int .i64 a0_1, .int .i64 a0_2, .int .i64 a0_3] 24 (0, 0))) ∧ Aside0 (wc.heap[gb303]? = some (.cells #[.int .i64 a1_0, .int .i64 a1_1, .int .i64 a1_2, .int .i64 a1_3] 24 (0, 0))) ∧ Aside0 (wc.heap[gb304]? = some (.cells #[.int .i64 0, .int .i64 0, .int .i64 0, .int .i64 0] 24 (0, 0))) ∧ Aside0 (wc.heap[gb305]? = some (.cells #[.int .i64 x306000_3, .int .i64 x306001_23, .int .i64 a0_2, .int .i64 a0_3] 24 (0, 0))) ∧ Aside0 (Below w.heap.size w wc))
    case first =>
     have H := HC24.out
     clear HC24
     by_cases c29 : a0_1 = a1_0
     ·rw [if_pos c29] at H
      have c29b0 : (a0_1 == a1_0) = true := beq_iff_eq.mpr c29
      have c29b1 : (a0_1 != a1_0) = false := bne_eq_false_iff_eq.mpr c29
      clear c29
      (first | rw [c29b0] | (simp only [i64_w, i32_w]; rw [c29b0]) | skip)
      have H' := Aside0.mk H
      clear H
      have hnb30 := NB305_302.out
      have hnc30 := NB302_305.out
      have hnb31 := NB305_303.out
      have hnc31 := NB303_305.out
      have hnb32 := NB305_304.out
      have hnc32 := NB304_305.out
      obtain ⟨hcz33_0, hcz33_1, hcz33_2, hcz33_3, hfz33_0, hfz33_1, hfz33_2, hfz33_3⟩ := zc4 BK305
      go_wp2
      go_meet
      case rel => exact ⟨_, (wrap64 (a0_1 - 1)), H', ⟨by have := HJ3.out; first | omega | exact Nat.le_refl _⟩, ⟨by refine fq ?_ NB302_305.out; exact bq BK302.out⟩, ⟨by refine fq ?_ NB303_305.out; exact bq BK303.out⟩, ⟨by refine fq ?_ NB304_305.out; exact bq BK304.out⟩, ⟨by refine bq ?_; refine blk_put (cs := #[.int .i64 x306000_3, .int .i64 a0_1, .int .i64 a0_2, .int .i64 a0_3]) ?_ 1 _ rfl; exact bq BK305.out⟩, ⟨zB⟩⟩
     ·rw [if_neg c29] at H
      have c29b0 : (a0_1 == a1_0) = false := beq_eq_false_iff_ne.mpr c29
      have c29b1 : (a0_1 != a1_0) = true := bne_iff_ne.mpr c29
      (first | rw [c29b0] | (simp only [i64_w, i32_w]; rw [c29b0]) | skip)
      have H' := Aside0.mk H
      clear H
      go_wp2
      go_meet
      case rel => exact ⟨_, (a0_1), H', ⟨by have := HJ3.out; first | omega | exact Nat.le_refl _⟩, ⟨by exact bq BK302.out⟩, ⟨by exact bq BK303.out⟩, ⟨by exact bq BK304.out⟩, ⟨by exact bq BK305.out⟩, ⟨zB⟩⟩
    case rest =>
     clear HC24
     try clear c1
     try clear c2
     try clear p2 p2
     try clear c3
     try clear c3b0
     try clear c3b1
     try clear p6 p6
     try clear c8
     try clear c9
     try clear c11
     try clear c14
     try clear c15
     try clear c16
     try clear c19
     try clear c19b0
     try clear c19b1
     try clear c20
     try clear c21
     try clear c22
     try clear c25
     try clear c26
     try clear c27
     try clear c29
     try clear c29b0
     try clear c29b1
     try clear c30
     try clear c31
     try clear c32
     try clear hcz10_0 hcz10_1 hcz10_2 hcz10_3 hfz10_0 hfz10_1 hfz10_2 hfz10_3
     try clear hcz12_0 hcz12_1 hcz12_2 hcz12_3 hfz12_0 hfz12_1 hfz12_2 hfz12_3
     try clear hcz17_0 hcz17_1 hcz17_2 hcz17_3 hfz17_0 hfz17_1 hfz17_2 hfz17_3
     try clear hcz18_0 hcz18_1 hcz18_2 hcz18_3 hfz18_0 hfz18_1 hfz18_2 hfz18_3
     try clear hcz23_0 hcz23_1 hcz23_2 hcz23_3 hfz23_0 hfz23_1 hfz23_2 hfz23_3
     try clear hcz28_0 hcz28_1 hcz28_2 hcz28_3 hfz28_0 hfz28_1 hfz28_2 hfz28_3
     try clear hcz33_0 hcz33_1 hcz33_2 hcz33_3 hfz33_0 hfz33_1 hfz33_2 hfz33_3
     obtain ⟨kq, x306001_23, HA, HJ23, BK302, BK303, BK304, BK305, HB⟩ := hcut
     cases kq with
     | zero => exact absurd HA.out (by simp [impl_Range_but.j1])
     | succ kj23 =>
      have H := HA.out
      clear HA
      simp only [impl_Range_but.j1] at H
      replace H := Option.bind_eq_some_iff.mp H
      obtain ⟨t306, A340, H⟩ := H
      try dsimp only at H
      have A34 := Aside0.mk A340
      clear A340
      by_cases c35 : t306 = true
      ·subst c35
       rw [if_pos rfl] at H
       replace H := Option.bind_eq_some_iff.mp H
       obtain ⟨⟨t311, t312, t313, t314⟩, A360, H⟩ := H
       try dsimp only at H
       have A36 := Aside0.mk A360
       clear A360
       simp only [Option.some.injEq, Prod.mk.injEq] at H
       obtain ⟨rfl, rfl, rfl, rfl, rfl⟩ := H
       have hnb37 := NB305_302.out
       have hnc37 := NB302_305.out
       have hnb38 := NB305_303.out
       have hnc38 := NB303_305.out
       have hnb39 := NB305_304.out
       have hnc39 := NB304_305.out
       obtain ⟨hcz40_0, hcz40_1, hcz40_2, hcz40_3, hfz40_0, hfz40_1, hfz40_2, hfz40_3⟩ := zc4 BK305
       go_wp2_with (first | ((with_reducible refine gate_callee (f := 14) rfl ?_); refine gl 34 Try.func14 #[.agg #[.int .i64 x306000_3, .int .i64 x306001_23, .int .i64 a0_2, .int .i64 a0_3]] ?_; (with_reducible refine (impl_Range_some.calls kj23 x306000_3 x306001_23 a0_2 a0_3 true _ A34.out).mono ?_); rintro e w41 ⟨rfl, hb⟩; refine ⟨_, rfl, ?_⟩; replace BK302 := zb BK302 hb rfl; replace BK303 := zb BK303 hb rfl; replace BK304 := zb BK304 hb rfl; replace BK305 := zb BK305 hb rfl; replace HB := zS hb; try clear hb; obtain ⟨hcz42_0, hcz42_1, hcz42_2, hcz42_3, hfz42_0, hfz42_1, hfz42_2, hfz42_3⟩ := zc4 BK305) | ((with_reducible refine gate_callee (f := 27) rfl ?_); refine gl 38 Try.func27 #[.agg #[.int .i64 x306000_3, .int .i64 x306001_23, .int .i64 a0_2, .int .i64 a0_3]] ?_; (with_reducible refine (impl_Range_tidy.calls x306000_3 x306001_23 a0_2 a0_3 t311 t312 t313 t314 _ A36.out).mono ?_); rintro e w43 ⟨rfl, hb⟩; refine ⟨_, rfl, ?_⟩; replace BK302 := zb BK302 hb rfl; replace BK303 := zb BK303 hb rfl; replace BK304 := zb BK304 hb rfl; replace BK305 := zb BK305 hb rfl; replace HB := zS hb; try clear hb; have hnb44 := NB304_302.out; have hnc44 := NB302_304.out; have hnb45 := NB304_303.out; have hnc45 := NB303_304.out; obtain ⟨hcz46_0, hcz46_1, hcz46_2, hcz46_3, hfz46_0, hfz46_1, hfz46_2, hfz46_3⟩ := zc4 BK304))
       refine bodyPost_ret (results_ct rfl _ _ gb304 24 #[.int .i64 t311, .int .i64 t312, .int .i64 t313, .int .i64 t314] (0, 0) _ rfl (by refine bq ?_; refine blk_put (cs := #[.int .i64 t311, .int .i64 t312, .int .i64 t313, .int .i64 0]) ?_ 3 _ rfl; refine bq ?_; refine blk_put (cs := #[.int .i64 t311, .int .i64 t312, .int .i64 0, .int .i64 0]) ?_ 2 _ rfl; refine bq ?_; refine blk_put (cs := #[.int .i64 t311, .int .i64 0, .int .i64 0, .int .i64 0]) ?_ 1 _ rfl; refine bq ?_; refine blk_put (cs := #[.int .i64 0, .int .i64 0, .int .i64 0, .int .i64 0]) ?_ 0 _ rfl; exact bq BK304.out) Try.underlying24 rfl (by kernel_rfl)) rfl ?_
       exact ⟨zR, zB⟩
      ·replace c35 := Bool.eq_false_iff.mpr c35
       subst c35
       rw [if_neg (show ¬ (false = true) by decide)] at H
       replace H := Option.bind_eq_some_iff.mp H
       obtain ⟨⟨t307, t308, t309, t310⟩, A470, H⟩ := H
       try dsimp only at H
       have A47 := Aside0.mk A470
       clear A470
       simp only [Option.some.injEq, Prod.mk.injEq] at H
       obtain ⟨rfl, rfl, rfl, rfl, rfl⟩ := H
       have hnb48 := NB305_302.out
       have hnc48 := NB302_305.out
       have hnb49 := NB305_303.out
       have hnc49 := NB303_305.out
       have hnb50 := NB305_304.out
       have hnc50 := NB304_305.out
       obtain ⟨hcz51_0, hcz51_1, hcz51_2, hcz51_3, hfz51_0, hfz51_1, hfz51_2, hfz51_3⟩ := zc4 BK305
       go_wp2_with (first | ((with_reducible refine gate_callee (f := 14) rfl ?_); refine gl 34 Try.func14 #[.agg #[.int .i64 x306000_3, .int .i64 x306001_23, .int .i64 a0_2, .int .i64 a0_3]] ?_; (with_reducible refine (impl_Range_some.calls kj23 x306000_3 x306001_23 a0_2 a0_3 false _ A34.out).mono ?_); rintro e w52 ⟨rfl, hb⟩; refine ⟨_, rfl, ?_⟩; replace BK302 := zb BK302 hb rfl; replace BK303 := zb BK303 hb rfl; replace BK304 := zb BK304 hb rfl; replace BK305 := zb BK305 hb rfl; replace HB := zS hb; try clear hb) | ((with_reducible refine gate_callee (f := 15) rfl ?_); refine gl 36 Try.func15 #[] ?_; (with_reducible refine (impl_noRange.calls  t307 t308 t309 t310 _ A47.out).mono ?_); rintro e w53 ⟨rfl, hb⟩; refine ⟨_, rfl, ?_⟩; replace BK302 := zb BK302 hb rfl; replace BK303 := zb BK303 hb rfl; replace BK304 := zb BK304 hb rfl; replace BK305 := zb BK305 hb rfl; replace HB := zS hb; try clear hb; have hnb54 := NB304_302.out; have hnc54 := NB302_304.out; have hnb55 := NB304_303.out; have hnc55 := NB303_304.out; obtain ⟨hcz56_0, hcz56_1, hcz56_2, hcz56_3, hfz56_0, hfz56_1, hfz56_2, hfz56_3⟩ := zc4 BK304))
       refine bodyPost_ret (results_ct rfl _ _ gb304 24 #[.int .i64 t307, .int .i64 t308, .int .i64 t309, .int .i64 t310] (0, 0) _ rfl (by refine bq ?_; refine blk_put (cs := #[.int .i64 t307, .int .i64 t308, .int .i64 t309, .int .i64 0]) ?_ 3 _ rfl; refine bq ?_; refine blk_put (cs := #[.int .i64 t307, .int .i64 t308, .int .i64 0, .int .i64 0]) ?_ 2 _ rfl; refine bq ?_; refine blk_put (cs := #[.int .i64 t307, .int .i64 0, .int .i64 0, .int .i64 0]) ?_ 1 _ rfl; refine bq ?_; refine blk_put (cs := #[.int .i64 0, .int .i64 0, .int .i64 0, .int .i64 0]) ?_ 0 _ rfl; exact bq BK304.out) Try.underlying24 rfl (by kernel_rfl)) rfl ?_
       exact ⟨zR, zB⟩
 ·rw [if_neg c3] at H
  have c3b0 : (a1_0 == a1_1) = false := beq_eq_false_iff_ne.mpr c3
  have c3b1 : (a1_0 != a1_1) = true := bne_iff_ne.mpr c3
  simp only [Option.some.injEq, Prod.mk.injEq] at H
  obtain ⟨rfl, rfl, rfl, rfl, rfl⟩ := H
  go_enter Try.func30, Try.ntmps30
  go_wp2_with (first | ((with_reducible refine gate_dst (N := 2) rfl ?_); refine be 2 #[.int .i64 a0_0, .int .i64 a0_1, .int .i64 a0_2, .int .i64 a0_3] 24 ?_; intro gb302 hg w57 hbox hb; have BK302 := Aside0.mk hbox; have GW302 := zW hg; replace HB := zS hb; have GE302 := GW302; clear hb hbox hg) | ((with_reducible refine gate_dst (N := 3) rfl ?_); refine be 3 #[.int .i64 a1_0, .int .i64 a1_1, .int .i64 a1_2, .int .i64 a1_3] 24 ?_; intro gb303 hg w58 hbox hb; have BK303 := Aside0.mk hbox; have GW303 := zW hg; replace HB := zS hb; have GE303 := GW303; have NB302_303 := zl BK302 hg rfl; have NB303_302 := zg BK302 hg rfl; replace BK302 := zb BK302 hb rfl; clear hb hbox hg) | ((with_reducible refine gate_dst (N := 4) rfl ?_); refine be 4 #[.int .i64 0, .int .i64 0, .int .i64 0, .int .i64 0] 24 ?_; intro gb304 hg w59 hbox hb; have BK304 := Aside0.mk hbox; have GW304 := zW hg; replace HB := zS hb; have GE304 := GW304; have NB302_304 := zl BK302 hg rfl; have NB304_302 := zg BK302 hg rfl; replace BK302 := zb BK302 hb rfl; have NB303_304 := zl BK303 hg rfl; have NB304_303 := zg BK303 hg rfl; replace BK303 := zb BK303 hb rfl; clear hb hbox hg; have hnb60 := NB303_302.out; have hnc60 := NB302_303.out; have hnb61 := NB303_304.out; have hnc61 := NB304_303.out; obtain ⟨hcz62_0, hcz62_1, hcz62_2, hcz62_3, hfz62_0, hfz62_1, hfz62_2, hfz62_3⟩ := zc4 BK303; have hnb63 := NB302_304.out; have hnc63 := NB304_302.out; obtain ⟨hcz64_0, hcz64_1, hcz64_2, hcz64_3, hfz64_0, hfz64_1, hfz64_2, hfz64_3⟩ := zc4 BK302; obtain ⟨hcz65_0, hcz65_1, hcz65_2, hcz65_3, hfz65_0, hfz65_1, hfz65_2, hfz65_3⟩ := zc4 BK304))
  refine bodyPost_ret (results_ct rfl _ _ gb304 24 #[.int .i64 a0_0, .int .i64 a0_1, .int .i64 a0_2, .int .i64 a0_3] (0, 0) _ rfl (by refine bq ?_; refine blk_put (cs := #[.int .i64 a0_0, .int .i64 a0_1, .int .i64 a0_2, .int .i64 0]) ?_ 3 _ rfl; refine bq ?_; refine blk_put (cs := #[.int .i64 a0_0, .int .i64 a0_1, .int .i64 0, .int .i64 0]) ?_ 2 _ rfl; refine bq ?_; refine blk_put (cs := #[.int .i64 a0_0, .int .i64 0, .int .i64 0, .int .i64 0]) ?_ 1 _ rfl; refine bq ?_; refine blk_put (cs := #[.int .i64 0, .int .i64 0, .int .i64 0, .int .i64 0]) ?_ 0 _ rfl; exact bq BK304.out) Try.underlying24 rfl (by kernel_rfl)) rfl ?_
  exact ⟨zR, zB⟩

end Go.Proofs.Ytjengfiaphgjbaa.Q
