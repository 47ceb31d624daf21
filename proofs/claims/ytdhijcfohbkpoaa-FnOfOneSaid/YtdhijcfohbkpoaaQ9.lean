/- The machine's side of this seat's laws: Go functions as Lean functions, and their contracts. By a program of this work over the kit's print. -/
import Derived.Test.YtdhijcfohbkpoaaQ0
import Derived.Test.YtdhijcfohbkpoaaQ7
namespace Go.Proofs.Ytdhijcfohbkpoaa.Q
open Go.RowKit Go.Proofs.YtdhijcfohbkpoaaW.PrintWords Go.Proofs.YtdhijcfohbkpoaaW.PrintLast Go.Proofs.YtdhijcfohbkpoaaW.PrintMore
attribute [local go_sem] max2_int min2_int max_two min_two max_three min_three max_four min_four Go.Proofs.YtdhijcfohbkpoaaN.not_i64 Go.Proofs.YtdhijcfohbkpoaaN.isSome_setCell   -- for this text's walks alone
set_option linter.unusedVariables false
set_option linter.unusedSimpArgs false

/-! ### impl_bitwise: function 45 -/
def impl_bitwise.j0 : Nat → Int → Int → Int → Int → Option (Int × Int × Int × Int)
 | 0, _, _, _, _ => none
 | k + 1, x297000, x297001, x297002, x297003 => (impl_Range_tidy.f x297000 x297001 x297002 x297003).bind fun bt297 => (some (bt297.1, bt297.2.1, bt297.2.2.1, bt297.2.2.2))
def impl_bitwise.f (k : Nat) (a0 : Int) (a1_0 : Int) (a1_1 : Int) (a1_2 : Int) (a1_3 : Int) (a2_0 : Int) (a2_1 : Int) (a2_2 : Int) (a2_3 : Int) : Option (Int × Int × Int × Int) := if a0 = 5 then (impl_bitwise.j0 k 0 (mn a1_1 a2_1) (Go.bits .and .i64 a1_2 a2_2) (Go.bits .andNot .i64 (Go.bits .and .i64 (Go.bits .or .i64 a1_2 a1_3) (Go.bits .or .i64 a2_2 a2_3)) (Go.bits .and .i64 a1_2 a2_2))) else (if a0 = 6 then (impl_bitwise.j0 k (mx a1_0 a2_0) 4294967295 (Go.bits .or .i64 a1_2 a2_2) (Go.bits .andNot .i64 (Go.bits .or .i64 a1_3 a2_3) (Go.bits .or .i64 a1_2 a2_2))) else (impl_bitwise.j0 k 0 4294967295 (Go.bits .andNot .i64 (Go.bits .xor .i64 a1_2 a2_2) (Go.bits .or .i64 a1_3 a2_3)) (Go.bits .or .i64 a1_3 a2_3)))


set_option maxHeartbeats 8000000 in
set_option maxRecDepth 100000 in
theorem impl_bitwise.calls (k : Nat) (a0 : Int) (a1_0 : Int) (a1_1 : Int) (a1_2 : Int) (a1_3 : Int) (a2_0 : Int) (a2_1 : Int) (a2_2 : Int) (a2_3 : Int) (r1 : Int) (r2 : Int) (r3 : Int) (r4 : Int) (w : World) (h : impl_bitwise.f k a0 a1_0 a1_1 a1_2 a1_3 a2_0 a2_1 a2_2 a2_3 = some (r1, r2, r3, r4)) :
  Calls Try.prog 45 #[.int .i64 a0, .agg #[.int .i64 a1_0, .int .i64 a1_1, .int .i64 a1_2, .int .i64 a1_3], .agg #[.int .i64 a2_0, .int .i64 a2_1, .int .i64 a2_2, .int .i64 a2_3]] w fun e w' => e = .returned (.agg #[.int .i64 r1, .int .i64 r2, .int .i64 r3, .int .i64 r4]) ∧ Below w.heap.size w w' := by
 have hu24 := Try.underlying24
 have HB := Aside0.mk (Below.refl w.heap.size w)
 have H : (if a0 = 5 then (impl_bitwise.j0 k 0 (mn a1_1 a2_1) (Go.bits .and .i64 a1_2 a2_2) (Go.bits .andNot .i64 (Go.bits .and .i64 (Go.bits .or .i64 a1_2 a1_3) (Go.bits .or .i64 a2_2 a2_3)) (Go.bits .and .i64 a1_2 a2_2))) else (if a0 = 6 then (impl_bitwise.j0 k (mx a1_0 a2_0) 4294967295 (Go.bits .or .i64 a1_2 a2_2) (Go.bits .andNot .i64 (Go.bits .or .i64 a1_3 a2_3) (Go.bits .or .i64 a1_2 a2_2))) else (impl_bitwise.j0 k 0 4294967295 (Go.bits .andNot .i64 (Go.bits .xor .i64 a1_2 a2_2) (Go.bits .or .i64 a1_3 a2_3)) (Go.bits .or .i64 a1_3 a2_3)))) = some (r1, r2, r3, r4) := h
 clear h
 have HC4 := Aside0.mk H
 clear H
 go_enter Try.func45, Try.ntmps45
 go_upto_block 0 with (first | ((with_reducible refine gate_dst (N := 4) rfl ?_); refine be 4 #[.int .i64 a1_0, .int .i64 a1_1, .int .i64 a1_2, .int .i64 a1_3] 24 ?_; intro gb293 hg w5 hbox hb; have BK293 := Aside0.mk hbox; have GW293 := zW hg; replace HB := zS hb; have GE293 := GW293; clear hb hbox hg) | ((with_reducible refine gate_dst (N := 5) rfl ?_); refine be 5 #[.int .i64 a2_0, .int .i64 a2_1, .int .i64 a2_2, .int .i64 a2_3] 24 ?_; intro gb294 hg w6 hbox hb; have BK294 := Aside0.mk hbox; have GW294 := zW hg; replace HB := zS hb; have GE294 := GW294; have NB293_294 := zl BK293 hg rfl; have NB294_293 := zg BK293 hg rfl; replace BK293 := zb BK293 hb rfl; clear hb hbox hg) | ((with_reducible refine gate_dst (N := 6) rfl ?_); refine be 6 #[.int .i64 0, .int .i64 0, .int .i64 0, .int .i64 0] 24 ?_; intro gb295 hg w7 hbox hb; have BK295 := Aside0.mk hbox; have GW295 := zW hg; replace HB := zS hb; have GE295 := GW295; have NB293_295 := zl BK293 hg rfl; have NB295_293 := zg BK293 hg rfl; replace BK293 := zb BK293 hb rfl; have NB294_295 := zl BK294 hg rfl; have NB295_294 := zg BK294 hg rfl; replace BK294 := zb BK294 hb rfl; clear hb hbox hg) | ((with_reducible refine gate_dst (N := 7) rfl ?_); refine be 7 #[.int .i64 0, .int .i64 0, .int .i64 0, .int .i64 0] 24 ?_; intro gb296 hg w8 hbox hb; have BK296 := Aside0.mk hbox; have GW296 := zW hg; replace HB := zS hb; have GE296 := GW296; have NB293_296 := zl BK293 hg rfl; have NB296_293 := zg BK293 hg rfl; replace BK293 := zb BK293 hb rfl; have NB294_296 := zl BK294 hg rfl; have NB296_294 := zg BK294 hg rfl; replace BK294 := zb BK294 hb rfl; have NB295_296 := zl BK295 hg rfl; have NB296_295 := zg BK295 hg rfl; replace BK295 := zb BK295 hb rfl; clear hb hbox hg; have hnb9 := NB296_293.out; have hnc9 := NB293_296.out; have hnb10 := NB296_294.out; have hnc10 := NB294_296.out; have hnb11 := NB296_295.out; have hnc11 := NB295_296.out; obtain ⟨hcz12_0, hcz12_1, hcz12_2, hcz12_3, hfz12_0, hfz12_1, hfz12_2, hfz12_3⟩ := zc4 BK296))
 (try simp only [Act.put, List.setIfInBounds_toArray, List.set_cons_zero, List.set_cons_succ])
 go_cut [] (fun wc => ∃ (kq : Nat) (x297000_3 : Int) (x297001_3 : Int) (x297002_3 : Int) (x297003_3 : Int), Aside0 (impl_bitwise.j0 kq x297000_3 x297001_3 x297002_3 x297003_3 = some (r1, r2, r3, r4)) ∧ Aside0 (kq ≤ k) ∧ Aside0 (wc.heap[gb293]? = some (.cells #[.int .i64 a1_0, .int .i64 a1_1, .int .i64 a1_2, .int .i64 a1_3] 24 (0, 0))) ∧ Aside0 (wc.heap[gb294]? = some (.cells #[.int .i64 a2_0, .int .i64 a2_1, .int .i64 a2_2, .int .i64 a2_3] 24 (0, 0))) ∧ Aside0 (wc.heap[gb295]? = some (.cells #[.int .i64 0, .int .i64 0, .int .i64 0, .int .i64 0] 24 (0, 0))) ∧ Aside0 (wc.heap[gb296]? = some (.cells #[.int .i64 x297000_3, .int .i64 x297001_3, .int .i64 x297002_3, .int .i64 x297003_3] 24 (0, 0))) ∧ Aside0 (Below w.heap.size w wc))
 case first =>
  have H := HC4.out
  clear HC4
  by_cases c13 : a0 = 5
  ·rw [if_pos c13] at H
   have c13b0 : (a0 == 5) = true := beq_iff_eq.mpr c13
   have c13b1 : (a0 != 5) = false := bne_eq_false_iff_eq.mpr c13
   clear c13
   (first | rw [c13b0] | (simp only [i64_w, i32_w]; rw [c13b0]) | skip)
   obtain ⟨ji14, hji14⟩ : ∃ j_ : Int, (mn a1_1 a2_1) = j_ := ⟨_, rfl⟩
   replace H : (impl_bitwise.j0 k 0 ji14 (Go.bits .and .i64 a1_2 a2_2) (Go.bits .andNot .i64 (Go.bits .and .i64 (Go.bits .or .i64 a1_2 a1_3) (Go.bits .or .i64 a2_2 a2_3)) (Go.bits .and .i64 a1_2 a2_2))) = some (r1, r2, r3, r4) := by first | (rw [hji14] at H; exact H) | (simp only [hji14] at H ⊢; exact H)
   have hji14_ : (if a2_1 < a1_1 then a2_1 else a1_1) = ji14 := hji14
   have H' := Aside0.mk H
   clear H
   have hnb15 := NB293_294.out
   have hnc15 := NB294_293.out
   have hnb16 := NB293_295.out
   have hnc16 := NB295_293.out
   have hnb17 := NB293_296.out
   have hnc17 := NB296_293.out
   obtain ⟨hcz18_0, hcz18_1, hcz18_2, hcz18_3, hfz18_0, hfz18_1, hfz18_2, hfz18_3⟩ := zc4 BK293
   have hnb19 := NB294_295.out
   have hnc19 := NB295_294.out
   have hnb20 := NB294_296.out
   have hnc20 := NB296_294.out
   obtain ⟨hcz21_0, hcz21_1, hcz21_2, hcz21_3, hfz21_0, hfz21_1, hfz21_2, hfz21_3⟩ := zc4 BK294
   have hnb22 := NB296_295.out
   have hnc22 := NB295_296.out
   obtain ⟨hcz23_0, hcz23_1, hcz23_2, hcz23_3, hfz23_0, hfz23_1, hfz23_2, hfz23_3⟩ := zc4 BK296
   go_wp2
   go_meet
   case rel => exact ⟨_, (0), (ji14), (Go.bits .and .i64 a1_2 a2_2), (Go.bits .andNot .i64 (Go.bits .and .i64 (Go.bits .or .i64 a1_2 a1_3) (Go.bits .or .i64 a2_2 a2_3)) (Go.bits .and .i64 a1_2 a2_2)), H', ⟨by first | omega | exact Nat.le_refl _⟩, ⟨by refine fq ?_ NB293_296.out; refine fq ?_ NB293_296.out; refine fq ?_ NB293_296.out; refine fq ?_ NB293_296.out; refine fq ?_ NB293_296.out; refine fq ?_ NB293_296.out; refine fq ?_ NB293_296.out; exact bq BK293.out⟩, ⟨by refine fq ?_ NB294_296.out; refine fq ?_ NB294_296.out; refine fq ?_ NB294_296.out; refine fq ?_ NB294_296.out; refine fq ?_ NB294_296.out; refine fq ?_ NB294_296.out; refine fq ?_ NB294_296.out; exact bq BK294.out⟩, ⟨by refine fq ?_ NB295_296.out; refine fq ?_ NB295_296.out; refine fq ?_ NB295_296.out; refine fq ?_ NB295_296.out; refine fq ?_ NB295_296.out; refine fq ?_ NB295_296.out; refine fq ?_ NB295_296.out; exact bq BK295.out⟩, ⟨by refine bq ?_; refine blk_put (cs := #[.int .i64 0, .int .i64 4294967295, .int .i64 (Go.bits .and .i64 a1_2 a2_2), .int .i64 (Go.bits .andNot .i64 (Go.bits .and .i64 (Go.bits .or .i64 a1_2 a1_3) (Go.bits .or .i64 a2_2 a2_3)) (Go.bits .and .i64 a1_2 a2_2))]) ?_ 1 _ rfl; refine bq ?_; refine blk_put (cs := #[.int .i64 0, .int .i64 4294967295, .int .i64 (Go.bits .and .i64 a1_2 a2_2), .int .i64 0]) ?_ 3 _ rfl; refine bq ?_; refine blk_put (cs := #[.int .i64 0, .int .i64 4294967295, .int .i64 0, .int .i64 0]) ?_ 2 _ rfl; refine bq ?_; refine blk_put (cs := #[.int .i64 0, .int .i64 4294967295, .int .i64 0, .int .i64 0]) ?_ 3 _ rfl; refine bq ?_; refine blk_put (cs := #[.int .i64 0, .int .i64 4294967295, .int .i64 0, .int .i64 0]) ?_ 2 _ rfl; refine bq ?_; refine blk_put (cs := #[.int .i64 0, .int .i64 0, .int .i64 0, .int .i64 0]) ?_ 1 _ rfl; refine bq ?_; refine blk_put (cs := #[.int .i64 0, .int .i64 0, .int .i64 0, .int .i64 0]) ?_ 0 _ rfl; exact bq BK296.out⟩, ⟨zB⟩⟩
  ·rw [if_neg c13] at H
   have c13b0 : (a0 == 5) = false := beq_eq_false_iff_ne.mpr c13
   have c13b1 : (a0 != 5) = true := bne_iff_ne.mpr c13
   (first | rw [c13b0] | (simp only [i64_w, i32_w]; rw [c13b0]) | skip)
   by_cases c24 : a0 = 6
   ·rw [if_pos c24] at H
    have c24b0 : (a0 == 6) = true := beq_iff_eq.mpr c24
    have c24b1 : (a0 != 6) = false := bne_eq_false_iff_eq.mpr c24
    clear c24
    obtain ⟨ji25, hji25⟩ : ∃ j_ : Int, (mx a1_0 a2_0) = j_ := ⟨_, rfl⟩
    replace H : (impl_bitwise.j0 k ji25 4294967295 (Go.bits .or .i64 a1_2 a2_2) (Go.bits .andNot .i64 (Go.bits .or .i64 a1_3 a2_3) (Go.bits .or .i64 a1_2 a2_2))) = some (r1, r2, r3, r4) := by first | (rw [hji25] at H; exact H) | (simp only [hji25] at H ⊢; exact H)
    have hji25_ : (if a1_0 < a2_0 then a2_0 else a1_0) = ji25 := hji25
    have H' := Aside0.mk H
    clear H
    have hnb26 := NB293_294.out
    have hnc26 := NB294_293.out
    have hnb27 := NB293_295.out
    have hnc27 := NB295_293.out
    have hnb28 := NB293_296.out
    have hnc28 := NB296_293.out
    obtain ⟨hcz29_0, hcz29_1, hcz29_2, hcz29_3, hfz29_0, hfz29_1, hfz29_2, hfz29_3⟩ := zc4 BK293
    have hnb30 := NB294_295.out
    have hnc30 := NB295_294.out
    have hnb31 := NB294_296.out
    have hnc31 := NB296_294.out
    obtain ⟨hcz32_0, hcz32_1, hcz32_2, hcz32_3, hfz32_0, hfz32_1, hfz32_2, hfz32_3⟩ := zc4 BK294
    have hnb33 := NB296_295.out
    have hnc33 := NB295_296.out
    obtain ⟨hcz34_0, hcz34_1, hcz34_2, hcz34_3, hfz34_0, hfz34_1, hfz34_2, hfz34_3⟩ := zc4 BK296
    go_wp2
    go_meet
    case rel => exact ⟨_, (ji25), (4294967295), (Go.bits .or .i64 a1_2 a2_2), (Go.bits .andNot .i64 (Go.bits .or .i64 a1_3 a2_3) (Go.bits .or .i64 a1_2 a2_2)), H', ⟨by first | omega | exact Nat.le_refl _⟩, ⟨by refine fq ?_ NB293_296.out; refine fq ?_ NB293_296.out; refine fq ?_ NB293_296.out; refine fq ?_ NB293_296.out; refine fq ?_ NB293_296.out; refine fq ?_ NB293_296.out; refine fq ?_ NB293_296.out; exact bq BK293.out⟩, ⟨by refine fq ?_ NB294_296.out; refine fq ?_ NB294_296.out; refine fq ?_ NB294_296.out; refine fq ?_ NB294_296.out; refine fq ?_ NB294_296.out; refine fq ?_ NB294_296.out; refine fq ?_ NB294_296.out; exact bq BK294.out⟩, ⟨by refine fq ?_ NB295_296.out; refine fq ?_ NB295_296.out; refine fq ?_ NB295_296.out; refine fq ?_ NB295_296.out; refine fq ?_ NB295_296.out; refine fq ?_ NB295_296.out; refine fq ?_ NB295_296.out; exact bq BK295.out⟩, ⟨by refine bq ?_; refine blk_put (cs := #[.int .i64 0, .int .i64 4294967295, .int .i64 (Go.bits .or .i64 a1_2 a2_2), .int .i64 (Go.bits .andNot .i64 (Go.bits .or .i64 a1_3 a2_3) (Go.bits .or .i64 a1_2 a2_2))]) ?_ 0 _ rfl; refine bq ?_; refine blk_put (cs := #[.int .i64 0, .int .i64 4294967295, .int .i64 (Go.bits .or .i64 a1_2 a2_2), .int .i64 0]) ?_ 3 _ rfl; refine bq ?_; refine blk_put (cs := #[.int .i64 0, .int .i64 4294967295, .int .i64 0, .int .i64 0]) ?_ 2 _ rfl; refine bq ?_; refine blk_put (cs := #[.int .i64 0, .int .i64 4294967295, .int .i64 0, .int .i64 0]) ?_ 3 _ rfl; refine bq ?_; refine blk_put (cs := #[.int .i64 0, .int .i64 4294967295, .int .i64 0, .int .i64 0]) ?_ 2 _ rfl; refine bq ?_; refine blk_put (cs := #[.int .i64 0, .int .i64 0, .int .i64 0, .int .i64 0]) ?_ 1 _ rfl; refine bq ?_; refine blk_put (cs := #[.int .i64 0, .int .i64 0, .int .i64 0, .int .i64 0]) ?_ 0 _ rfl; exact bq BK296.out⟩, ⟨zB⟩⟩
   ·rw [if_neg c24] at H
    have c24b0 : (a0 == 6) = false := beq_eq_false_iff_ne.mpr c24
    have c24b1 : (a0 != 6) = true := bne_iff_ne.mpr c24
    have H' := Aside0.mk H
    clear H
    have hnb35 := NB293_294.out
    have hnc35 := NB294_293.out
    have hnb36 := NB293_295.out
    have hnc36 := NB295_293.out
    have hnb37 := NB293_296.out
    have hnc37 := NB296_293.out
    obtain ⟨hcz38_0, hcz38_1, hcz38_2, hcz38_3, hfz38_0, hfz38_1, hfz38_2, hfz38_3⟩ := zc4 BK293
    have hnb39 := NB294_295.out
    have hnc39 := NB295_294.out
    have hnb40 := NB294_296.out
    have hnc40 := NB296_294.out
    obtain ⟨hcz41_0, hcz41_1, hcz41_2, hcz41_3, hfz41_0, hfz41_1, hfz41_2, hfz41_3⟩ := zc4 BK294
    have hnb42 := NB296_295.out
    have hnc42 := NB295_296.out
    obtain ⟨hcz43_0, hcz43_1, hcz43_2, hcz43_3, hfz43_0, hfz43_1, hfz43_2, hfz43_3⟩ := zc4 BK296
    go_wp2
    go_meet
    case rel => exact ⟨_, (0), (4294967295), (Go.bits .andNot .i64 (Go.bits .xor .i64 a1_2 a2_2) (Go.bits .or .i64 a1_3 a2_3)), (Go.bits .or .i64 a1_3 a2_3), H', ⟨by first | omega | exact Nat.le_refl _⟩, ⟨by refine fq ?_ NB293_296.out; refine fq ?_ NB293_296.out; refine fq ?_ NB293_296.out; refine fq ?_ NB293_296.out; refine fq ?_ NB293_296.out; refine fq ?_ NB293_296.out; exact bq BK293.out⟩, ⟨by refine fq ?_ NB294_296.out; refine fq ?_ NB294_296.out; refine fq ?_ NB294_296.out; refine fq ?_ NB294_296.out; refine fq ?_ NB294_296.out; refine fq ?_ NB294_296.out; exact bq BK294.out⟩, ⟨by refine fq ?_ NB295_296.out; refine fq ?_ NB295_296.out; refine fq ?_ NB295_296.out; refine fq ?_ NB295_296.out; refine fq ?_ NB295_296.out; refine fq ?_ NB295_296.out; exact bq BK295.out⟩, ⟨by refine bq ?_; refine blk_put (cs := #[.int .i64 0, .int .i64 4294967295, .int .i64 0, .int .i64 (Go.bits .or .i64 a1_3 a2_3)]) ?_ 2 _ rfl; refine bq ?_; refine blk_put (cs := #[.int .i64 0, .int .i64 4294967295, .int .i64 0, .int .i64 0]) ?_ 3 _ rfl; refine bq ?_; refine blk_put (cs := #[.int .i64 0, .int .i64 4294967295, .int .i64 0, .int .i64 0]) ?_ 3 _ rfl; refine bq ?_; refine blk_put (cs := #[.int .i64 0, .int .i64 4294967295, .int .i64 0, .int .i64 0]) ?_ 2 _ rfl; refine bq ?_; refine blk_put (cs := #[.int .i64 0, .int .i64 0, .int .i64 0, .int .i64 0]) ?_ 1 _ rfl; refine bq ?_; refine blk_put (cs := #[.int .i64 0, .int .i64 0, .int .i64 0, .int .i64 0]) ?_ 0 _ rfl; exact bq BK296.out⟩, ⟨zB⟩⟩
 case rest =>
  clear HC4
  try clear c1
  try clear c2
  try clear p2
  try clear c3
  try clear c4
  try clear c9
  try clear c10
  try clear c11
  try clear c13
  try clear c13b0
  try clear c13b1
  try clear c15
  try clear c16
  try clear c17
  try clear c19
  try clear c20
  try clear c22
  try clear c24
  try clear c24b0
  try clear c24b1
  try clear c26
  try clear c27
  try clear c28
  try clear c30
  try clear c31
  try clear c33
  try clear c35
  try clear c36
  try clear c37
  try clear c39
  try clear c40
  try clear c42
  try clear hcz12_0 hcz12_1 hcz12_2 hcz12_3 hfz12_0 hfz12_1 hfz12_2 hfz12_3
  try clear hcz18_0 hcz18_1 hcz18_2 hcz18_3 hfz18_0 hfz18_1 hfz18_2 hfz18_3
  try clear hcz21_0 hcz21_1 hcz21_2 hcz21_3 hfz21_0 hfz21_1 hfz21_2 hfz21_3
  try clear hcz23_0 hcz23_1 hcz23_2 hcz23_3 hfz23_0 hfz23_1 hfz23_2 hfz23_3
  try clear hcz29_0 hcz29_1 hcz29_2 hcz29_3 hfz29_0 hfz29_1 hfz29_2 hfz29_3
  try clear hcz32_0 hcz32_1 hcz32_2 hcz32_3 hfz32_0 hfz32_1 hfz32_2 hfz32_3
  try clear hcz34_0 hcz34_1 hcz34_2 hcz34_3 hfz34_0 hfz34_1 hfz34_2 hfz34_3
  try clear hcz38_0 hcz38_1 hcz38_2 hcz38_3 hfz38_0 hfz38_1 hfz38_2 hfz38_3
  try clear hcz41_0 hcz41_1 hcz41_2 hcz41_3 hfz41_0 hfz41_1 hfz41_2 hfz41_3
  try clear hcz43_0 hcz43_1 hcz43_2 hcz43_3 hfz43_0 hfz43_1 hfz43_2 hfz43_3
  obtain ⟨kq, x297000_3, x297001_3, x297002_3, x297003_3, HA, HJ3, BK293, BK294, BK295, BK296, HB⟩ := hcut
  cases kq with
  | zero => exact absurd HA.out (by simp [impl_bitwise.j0])
  | succ kj3 =>
   have H := HA.out
   clear HA
   simp only [impl_bitwise.j0] at H
   replace H := Option.bind_eq_some_iff.mp H
   obtain ⟨⟨t297, t298, t299, t300⟩, A440, H⟩ := H
   try dsimp only at H
   have A44 := Aside0.mk A440
   clear A440
   simp only [Option.some.injEq, Prod.mk.injEq] at H
   obtain ⟨rfl, rfl, rfl, rfl⟩ := H
   have hnb45 := NB296_293.out
   have hnc45 := NB293_296.out
   have hnb46 := NB296_294.out
   have hnc46 := NB294_296.out
   have hnb47 := NB296_295.out
   have hnc47 := NB295_296.out
   obtain ⟨hcz48_0, hcz48_1, hcz48_2, hcz48_3, hfz48_0, hfz48_1, hfz48_2, hfz48_3⟩ := zc4 BK296
   go_wp2_with (first | ((with_reducible refine gate_callee (f := 40) rfl ?_); refine gl 78 Try.func40 #[.agg #[.int .i64 x297000_3, .int .i64 x297001_3, .int .i64 x297002_3, .int .i64 x297003_3]] ?_; (with_reducible refine (impl_Range_tidy.calls x297000_3 x297001_3 x297002_3 x297003_3 t297 t298 t299 t300 _ A44.out).mono ?_); rintro e w49 ⟨rfl, hb⟩; refine ⟨_, rfl, ?_⟩; replace BK293 := zb BK293 hb rfl; replace BK294 := zb BK294 hb rfl; replace BK295 := zb BK295 hb rfl; replace BK296 := zb BK296 hb rfl; replace HB := zS hb; try clear hb; have hnb50 := NB295_293.out; have hnc50 := NB293_295.out; have hnb51 := NB295_294.out; have hnc51 := NB294_295.out; obtain ⟨hcz52_0, hcz52_1, hcz52_2, hcz52_3, hfz52_0, hfz52_1, hfz52_2, hfz52_3⟩ := zc4 BK295))
   refine bodyPost_ret (results_cell_row rfl _ _ gb295 24 #[.int .i64 t297, .int .i64 t298, .int .i64 t299, .int .i64 t300] (0, 0) _ rfl (by refine bq ?_; refine blk_put (cs := #[.int .i64 t297, .int .i64 t298, .int .i64 t299, .int .i64 0]) ?_ 3 _ rfl; refine bq ?_; refine blk_put (cs := #[.int .i64 t297, .int .i64 t298, .int .i64 0, .int .i64 0]) ?_ 2 _ rfl; refine bq ?_; refine blk_put (cs := #[.int .i64 t297, .int .i64 0, .int .i64 0, .int .i64 0]) ?_ 1 _ rfl; refine bq ?_; refine blk_put (cs := #[.int .i64 0, .int .i64 0, .int .i64 0, .int .i64 0]) ?_ 0 _ rfl; exact bq BK295.out) Try.underlying24 rfl (by kernel_rfl)) rfl ?_
   exact ⟨zR, zB⟩

end Go.Proofs.Ytdhijcfohbkpoaa.Q
