/- The machine's side of this seat's laws: Go functions as Lean functions, and their contracts. By a program of this work over the kit's print. -/
import Derived.Test.YtdhijcfohbkpoaaQ0
import Derived.Test.YtdhijcfohbkpoaaQ6
import Derived.Test.YtdhijcfohbkpoaaQ7
import Derived.Test.YtdhijcfohbkpoaaQ8
import Derived.Test.YtdhijcfohbkpoaaQ9
import Derived.Test.YtdhijcfohbkpoaaQ10
import Derived.Test.YtdhijcfohbkpoaaQ11
namespace Go.Proofs.Ytdhijcfohbkpoaa.Q
open Go.RowKit Go.Proofs.YtdhijcfohbkpoaaW.PrintWords Go.Proofs.YtdhijcfohbkpoaaW.PrintLast Go.Proofs.YtdhijcfohbkpoaaW.PrintMore
attribute [local go_sem] max2_int min2_int max_two min_two max_three min_three max_four min_four Go.Proofs.YtdhijcfohbkpoaaN.not_i64 Go.Proofs.YtdhijcfohbkpoaaN.isSome_setCell   -- for this text's walks alone
set_option linter.unusedVariables false
set_option linter.unusedSimpArgs false

/-! ### impl_rangeOf: function 22 -/
mutual
def impl_rangeOf.j0 : Nat → Int → Bool → Int → Int → Int → Int → Int → Int → Int → Int → Option (Int × Int × Int × Int)
 | 0, _, _, _, _, _, _, _, _, _, _ => none
 | k + 1, x0, x22, x337000, x337001, x337002, x337003, x338000, x338001, x338002, x338003 => if x22 = true then ((impl_reckon.f x0 x337000 x338000).bind fun t347 => ((impl_RangeOne.f t347).bind fun bt348 => (some (bt348.1, bt348.2.1, bt348.2.2.1, bt348.2.2.2)))) else (if x0 = 1 then (some (x338000, x338001, x338002, x338003)) else (if x0 = 2 then ((impl_added.f k x337000 x337001 x337002 x337003 x338000 x338001 x338002 x338003).bind fun bt352 => (some (bt352.1, bt352.2.1, bt352.2.2.1, bt352.2.2.2))) else (if x0 = 3 then (if x337000 < x338001 then ((impl_rangeAll.f).bind fun bt356 => (some (bt356.1, bt356.2.1, bt356.2.2.1, bt356.2.2.2))) else ((impl_fromTo.f (wrap64 (x337000 - x338001)) (wrap64 (x337001 - x338000))).bind fun bt360 => (some (bt360.1, bt360.2.1, bt360.2.2.1, bt360.2.2.2)))) else (if x0 = 4 then ((impl_times.f k x337000 x337001 x337002 x337003 x338000 x338001 x338002 x338003).bind fun bt364 => (some (bt364.1, bt364.2.1, bt364.2.2.1, bt364.2.2.2))) else (if x0 = 5 then (impl_rangeOf.j1 k x0 x0 (x0 == 5) x337000 x337001 x337002 x337003 x338000 x338001 x338002 x338003) else (if x0 = 6 then (impl_rangeOf.j1 k x0 x0 (x0 == 6) x337000 x337001 x337002 x337003 x338000 x338001 x338002 x338003) else (impl_rangeOf.j1 k x0 x0 (x0 == 7) x337000 x337001 x337002 x337003 x338000 x338001 x338002 x338003)))))))
def impl_rangeOf.j1 : Nat → Int → Int → Bool → Int → Int → Int → Int → Int → Int → Int → Int → Option (Int × Int × Int × Int)
 | 0, _, _, _, _, _, _, _, _, _, _, _ => none
 | k + 1, x0, x30, x63, x337000, x337001, x337002, x337003, x338000, x338001, x338002, x338003 => if x63 = true then ((impl_bitwise.f k x0 x337000 x337001 x337002 x337003 x338000 x338001 x338002 x338003).bind fun bt368 => (some (bt368.1, bt368.2.1, bt368.2.2.1, bt368.2.2.2))) else (if x30 = 8 then (impl_rangeOf.j2 k x0 (x30 == 8) x337000 x337001 x337002 x337003 x338000 x338001 x338002 x338003) else (impl_rangeOf.j2 k x0 (x30 == 9) x337000 x337001 x337002 x337003 x338000 x338001 x338002 x338003))
def impl_rangeOf.j2 : Nat → Int → Bool → Int → Int → Int → Int → Int → Int → Int → Int → Option (Int × Int × Int × Int)
 | 0, _, _, _, _, _, _, _, _, _, _ => none
 | k + 1, x0, x71, x337000, x337001, x337002, x337003, x338000, x338001, x338002, x338003 => if x71 = true then ((impl_shifted.f k x0 x337000 x337001 x337002 x337003 x338000 x338001 x338002 x338003).bind fun bt372 => (some (bt372.1, bt372.2.1, bt372.2.2.1, bt372.2.2.2))) else ((impl_parted.f k x0 x337000 x337001 x337002 x337003 x338000 x338001 x338002 x338003).bind fun bt376 => (some (bt376.1, bt376.2.1, bt376.2.2.1, bt376.2.2.2)))
end
def impl_rangeOf.f (k : Nat) (a0 : Int) (a1_0 : Int) (a1_1 : Int) (a1_2 : Int) (a1_3 : Int) (a2_0 : Int) (a2_1 : Int) (a2_2 : Int) (a2_3 : Int) : Option (Int × Int × Int × Int) := (impl_Range_tidy.f a1_0 a1_1 a1_2 a1_3).bind fun bt339 => ((impl_Range_tidy.f a2_0 a2_1 a2_2 a2_3).bind fun bt343 => (if bt339.1 = bt339.2.1 then (impl_rangeOf.j0 k a0 (bt343.1 == bt343.2.1) bt339.1 bt339.2.1 bt339.2.2.1 bt339.2.2.2 bt343.1 bt343.2.1 bt343.2.2.1 bt343.2.2.2) else (impl_rangeOf.j0 k a0 false bt339.1 bt339.2.1 bt339.2.2.1 bt339.2.2.2 bt343.1 bt343.2.1 bt343.2.2.1 bt343.2.2.2)))


set_option maxHeartbeats 8000000 in
set_option maxRecDepth 100000 in
theorem impl_rangeOf.calls (k : Nat) (a0 : Int) (a1_0 : Int) (a1_1 : Int) (a1_2 : Int) (a1_3 : Int) (a2_0 : Int) (a2_1 : Int) (a2_2 : Int) (a2_3 : Int) (r1 : Int) (r2 : Int) (r3 : Int) (r4 : Int) (w : World) (h : impl_rangeOf.f k a0 a1_0 a1_1 a1_2 a1_3 a2_0 a2_1 a2_2 a2_3 = some (r1, r2, r3, r4)) :
  Calls Try.prog 22 #[.int .i64 a0, .agg #[.int .i64 a1_0, .int .i64 a1_1, .int .i64 a1_2, .int .i64 a1_3], .agg #[.int .i64 a2_0, .int .i64 a2_1, .int .i64 a2_2, .int .i64 a2_3]] w fun e w' => e = .returned (.agg #[.int .i64 r1, .int .i64 r2, .int .i64 r3, .int .i64 r4]) ∧ Below w.heap.size w w' := by
 have hu24 := Try.underlying24
 have HB := Aside0.mk (Below.refl w.heap.size w)
 have H : ((impl_Range_tidy.f a1_0 a1_1 a1_2 a1_3).bind fun bt339 => ((impl_Range_tidy.f a2_0 a2_1 a2_2 a2_3).bind fun bt343 => (if bt339.1 = bt339.2.1 then (impl_rangeOf.j0 k a0 (bt343.1 == bt343.2.1) bt339.1 bt339.2.1 bt339.2.2.1 bt339.2.2.2 bt343.1 bt343.2.1 bt343.2.2.1 bt343.2.2.2) else (impl_rangeOf.j0 k a0 false bt339.1 bt339.2.1 bt339.2.2.1 bt339.2.2.2 bt343.1 bt343.2.1 bt343.2.2.1 bt343.2.2.2)))) = some (r1, r2, r3, r4) := h
 clear h
 replace H := Option.bind_eq_some_iff.mp H
 obtain ⟨⟨t339, t340, t341, t342⟩, A40, H⟩ := H
 try dsimp only at H
 have A4 := Aside0.mk A40
 clear A40
 replace H := Option.bind_eq_some_iff.mp H
 obtain ⟨⟨t343, t344, t345, t346⟩, A50, H⟩ := H
 try dsimp only at H
 have A5 := Aside0.mk A50
 clear A50
 have HC6 := Aside0.mk H
 clear H
 go_enter Try.func22, Try.ntmps22
 try go_wp2_with (first | ((with_reducible refine gate_dst (N := 4) rfl ?_); refine be 4 #[.int .i64 a1_0, .int .i64 a1_1, .int .i64 a1_2, .int .i64 a1_3] 24 ?_; intro gb336 hg w7 hbox hb; have BK336 := Aside0.mk hbox; have GW336 := zW hg; replace HB := zS hb; have GE336 := GW336; clear hb hbox hg) | ((with_reducible refine gate_dst (N := 5) rfl ?_); refine be 5 #[.int .i64 a2_0, .int .i64 a2_1, .int .i64 a2_2, .int .i64 a2_3] 24 ?_; intro gb337 hg w8 hbox hb; have BK337 := Aside0.mk hbox; have GW337 := zW hg; replace HB := zS hb; have GE337 := GW337; have NB336_337 := zl BK336 hg rfl; have NB337_336 := zg BK336 hg rfl; replace BK336 := zb BK336 hb rfl; clear hb hbox hg) | ((with_reducible refine gate_dst (N := 6) rfl ?_); refine be 6 #[.int .i64 0, .int .i64 0, .int .i64 0, .int .i64 0] 24 ?_; intro gb338 hg w9 hbox hb; have BK338 := Aside0.mk hbox; have GW338 := zW hg; replace HB := zS hb; have GE338 := GW338; have NB336_338 := zl BK336 hg rfl; have NB338_336 := zg BK336 hg rfl; replace BK336 := zb BK336 hb rfl; have NB337_338 := zl BK337 hg rfl; have NB338_337 := zg BK337 hg rfl; replace BK337 := zb BK337 hb rfl; clear hb hbox hg))
 replace BK336 := Aside0.mk (blk_drew BK336.out)
 replace BK337 := Aside0.mk (blk_drew BK337.out)
 replace BK338 := Aside0.mk (blk_drew BK338.out)
 replace HB := Aside0.mk (below_drew1 HB.out)
 refine start_ (n := 6) (S := fun w' => w'.cell? ⟨gb336, 0, none⟩ = some (.int .i64 a1_0) ∧ w'.cell? ⟨gb336, 1, none⟩ = some (.int .i64 a1_1) ∧ w'.cell? ⟨gb336, 2, none⟩ = some (.int .i64 a1_2) ∧ w'.cell? ⟨gb336, 3, none⟩ = some (.int .i64 a1_3) ∧ w'.cell? ⟨gb337, 0, none⟩ = some (.int .i64 a2_0) ∧ w'.cell? ⟨gb337, 1, none⟩ = some (.int .i64 a2_1) ∧ w'.cell? ⟨gb337, 2, none⟩ = some (.int .i64 a2_2) ∧ w'.cell? ⟨gb337, 3, none⟩ = some (.int .i64 a2_3)) (ds := [4, 5]) #[false, false, false, false, false, false] (by kernel_rfl) rfl rfl ⟨(blk_cell BK336.out 0).trans rfl, (blk_cell BK336.out 1).trans rfl, (blk_cell BK336.out 2).trans rfl, (blk_cell BK336.out 3).trans rfl, (blk_cell BK337.out 0).trans rfl, (blk_cell BK337.out 1).trans rfl, (blk_cell BK337.out 2).trans rfl, (blk_cell BK337.out 3).trans rfl⟩ (fun hHeld => ?_)
 generalize w9.drew = w10 at BK336 BK337 BK338 HB hHeld ⊢
 refine tz 0 7 ?_
 refine tz 2 9 ?_
 refine oz 1 8 fun K hK => ?_
 refine gz Try.func40 #[.agg #[.int .i64 a1_0, .int .i64 a1_1, .int .i64 a1_2, .int .i64 a1_3]] ?_
 with_reducible refine (impl_Range_tidy.calls a1_0 a1_1 a1_2 a1_3 t339 t340 t341 t342 _ A4.out).mono ?_
 rintro e w11 ⟨rfl, hb⟩
 refine ⟨_, rfl, ?_⟩
 replace BK336 := zb BK336 hb rfl
 replace BK337 := zb BK337 hb rfl
 replace BK338 := zb BK338 hb rfl
 replace HB := zS hb
 try clear hb
 refine hK.out _ _ ⟨(blk_cell BK336.out 0).trans rfl, (blk_cell BK336.out 1).trans rfl, (blk_cell BK336.out 2).trans rfl, (blk_cell BK336.out 3).trans rfl, (blk_cell BK337.out 0).trans rfl, (blk_cell BK337.out 1).trans rfl, (blk_cell BK337.out 2).trans rfl, (blk_cell BK337.out 3).trans rfl⟩ (fun hHeld => ?_)
 clear hK K
 refine nz ?_
 refine oz 3 10 fun K hK => ?_
 refine gz Try.func40 #[.agg #[.int .i64 a2_0, .int .i64 a2_1, .int .i64 a2_2, .int .i64 a2_3]] ?_
 with_reducible refine (impl_Range_tidy.calls a2_0 a2_1 a2_2 a2_3 t343 t344 t345 t346 _ A5.out).mono ?_
 rintro e w12 ⟨rfl, hb⟩
 refine ⟨_, rfl, ?_⟩
 replace BK336 := zb BK336 hb rfl
 replace BK337 := zb BK337 hb rfl
 replace BK338 := zb BK338 hb rfl
 replace HB := zS hb
 try clear hb
 refine hK.out _ _ ⟨(blk_cell BK336.out 0).trans rfl, (blk_cell BK336.out 1).trans rfl, (blk_cell BK336.out 2).trans rfl, (blk_cell BK336.out 3).trans rfl, (blk_cell BK337.out 0).trans rfl, (blk_cell BK337.out 1).trans rfl, (blk_cell BK337.out 2).trans rfl, (blk_cell BK337.out 3).trans rfl⟩ (fun hHeld => ?_)
 clear hK K
 refine nz ?_
 refine last_ (i := 4) (N := none) #[true, true, true, true, true, false] rfl rfl (by kernel_rfl) (by decide) (fun K hK => ?_)
 have hs13 : w12.cell? ⟨gb336, 0, none⟩ = some (.int .i64 a1_0) := (blk_cell BK336.out 0).trans rfl
 have hfs13 := blk_frozen BK336.out 0
 have hns13_1 := NB337_336.out
 have hns13_2 := NB338_336.out
 have hms13_1 := NB336_337.out
 have hms13_2 := NB336_338.out
 have hs14 : w12.cell? ⟨gb336, 1, none⟩ = some (.int .i64 a1_1) := (blk_cell BK336.out 1).trans rfl
 have hfs14 := blk_frozen BK336.out 1
 have hns14_1 := NB337_336.out
 have hns14_2 := NB338_336.out
 have hms14_1 := NB336_337.out
 have hms14_2 := NB336_338.out
 have hs15 : w12.cell? ⟨gb336, 2, none⟩ = some (.int .i64 a1_2) := (blk_cell BK336.out 2).trans rfl
 have hfs15 := blk_frozen BK336.out 2
 have hns15_1 := NB337_336.out
 have hns15_2 := NB338_336.out
 have hms15_1 := NB336_337.out
 have hms15_2 := NB336_338.out
 have hs16 : w12.cell? ⟨gb336, 3, none⟩ = some (.int .i64 a1_3) := (blk_cell BK336.out 3).trans rfl
 have hfs16 := blk_frozen BK336.out 3
 have hns16_1 := NB337_336.out
 have hns16_2 := NB338_336.out
 have hms16_1 := NB336_337.out
 have hms16_2 := NB336_338.out
 refine skip_ (w1 := ?_) (by rfl) rfl ?_ ?_
 rotate_left
 ·go_simp
  rfl
 refine hK.out _ _ ?_
 clear hK K
 refine last_ (i := 5) (N := none) #[true, true, true, true, true, true] rfl rfl (by kernel_rfl) (by decide) (fun K hK => ?_)
 have hs17 : w12.cell? ⟨gb337, 0, none⟩ = some (.int .i64 a2_0) := (blk_cell BK337.out 0).trans rfl
 have hfs17 := blk_frozen BK337.out 0
 have hns17_0 := NB336_337.out
 have hns17_2 := NB338_337.out
 have hms17_0 := NB337_336.out
 have hms17_2 := NB337_338.out
 have hs18 : w12.cell? ⟨gb337, 1, none⟩ = some (.int .i64 a2_1) := (blk_cell BK337.out 1).trans rfl
 have hfs18 := blk_frozen BK337.out 1
 have hns18_0 := NB336_337.out
 have hns18_2 := NB338_337.out
 have hms18_0 := NB337_336.out
 have hms18_2 := NB337_338.out
 have hs19 : w12.cell? ⟨gb337, 2, none⟩ = some (.int .i64 a2_2) := (blk_cell BK337.out 2).trans rfl
 have hfs19 := blk_frozen BK337.out 2
 have hns19_0 := NB336_337.out
 have hns19_2 := NB338_337.out
 have hms19_0 := NB337_336.out
 have hms19_2 := NB337_338.out
 have hs20 : w12.cell? ⟨gb337, 3, none⟩ = some (.int .i64 a2_3) := (blk_cell BK337.out 3).trans rfl
 have hfs20 := blk_frozen BK337.out 3
 have hns20_0 := NB336_337.out
 have hns20_2 := NB338_337.out
 have hms20_0 := NB337_336.out
 have hms20_2 := NB337_338.out
 refine skip_ (w1 := ?_) (by rfl) rfl ?_ ?_
 rotate_left
 ·go_simp
  rfl
 refine hK.out _ _ ?_
 clear hK K
 refine done_ (by kernel_rfl) ?_
 go_upto_region 2 with (fail)
 go_cut [22] (fun v22 wc => ∃ (kq : Nat) (x22_5 : Bool), v22 = .bool x22_5 ∧ Aside0 (impl_rangeOf.j0 kq a0 x22_5 t339 t340 t341 t342 t343 t344 t345 t346 = some (r1, r2, r3, r4)) ∧ Aside0 (kq ≤ k) ∧ Aside0 (wc.heap[gb336]? = some (.cells #[.int .i64 t339, .int .i64 t340, .int .i64 t341, .int .i64 t342] 24 (0, 0))) ∧ Aside0 (wc.heap[gb337]? = some (.cells #[.int .i64 t343, .int .i64 t344, .int .i64 t345, .int .i64 t346] 24 (0, 0))) ∧ Aside0 (wc.heap[gb338]? = some (.cells #[.int .i64 0, .int .i64 0, .int .i64 0, .int .i64 0] 24 (0, 0))) ∧ Aside0 (Below w.heap.size w wc))
 case first =>
  have H := HC6.out
  clear HC6
  by_cases c21 : t339 = t340
  ·rw [if_pos c21] at H
   have c21b0 : (t339 == t340) = true := beq_iff_eq.mpr c21
   have c21b1 : (t339 != t340) = false := bne_eq_false_iff_eq.mpr c21
   clear c21
   (first | rw [c21b0] | (simp only [i64_w, i32_w]; rw [c21b0]) | skip)
   have H' := Aside0.mk H
   clear H
   have hnb22 := NB336_337.out
   have hnc22 := NB337_336.out
   have hnb23 := NB336_338.out
   have hnc23 := NB338_336.out
   obtain ⟨hcz24_0, hcz24_1, hcz24_2, hcz24_3, hfz24_0, hfz24_1, hfz24_2, hfz24_3⟩ := zc4 BK336
   have hnb25 := NB337_338.out
   have hnc25 := NB338_337.out
   obtain ⟨hcz26_0, hcz26_1, hcz26_2, hcz26_3, hfz26_0, hfz26_1, hfz26_2, hfz26_3⟩ := zc4 BK337
   go_wp2
   go_meet
   case rel => exact ⟨_, ((t343 == t344)), (by first | rfl | (simp; done) | (simp [*]; done)), H', ⟨by first | omega | exact Nat.le_refl _⟩, ⟨by refine fq ?_ NB336_337.out; refine fq ?_ NB336_337.out; refine fq ?_ NB336_337.out; refine fq ?_ NB336_337.out; refine bq ?_; refine blk_put (cs := #[.int .i64 t339, .int .i64 t340, .int .i64 t341, .int .i64 a1_3]) ?_ 3 _ rfl; refine bq ?_; refine blk_put (cs := #[.int .i64 t339, .int .i64 t340, .int .i64 a1_2, .int .i64 a1_3]) ?_ 2 _ rfl; refine bq ?_; refine blk_put (cs := #[.int .i64 t339, .int .i64 a1_1, .int .i64 a1_2, .int .i64 a1_3]) ?_ 1 _ rfl; refine bq ?_; refine blk_put (cs := #[.int .i64 a1_0, .int .i64 a1_1, .int .i64 a1_2, .int .i64 a1_3]) ?_ 0 _ rfl; exact bq BK336.out⟩, ⟨by refine bq ?_; refine blk_put (cs := #[.int .i64 t343, .int .i64 t344, .int .i64 t345, .int .i64 a2_3]) ?_ 3 _ rfl; refine bq ?_; refine blk_put (cs := #[.int .i64 t343, .int .i64 t344, .int .i64 a2_2, .int .i64 a2_3]) ?_ 2 _ rfl; refine bq ?_; refine blk_put (cs := #[.int .i64 t343, .int .i64 a2_1, .int .i64 a2_2, .int .i64 a2_3]) ?_ 1 _ rfl; refine bq ?_; refine blk_put (cs := #[.int .i64 a2_0, .int .i64 a2_1, .int .i64 a2_2, .int .i64 a2_3]) ?_ 0 _ rfl; refine fq ?_ NB337_336.out; refine fq ?_ NB337_336.out; refine fq ?_ NB337_336.out; refine fq ?_ NB337_336.out; exact bq BK337.out⟩, ⟨by refine fq ?_ NB338_337.out; refine fq ?_ NB338_337.out; refine fq ?_ NB338_337.out; refine fq ?_ NB338_337.out; refine fq ?_ NB338_336.out; refine fq ?_ NB338_336.out; refine fq ?_ NB338_336.out; refine fq ?_ NB338_336.out; exact bq BK338.out⟩, ⟨zB⟩⟩
  ·rw [if_neg c21] at H
   have c21b0 : (t339 == t340) = false := beq_eq_false_iff_ne.mpr c21
   have c21b1 : (t339 != t340) = true := bne_iff_ne.mpr c21
   (first | rw [c21b0] | (simp only [i64_w, i32_w]; rw [c21b0]) | skip)
   have H' := Aside0.mk H
   clear H
   have hnb27 := NB336_337.out
   have hnc27 := NB337_336.out
   have hnb28 := NB336_338.out
   have hnc28 := NB338_336.out
   obtain ⟨hcz29_0, hcz29_1, hcz29_2, hcz29_3, hfz29_0, hfz29_1, hfz29_2, hfz29_3⟩ := zc4 BK336
   go_wp2
   go_meet
   case rel => exact ⟨_, (false), (by first | rfl | (simp; done) | (simp [*]; done)), H', ⟨by first | omega | exact Nat.le_refl _⟩, ⟨by refine fq ?_ NB336_337.out; refine fq ?_ NB336_337.out; refine fq ?_ NB336_337.out; refine fq ?_ NB336_337.out; refine bq ?_; refine blk_put (cs := #[.int .i64 t339, .int .i64 t340, .int .i64 t341, .int .i64 a1_3]) ?_ 3 _ rfl; refine bq ?_; refine blk_put (cs := #[.int .i64 t339, .int .i64 t340, .int .i64 a1_2, .int .i64 a1_3]) ?_ 2 _ rfl; refine bq ?_; refine blk_put (cs := #[.int .i64 t339, .int .i64 a1_1, .int .i64 a1_2, .int .i64 a1_3]) ?_ 1 _ rfl; refine bq ?_; refine blk_put (cs := #[.int .i64 a1_0, .int .i64 a1_1, .int .i64 a1_2, .int .i64 a1_3]) ?_ 0 _ rfl; exact bq BK336.out⟩, ⟨by refine bq ?_; refine blk_put (cs := #[.int .i64 t343, .int .i64 t344, .int .i64 t345, .int .i64 a2_3]) ?_ 3 _ rfl; refine bq ?_; refine blk_put (cs := #[.int .i64 t343, .int .i64 t344, .int .i64 a2_2, .int .i64 a2_3]) ?_ 2 _ rfl; refine bq ?_; refine blk_put (cs := #[.int .i64 t343, .int .i64 a2_1, .int .i64 a2_2, .int .i64 a2_3]) ?_ 1 _ rfl; refine bq ?_; refine blk_put (cs := #[.int .i64 a2_0, .int .i64 a2_1, .int .i64 a2_2, .int .i64 a2_3]) ?_ 0 _ rfl; refine fq ?_ NB337_336.out; refine fq ?_ NB337_336.out; refine fq ?_ NB337_336.out; refine fq ?_ NB337_336.out; exact bq BK337.out⟩, ⟨by refine fq ?_ NB338_337.out; refine fq ?_ NB338_337.out; refine fq ?_ NB338_337.out; refine fq ?_ NB338_337.out; refine fq ?_ NB338_336.out; refine fq ?_ NB338_336.out; refine fq ?_ NB338_336.out; refine fq ?_ NB338_336.out; exact bq BK338.out⟩, ⟨zB⟩⟩
 case rest =>
  clear HC6
  try clear c2
  try clear p2
  try clear c4
  try clear c21
  try clear c21b0
  try clear c21b1
  try clear c22
  try clear c23
  try clear c25
  try clear c27
  try clear c28
  try clear hcz24_0 hcz24_1 hcz24_2 hcz24_3 hfz24_0 hfz24_1 hfz24_2 hfz24_3
  try clear hcz26_0 hcz26_1 hcz26_2 hcz26_3 hfz26_0 hfz26_1 hfz26_2 hfz26_3
  try clear hcz29_0 hcz29_1 hcz29_2 hcz29_3 hfz29_0 hfz29_1 hfz29_2 hfz29_3
  obtain ⟨kq, x22_5, rfl, HA, HJ5, BK336, BK337, BK338, HB⟩ := hcut
  cases kq with
  | zero => exact absurd HA.out (by simp [impl_rangeOf.j0])
  | succ kj5 =>
   have H := HA.out
   clear HA
   simp only [impl_rangeOf.j0] at H
   by_cases c30 : x22_5 = true
   ·subst c30
    rw [if_pos rfl] at H
    replace H := Option.bind_eq_some_iff.mp H
    obtain ⟨t347, A310, H⟩ := H
    try dsimp only at H
    have A31 := Aside0.mk A310
    clear A310
    replace H := Option.bind_eq_some_iff.mp H
    obtain ⟨⟨t348, t349, t350, t351⟩, A320, H⟩ := H
    try dsimp only at H
    have A32 := Aside0.mk A320
    clear A320
    simp only [Option.some.injEq, Prod.mk.injEq] at H
    obtain ⟨rfl, rfl, rfl, rfl⟩ := H
    have hnb33 := NB336_337.out
    have hnc33 := NB337_336.out
    have hnb34 := NB336_338.out
    have hnc34 := NB338_336.out
    obtain ⟨hcz35_0, hcz35_1, hcz35_2, hcz35_3, hfz35_0, hfz35_1, hfz35_2, hfz35_3⟩ := zc4 BK336
    have hnb36 := NB337_338.out
    have hnc36 := NB338_337.out
    obtain ⟨hcz37_0, hcz37_1, hcz37_2, hcz37_3, hfz37_0, hfz37_1, hfz37_2, hfz37_3⟩ := zc4 BK337
    go_wp2_with (first | ((with_reducible refine gate_callee (f := 31) rfl ?_); refine gl 28 Try.func31 #[.int .i64 a0, .int .i64 t339, .int .i64 t343] ?_; (with_reducible refine (impl_reckon.calls a0 t339 t343 t347 _ A31.out).mono ?_); rintro e w' ⟨rfl, ⟨nd, rfl⟩⟩; refine ⟨_, rfl, ?_⟩; (try (rw [drewN_self wc]; generalize hq_ : World.drewN wc _ = wc; have n0_ : Aside0 (wc.heap[gb336]? = some (.cells #[.int .i64 t339, .int .i64 t340, .int .i64 t341, .int .i64 t342] 24 (0, 0))) := ⟨by rw [← hq_]; exact (by exact bq BK336.out)⟩; have n1_ : Aside0 (wc.heap[gb337]? = some (.cells #[.int .i64 t343, .int .i64 t344, .int .i64 t345, .int .i64 t346] 24 (0, 0))) := ⟨by rw [← hq_]; exact (by exact bq BK337.out)⟩; have n2_ : Aside0 (wc.heap[gb338]? = some (.cells #[.int .i64 0, .int .i64 0, .int .i64 0, .int .i64 0] 24 (0, 0))) := ⟨by rw [← hq_]; exact (by exact bq BK338.out)⟩; have n3_ : Aside0 (Below w.heap.size w wc) := ⟨by rw [← hq_]; exact zB⟩; clear BK336 BK337 BK338 HB hq_; have BK336 := n0_; have BK337 := n1_; have BK338 := n2_; have HB := n3_; clear n0_ n1_ n2_ n3_))) | ((with_reducible refine gate_callee (f := 13) rfl ?_); refine gl 29 Try.func13 #[.int .i64 t347] ?_; (with_reducible refine (impl_RangeOne.calls t347 t348 t349 t350 t351 _ A32.out).mono ?_); rintro e w38 ⟨rfl, hb⟩; refine ⟨_, rfl, ?_⟩; replace BK336 := zb BK336 hb rfl; replace BK337 := zb BK337 hb rfl; replace BK338 := zb BK338 hb rfl; replace HB := zS hb; try clear hb; obtain ⟨hcz39_0, hcz39_1, hcz39_2, hcz39_3, hfz39_0, hfz39_1, hfz39_2, hfz39_3⟩ := zc4 BK338))
    refine bodyPost_ret (results_cell_row rfl _ _ gb338 24 #[.int .i64 t348, .int .i64 t349, .int .i64 t350, .int .i64 t351] (0, 0) _ rfl (by refine bq ?_; refine blk_put (cs := #[.int .i64 t348, .int .i64 t349, .int .i64 t350, .int .i64 0]) ?_ 3 _ rfl; refine bq ?_; refine blk_put (cs := #[.int .i64 t348, .int .i64 t349, .int .i64 0, .int .i64 0]) ?_ 2 _ rfl; refine bq ?_; refine blk_put (cs := #[.int .i64 t348, .int .i64 0, .int .i64 0, .int .i64 0]) ?_ 1 _ rfl; refine bq ?_; refine blk_put (cs := #[.int .i64 0, .int .i64 0, .int .i64 0, .int .i64 0]) ?_ 0 _ rfl; exact bq BK338.out) Try.underlying24 rfl (by kernel_rfl)) rfl ?_
    exact ⟨zR, zB⟩
   ·replace c30 := Bool.eq_false_iff.mpr c30
    subst c30
    rw [if_neg (show ¬ (false = true) by decide)] at H
    by_cases c40 : a0 = 1
    ·rw [if_pos c40] at H
     have c40b0 : (a0 == 1) = true := beq_iff_eq.mpr c40
     have c40b1 : (a0 != 1) = false := bne_eq_false_iff_eq.mpr c40
     clear c40
     simp only [Option.some.injEq, Prod.mk.injEq] at H
     obtain ⟨rfl, rfl, rfl, rfl⟩ := H
     have hnb41 := NB337_336.out
     have hnc41 := NB336_337.out
     have hnb42 := NB337_338.out
     have hnc42 := NB338_337.out
     obtain ⟨hcz43_0, hcz43_1, hcz43_2, hcz43_3, hfz43_0, hfz43_1, hfz43_2, hfz43_3⟩ := zc4 BK337
     have hnb44 := NB338_336.out
     have hnc44 := NB336_338.out
     obtain ⟨hcz45_0, hcz45_1, hcz45_2, hcz45_3, hfz45_0, hfz45_1, hfz45_2, hfz45_3⟩ := zc4 BK338
     go_wp2
     refine bodyPost_ret (results_cell_row rfl _ _ gb338 24 #[.int .i64 t343, .int .i64 t344, .int .i64 t345, .int .i64 t346] (0, 0) _ rfl (by refine bq ?_; refine blk_put (cs := #[.int .i64 t343, .int .i64 t344, .int .i64 t345, .int .i64 0]) ?_ 3 _ rfl; refine bq ?_; refine blk_put (cs := #[.int .i64 t343, .int .i64 t344, .int .i64 0, .int .i64 0]) ?_ 2 _ rfl; refine bq ?_; refine blk_put (cs := #[.int .i64 t343, .int .i64 0, .int .i64 0, .int .i64 0]) ?_ 1 _ rfl; refine bq ?_; refine blk_put (cs := #[.int .i64 0, .int .i64 0, .int .i64 0, .int .i64 0]) ?_ 0 _ rfl; exact bq BK338.out) Try.underlying24 rfl (by kernel_rfl)) rfl ?_
     exact ⟨zR, zB⟩
    ·rw [if_neg c40] at H
     have c40b0 : (a0 == 1) = false := beq_eq_false_iff_ne.mpr c40
     have c40b1 : (a0 != 1) = true := bne_iff_ne.mpr c40
     by_cases c46 : a0 = 2
     ·rw [if_pos c46] at H
      have c46b0 : (a0 == 2) = true := beq_iff_eq.mpr c46
      have c46b1 : (a0 != 2) = false := bne_eq_false_iff_eq.mpr c46
      clear c46
      replace H := Option.bind_eq_some_iff.mp H
      obtain ⟨⟨t352, t353, t354, t355⟩, A470, H⟩ := H
      try dsimp only at H
      have A47 := Aside0.mk A470
      clear A470
      simp only [Option.some.injEq, Prod.mk.injEq] at H
      obtain ⟨rfl, rfl, rfl, rfl⟩ := H
      have hnb48 := NB336_337.out
      have hnc48 := NB337_336.out
      have hnb49 := NB336_338.out
      have hnc49 := NB338_336.out
      obtain ⟨hcz50_0, hcz50_1, hcz50_2, hcz50_3, hfz50_0, hfz50_1, hfz50_2, hfz50_3⟩ := zc4 BK336
      have hnb51 := NB337_338.out
      have hnc51 := NB338_337.out
      obtain ⟨hcz52_0, hcz52_1, hcz52_2, hcz52_3, hfz52_0, hfz52_1, hfz52_2, hfz52_3⟩ := zc4 BK337
      go_wp2_with (first | ((with_reducible refine gate_callee (f := 41) rfl ?_); refine gl 38 Try.func41 #[.agg #[.int .i64 t339, .int .i64 t340, .int .i64 t341, .int .i64 t342], .agg #[.int .i64 t343, .int .i64 t344, .int .i64 t345, .int .i64 t346]] ?_; (with_reducible refine (impl_added.calls kj5 t339 t340 t341 t342 t343 t344 t345 t346 t352 t353 t354 t355 _ A47.out).mono ?_); rintro e w53 ⟨rfl, hb⟩; refine ⟨_, rfl, ?_⟩; replace BK336 := zb BK336 hb rfl; replace BK337 := zb BK337 hb rfl; replace BK338 := zb BK338 hb rfl; replace HB := zS hb; try clear hb; obtain ⟨hcz54_0, hcz54_1, hcz54_2, hcz54_3, hfz54_0, hfz54_1, hfz54_2, hfz54_3⟩ := zc4 BK338))
      refine bodyPost_ret (results_cell_row rfl _ _ gb338 24 #[.int .i64 t352, .int .i64 t353, .int .i64 t354, .int .i64 t355] (0, 0) _ rfl (by refine bq ?_; refine blk_put (cs := #[.int .i64 t352, .int .i64 t353, .int .i64 t354, .int .i64 0]) ?_ 3 _ rfl; refine bq ?_; refine blk_put (cs := #[.int .i64 t352, .int .i64 t353, .int .i64 0, .int .i64 0]) ?_ 2 _ rfl; refine bq ?_; refine blk_put (cs := #[.int .i64 t352, .int .i64 0, .int .i64 0, .int .i64 0]) ?_ 1 _ rfl; refine bq ?_; refine blk_put (cs := #[.int .i64 0, .int .i64 0, .int .i64 0, .int .i64 0]) ?_ 0 _ rfl; exact bq BK338.out) Try.underlying24 rfl (by kernel_rfl)) rfl ?_
      exact ⟨zR, zB⟩
     ·rw [if_neg c46] at H
      have c46b0 : (a0 == 2) = false := beq_eq_false_iff_ne.mpr c46
      have c46b1 : (a0 != 2) = true := bne_iff_ne.mpr c46
      by_cases c55 : a0 = 3
      ·rw [if_pos c55] at H
       have c55b0 : (a0 == 3) = true := beq_iff_eq.mpr c55
       have c55b1 : (a0 != 3) = false := bne_eq_false_iff_eq.mpr c55
       clear c55
       by_cases c56 : t339 < t344
       ·rw [if_pos c56] at H
        have c56b0 : decide (t339 < t344) = true := decide_eq_true c56
        clear c56
        replace H := Option.bind_eq_some_iff.mp H
        obtain ⟨⟨t356, t357, t358, t359⟩, A570, H⟩ := H
        try dsimp only at H
        have A57 := Aside0.mk A570
        clear A570
        simp only [Option.some.injEq, Prod.mk.injEq] at H
        obtain ⟨rfl, rfl, rfl, rfl⟩ := H
        have hnb58 := NB336_337.out
        have hnc58 := NB337_336.out
        have hnb59 := NB336_338.out
        have hnc59 := NB338_336.out
        obtain ⟨hcz60_0, hcz60_1, hcz60_2, hcz60_3, hfz60_0, hfz60_1, hfz60_2, hfz60_3⟩ := zc4 BK336
        have hnb61 := NB337_338.out
        have hnc61 := NB338_337.out
        obtain ⟨hcz62_0, hcz62_1, hcz62_2, hcz62_3, hfz62_0, hfz62_1, hfz62_2, hfz62_3⟩ := zc4 BK337
        go_wp2_with (first | ((with_reducible refine gate_callee (f := 42) rfl ?_); refine gl 46 Try.func42 #[] ?_; (with_reducible refine (impl_rangeAll.calls  t356 t357 t358 t359 _ A57.out).mono ?_); rintro e w63 ⟨rfl, hb⟩; refine ⟨_, rfl, ?_⟩; replace BK336 := zb BK336 hb rfl; replace BK337 := zb BK337 hb rfl; replace BK338 := zb BK338 hb rfl; replace HB := zS hb; try clear hb; obtain ⟨hcz64_0, hcz64_1, hcz64_2, hcz64_3, hfz64_0, hfz64_1, hfz64_2, hfz64_3⟩ := zc4 BK338))
        refine bodyPost_ret (results_cell_row rfl _ _ gb338 24 #[.int .i64 t356, .int .i64 t357, .int .i64 t358, .int .i64 t359] (0, 0) _ rfl (by refine bq ?_; refine blk_put (cs := #[.int .i64 t356, .int .i64 t357, .int .i64 t358, .int .i64 0]) ?_ 3 _ rfl; refine bq ?_; refine blk_put (cs := #[.int .i64 t356, .int .i64 t357, .int .i64 0, .int .i64 0]) ?_ 2 _ rfl; refine bq ?_; refine blk_put (cs := #[.int .i64 t356, .int .i64 0, .int .i64 0, .int .i64 0]) ?_ 1 _ rfl; refine bq ?_; refine blk_put (cs := #[.int .i64 0, .int .i64 0, .int .i64 0, .int .i64 0]) ?_ 0 _ rfl; exact bq BK338.out) Try.underlying24 rfl (by kernel_rfl)) rfl ?_
        exact ⟨zR, zB⟩
       ·rw [if_neg c56] at H
        have c56b0 : decide (t339 < t344) = false := decide_eq_false c56
        clear c56
        replace H := Option.bind_eq_some_iff.mp H
        obtain ⟨⟨t360, t361, t362, t363⟩, A650, H⟩ := H
        try dsimp only at H
        have A65 := Aside0.mk A650
        clear A650
        simp only [Option.some.injEq, Prod.mk.injEq] at H
        obtain ⟨rfl, rfl, rfl, rfl⟩ := H
        have hnb66 := NB336_337.out
        have hnc66 := NB337_336.out
        have hnb67 := NB336_338.out
        have hnc67 := NB338_336.out
        obtain ⟨hcz68_0, hcz68_1, hcz68_2, hcz68_3, hfz68_0, hfz68_1, hfz68_2, hfz68_3⟩ := zc4 BK336
        have hnb69 := NB337_338.out
        have hnc69 := NB338_337.out
        obtain ⟨hcz70_0, hcz70_1, hcz70_2, hcz70_3, hfz70_0, hfz70_1, hfz70_2, hfz70_3⟩ := zc4 BK337
        go_wp2_with (first | ((with_reducible refine gate_callee (f := 43) rfl ?_); refine gl 57 Try.func43 #[.int .i64 (wrap64 (t339 - t344)), .int .i64 (wrap64 (t340 - t343))] ?_; (with_reducible refine (impl_fromTo.calls (wrap64 (t339 - t344)) (wrap64 (t340 - t343)) t360 t361 t362 t363 _ A65.out).mono ?_); rintro e w71 ⟨rfl, hb⟩; refine ⟨_, rfl, ?_⟩; replace BK336 := zb BK336 hb rfl; replace BK337 := zb BK337 hb rfl; replace BK338 := zb BK338 hb rfl; replace HB := zS hb; try clear hb; obtain ⟨hcz72_0, hcz72_1, hcz72_2, hcz72_3, hfz72_0, hfz72_1, hfz72_2, hfz72_3⟩ := zc4 BK338))
        refine bodyPost_ret (results_cell_row rfl _ _ gb338 24 #[.int .i64 t360, .int .i64 t361, .int .i64 t362, .int .i64 t363] (0, 0) _ rfl (by refine bq ?_; refine blk_put (cs := #[.int .i64 t360, .int .i64 t361, .int .i64 t362, .int .i64 0]) ?_ 3 _ rfl; refine bq ?_; refine blk_put (cs := #[.int .i64 t360, .int .i64 t361, .int .i64 0, .int .i64 0]) ?_ 2 _ rfl; refine bq ?_; refine blk_put (cs := #[.int .i64 t360, .int .i64 0, .int .i64 0, .int .i64 0]) ?_ 1 _ rfl; refine bq ?_; refine blk_put (cs := #[.int .i64 0, .int .i64 0, .int .i64 0, .int .i64 0]) ?_ 0 _ rfl; exact bq BK338.out) Try.underlying24 rfl (by kernel_rfl)) rfl ?_
        exact ⟨zR, zB⟩
      ·rw [if_neg c55] at H
       have c55b0 : (a0 == 3) = false := beq_eq_false_iff_ne.mpr c55
       have c55b1 : (a0 != 3) = true := bne_iff_ne.mpr c55
       by_cases c73 : a0 = 4
       ·rw [if_pos c73] at H
        have c73b0 : (a0 == 4) = true := beq_iff_eq.mpr c73
        have c73b1 : (a0 != 4) = false := bne_eq_false_iff_eq.mpr c73
        clear c73
        replace H := Option.bind_eq_some_iff.mp H
        obtain ⟨⟨t364, t365, t366, t367⟩, A740, H⟩ := H
        try dsimp only at H
        have A74 := Aside0.mk A740
        clear A740
        simp only [Option.some.injEq, Prod.mk.injEq] at H
        obtain ⟨rfl, rfl, rfl, rfl⟩ := H
        have hnb75 := NB336_337.out
        have hnc75 := NB337_336.out
        have hnb76 := NB336_338.out
        have hnc76 := NB338_336.out
        obtain ⟨hcz77_0, hcz77_1, hcz77_2, hcz77_3, hfz77_0, hfz77_1, hfz77_2, hfz77_3⟩ := zc4 BK336
        have hnb78 := NB337_338.out
        have hnc78 := NB338_337.out
        obtain ⟨hcz79_0, hcz79_1, hcz79_2, hcz79_3, hfz79_0, hfz79_1, hfz79_2, hfz79_3⟩ := zc4 BK337
        go_wp2_with (first | ((with_reducible refine gate_callee (f := 44) rfl ?_); refine gl 62 Try.func44 #[.agg #[.int .i64 t339, .int .i64 t340, .int .i64 t341, .int .i64 t342], .agg #[.int .i64 t343, .int .i64 t344, .int .i64 t345, .int .i64 t346]] ?_; (with_reducible refine (impl_times.calls kj5 t339 t340 t341 t342 t343 t344 t345 t346 t364 t365 t366 t367 _ A74.out).mono ?_); rintro e w80 ⟨rfl, hb⟩; refine ⟨_, rfl, ?_⟩; replace BK336 := zb BK336 hb rfl; replace BK337 := zb BK337 hb rfl; replace BK338 := zb BK338 hb rfl; replace HB := zS hb; try clear hb; obtain ⟨hcz81_0, hcz81_1, hcz81_2, hcz81_3, hfz81_0, hfz81_1, hfz81_2, hfz81_3⟩ := zc4 BK338))
        refine bodyPost_ret (results_cell_row rfl _ _ gb338 24 #[.int .i64 t364, .int .i64 t365, .int .i64 t366, .int .i64 t367] (0, 0) _ rfl (by refine bq ?_; refine blk_put (cs := #[.int .i64 t364, .int .i64 t365, .int .i64 t366, .int .i64 0]) ?_ 3 _ rfl; refine bq ?_; refine blk_put (cs := #[.int .i64 t364, .int .i64 t365, .int .i64 0, .int .i64 0]) ?_ 2 _ rfl; refine bq ?_; refine blk_put (cs := #[.int .i64 t364, .int .i64 0, .int .i64 0, .int .i64 0]) ?_ 1 _ rfl; refine bq ?_; refine blk_put (cs := #[.int .i64 0, .int .i64 0, .int .i64 0, .int .i64 0]) ?_ 0 _ rfl; exact bq BK338.out) Try.underlying24 rfl (by kernel_rfl)) rfl ?_
        exact ⟨zR, zB⟩
       ·rw [if_neg c73] at H
        have c73b0 : (a0 == 4) = false := beq_eq_false_iff_ne.mpr c73
        have c73b1 : (a0 != 4) = true := bne_iff_ne.mpr c73
        have HC82 := Aside0.mk H
        clear H
        go_upto_if 63 with (fail)
        go_cut [63] (fun v63 wc => ∃ (kq : Nat) (x63_81 : Bool), v63 = .bool x63_81 ∧ Aside0 (impl_rangeOf.j1 kq a0 a0 x63_81 t339 t340 t341 t342 t343 t344 t345 t346 = some (r1, r2, r3, r4)) ∧ Aside0 (kq ≤ kj5) ∧ Aside0 (wc.heap[gb336]? = some (.cells #[.int .i64 t339, .int .i64 t340, .int .i64 t341, .int .i64 t342] 24 (0, 0))) ∧ Aside0 (wc.heap[gb337]? = some (.cells #[.int .i64 t343, .int .i64 t344, .int .i64 t345, .int .i64 t346] 24 (0, 0))) ∧ Aside0 (wc.heap[gb338]? = some (.cells #[.int .i64 0, .int .i64 0, .int .i64 0, .int .i64 0] 24 (0, 0))) ∧ Aside0 (Below w.heap.size w wc))
        case first =>
         have H := HC82.out
         clear HC82
         by_cases c83 : a0 = 5
         ·rw [if_pos c83] at H
          have c83b0 : (a0 == 5) = true := beq_iff_eq.mpr c83
          have c83b1 : (a0 != 5) = false := bne_eq_false_iff_eq.mpr c83
          clear c83
          (first | rw [c83b0] | (simp only [i64_w, i32_w]; rw [c83b0]) | skip)
          have H' := Aside0.mk H
          clear H
          go_wp2
          go_meet
          case rel => exact ⟨_, ((a0 == 5)), (by first | rfl | (simp; done) | (simp [*]; done)), H', ⟨by have := HJ5.out; first | omega | exact Nat.le_refl _⟩, ⟨by exact bq BK336.out⟩, ⟨by exact bq BK337.out⟩, ⟨by exact bq BK338.out⟩, ⟨zB⟩⟩
         ·rw [if_neg c83] at H
          have c83b0 : (a0 == 5) = false := beq_eq_false_iff_ne.mpr c83
          have c83b1 : (a0 != 5) = true := bne_iff_ne.mpr c83
          (first | rw [c83b0] | (simp only [i64_w, i32_w]; rw [c83b0]) | skip)
          by_cases c84 : a0 = 6
          ·rw [if_pos c84] at H
           have c84b0 : (a0 == 6) = true := beq_iff_eq.mpr c84
           have c84b1 : (a0 != 6) = false := bne_eq_false_iff_eq.mpr c84
           clear c84
           have H' := Aside0.mk H
           clear H
           go_wp2
           go_meet
           case rel => exact ⟨_, ((a0 == 6)), (by first | rfl | (simp; done) | (simp [*]; done)), H', ⟨by have := HJ5.out; first | omega | exact Nat.le_refl _⟩, ⟨by exact bq BK336.out⟩, ⟨by exact bq BK337.out⟩, ⟨by exact bq BK338.out⟩, ⟨zB⟩⟩
          ·rw [if_neg c84] at H
           have c84b0 : (a0 == 6) = false := beq_eq_false_iff_ne.mpr c84
           have c84b1 : (a0 != 6) = true := bne_iff_ne.mpr c84
           have H' := Aside0.mk H
           clear H
           go_wp2
           go_meet
           case rel => exact ⟨_, ((a0 == 7)), (by first | rfl | (simp; done) | (simp [*]; done)), H', ⟨by have := HJ5.out; first | omega | exact Nat.le_refl _⟩, ⟨by exact bq BK336.out⟩, ⟨by exact bq BK337.out⟩, ⟨by exact bq BK338.out⟩, ⟨zB⟩⟩
        case rest =>
         clear HC82
         try clear c1
         try clear c2
         try clear p2 p2
         try clear c3
         try clear c4
         try clear c5
         try clear c6
         try clear p6
         try clear c7
         try clear c8
         try clear c13
         try clear c21
         try clear c21b0
         try clear c21b1
         try clear c22
         try clear c23
         try clear c25
         try clear c27
         try clear c28
         try clear c30
         try clear c31
         try clear c33
         try clear c34
         try clear c36
         try clear c40
         try clear c40b0
         try clear c40b1
         try clear c41
         try clear c42
         try clear c43
         try clear c44
         try clear c46
         try clear c46b0
         try clear c46b1
         try clear c48
         try clear c49
         try clear c51
         try clear c55
         try clear c55b0
         try clear c55b1
         try clear c56
         try clear c56b0
         try clear c58
         try clear c59
         try clear c61
         try clear p64
         try clear c66
         try clear c67
         try clear c69
         try clear c73
         try clear c73b0
         try clear c73b1
         try clear c75
         try clear c76
         try clear c78
         try clear c83
         try clear c83b0
         try clear c83b1
         try clear c84
         try clear c84b0
         try clear c84b1
         try clear hcz24_0 hcz24_1 hcz24_2 hcz24_3 hfz24_0 hfz24_1 hfz24_2 hfz24_3
         try clear hcz26_0 hcz26_1 hcz26_2 hcz26_3 hfz26_0 hfz26_1 hfz26_2 hfz26_3
         try clear hcz29_0 hcz29_1 hcz29_2 hcz29_3 hfz29_0 hfz29_1 hfz29_2 hfz29_3
         try clear hcz35_0 hcz35_1 hcz35_2 hcz35_3 hfz35_0 hfz35_1 hfz35_2 hfz35_3
         try clear hcz37_0 hcz37_1 hcz37_2 hcz37_3 hfz37_0 hfz37_1 hfz37_2 hfz37_3
         try clear hcz39_0 hcz39_1 hcz39_2 hcz39_3 hfz39_0 hfz39_1 hfz39_2 hfz39_3
         try clear hcz43_0 hcz43_1 hcz43_2 hcz43_3 hfz43_0 hfz43_1 hfz43_2 hfz43_3
         try clear hcz45_0 hcz45_1 hcz45_2 hcz45_3 hfz45_0 hfz45_1 hfz45_2 hfz45_3
         try clear hcz50_0 hcz50_1 hcz50_2 hcz50_3 hfz50_0 hfz50_1 hfz50_2 hfz50_3
         try clear hcz52_0 hcz52_1 hcz52_2 hcz52_3 hfz52_0 hfz52_1 hfz52_2 hfz52_3
         try clear hcz54_0 hcz54_1 hcz54_2 hcz54_3 hfz54_0 hfz54_1 hfz54_2 hfz54_3
         try clear hcz60_0 hcz60_1 hcz60_2 hcz60_3 hfz60_0 hfz60_1 hfz60_2 hfz60_3
         try clear hcz62_0 hcz62_1 hcz62_2 hcz62_3 hfz62_0 hfz62_1 hfz62_2 hfz62_3
         try clear hcz64_0 hcz64_1 hcz64_2 hcz64_3 hfz64_0 hfz64_1 hfz64_2 hfz64_3
         try clear hcz68_0 hcz68_1 hcz68_2 hcz68_3 hfz68_0 hfz68_1 hfz68_2 hfz68_3
         try clear hcz70_0 hcz70_1 hcz70_2 hcz70_3 hfz70_0 hfz70_1 hfz70_2 hfz70_3
         try clear hcz72_0 hcz72_1 hcz72_2 hcz72_3 hfz72_0 hfz72_1 hfz72_2 hfz72_3
         try clear hcz77_0 hcz77_1 hcz77_2 hcz77_3 hfz77_0 hfz77_1 hfz77_2 hfz77_3
         try clear hcz79_0 hcz79_1 hcz79_2 hcz79_3 hfz79_0 hfz79_1 hfz79_2 hfz79_3
         try clear hcz81_0 hcz81_1 hcz81_2 hcz81_3 hfz81_0 hfz81_1 hfz81_2 hfz81_3
         obtain ⟨kq, x63_81, rfl, HA, HJ81, BK336, BK337, BK338, HB⟩ := hcut
         cases kq with
         | zero => exact absurd HA.out (by simp [impl_rangeOf.j1])
         | succ kj81 =>
          have H := HA.out
          clear HA
          simp only [impl_rangeOf.j1] at H
          by_cases c85 : x63_81 = true
          ·subst c85
           rw [if_pos rfl] at H
           replace H := Option.bind_eq_some_iff.mp H
           obtain ⟨⟨t368, t369, t370, t371⟩, A860, H⟩ := H
           try dsimp only at H
           have A86 := Aside0.mk A860
           clear A860
           simp only [Option.some.injEq, Prod.mk.injEq] at H
           obtain ⟨rfl, rfl, rfl, rfl⟩ := H
           have hnb87 := NB336_337.out
           have hnc87 := NB337_336.out
           have hnb88 := NB336_338.out
           have hnc88 := NB338_336.out
           obtain ⟨hcz89_0, hcz89_1, hcz89_2, hcz89_3, hfz89_0, hfz89_1, hfz89_2, hfz89_3⟩ := zc4 BK336
           have hnb90 := NB337_338.out
           have hnc90 := NB338_337.out
           obtain ⟨hcz91_0, hcz91_1, hcz91_2, hcz91_3, hfz91_0, hfz91_1, hfz91_2, hfz91_3⟩ := zc4 BK337
           go_wp2_with (first | ((with_reducible refine gate_callee (f := 45) rfl ?_); refine gl 70 Try.func45 #[.int .i64 a0, .agg #[.int .i64 t339, .int .i64 t340, .int .i64 t341, .int .i64 t342], .agg #[.int .i64 t343, .int .i64 t344, .int .i64 t345, .int .i64 t346]] ?_; (with_reducible refine (impl_bitwise.calls kj81 a0 t339 t340 t341 t342 t343 t344 t345 t346 t368 t369 t370 t371 _ A86.out).mono ?_); rintro e w92 ⟨rfl, hb⟩; refine ⟨_, rfl, ?_⟩; replace BK336 := zb BK336 hb rfl; replace BK337 := zb BK337 hb rfl; replace BK338 := zb BK338 hb rfl; replace HB := zS hb; try clear hb; obtain ⟨hcz93_0, hcz93_1, hcz93_2, hcz93_3, hfz93_0, hfz93_1, hfz93_2, hfz93_3⟩ := zc4 BK338))
           refine bodyPost_ret (results_cell_row rfl _ _ gb338 24 #[.int .i64 t368, .int .i64 t369, .int .i64 t370, .int .i64 t371] (0, 0) _ rfl (by refine bq ?_; refine blk_put (cs := #[.int .i64 t368, .int .i64 t369, .int .i64 t370, .int .i64 0]) ?_ 3 _ rfl; refine bq ?_; refine blk_put (cs := #[.int .i64 t368, .int .i64 t369, .int .i64 0, .int .i64 0]) ?_ 2 _ rfl; refine bq ?_; refine blk_put (cs := #[.int .i64 t368, .int .i64 0, .int .i64 0, .int .i64 0]) ?_ 1 _ rfl; refine bq ?_; refine blk_put (cs := #[.int .i64 0, .int .i64 0, .int .i64 0, .int .i64 0]) ?_ 0 _ rfl; exact bq BK338.out) Try.underlying24 rfl (by kernel_rfl)) rfl ?_
           exact ⟨zR, zB⟩
          ·replace c85 := Bool.eq_false_iff.mpr c85
           subst c85
           rw [if_neg (show ¬ (false = true) by decide)] at H
           have HC94 := Aside0.mk H
           clear H
           go_upto_if 71 with (fail)
           go_cut [71] (fun v71 wc => ∃ (kq : Nat) (x71_93 : Bool), v71 = .bool x71_93 ∧ Aside0 (impl_rangeOf.j2 kq a0 x71_93 t339 t340 t341 t342 t343 t344 t345 t346 = some (r1, r2, r3, r4)) ∧ Aside0 (kq ≤ kj81) ∧ Aside0 (wc.heap[gb336]? = some (.cells #[.int .i64 t339, .int .i64 t340, .int .i64 t341, .int .i64 t342] 24 (0, 0))) ∧ Aside0 (wc.heap[gb337]? = some (.cells #[.int .i64 t343, .int .i64 t344, .int .i64 t345, .int .i64 t346] 24 (0, 0))) ∧ Aside0 (wc.heap[gb338]? = some (.cells #[.int .i64 0, .int .i64 0, .int .i64 0, .int .i64 0] 24 (0, 0))) ∧ Aside0 (Below w.heap.size w wc))
           case first =>
            have H := HC94.out
            clear HC94
            by_cases c95 : a0 = 8
            ·rw [if_pos c95] at H
             have c95b0 : (a0 == 8) = true := beq_iff_eq.mpr c95
             have c95b1 : (a0 != 8) = false := bne_eq_false_iff_eq.mpr c95
             clear c95
             (first | rw [c95b0] | (simp only [i64_w, i32_w]; rw [c95b0]) | skip)
             have H' := Aside0.mk H
             clear H
             go_wp2
             go_meet
             case rel => exact ⟨_, ((a0 == 8)), (by first | rfl | (simp; done) | (simp [*]; done)), H', ⟨by have := HJ5.out; have := HJ81.out; first | omega | exact Nat.le_refl _⟩, ⟨by exact bq BK336.out⟩, ⟨by exact bq BK337.out⟩, ⟨by exact bq BK338.out⟩, ⟨zB⟩⟩
            ·rw [if_neg c95] at H
             have c95b0 : (a0 == 8) = false := beq_eq_false_iff_ne.mpr c95
             have c95b1 : (a0 != 8) = true := bne_iff_ne.mpr c95
             (first | rw [c95b0] | (simp only [i64_w, i32_w]; rw [c95b0]) | skip)
             have H' := Aside0.mk H
             clear H
             go_wp2
             go_meet
             case rel => exact ⟨_, ((a0 == 9)), (by first | rfl | (simp; done) | (simp [*]; done)), H', ⟨by have := HJ5.out; have := HJ81.out; first | omega | exact Nat.le_refl _⟩, ⟨by exact bq BK336.out⟩, ⟨by exact bq BK337.out⟩, ⟨by exact bq BK338.out⟩, ⟨zB⟩⟩
           case rest =>
            clear HC94
            try clear c1
            try clear c2
            try clear p2 p2
            try clear c3
            try clear c4
            try clear c5
            try clear c6
            try clear p6 p6
            try clear c7
            try clear c8
            try clear c9
            try clear c13
            try clear c21
            try clear c21b0
            try clear c21b1
            try clear c22
            try clear c23
            try clear c25
            try clear c27
            try clear c28
            try clear c30
            try clear c31
            try clear c33
            try clear c34
            try clear c36
            try clear c40
            try clear c40b0
            try clear c40b1
            try clear c41
            try clear c42
            try clear c43
            try clear c44
            try clear c45
            try clear c46
            try clear c46b0
            try clear c46b1
            try clear c48
            try clear c49
            try clear c51
            try clear c55
            try clear c55b0
            try clear c55b1
            try clear c56
            try clear c56b0
            try clear c58
            try clear c59
            try clear c61
            try clear p64 p64
            try clear c66
            try clear c67
            try clear c69
            try clear c73
            try clear c73b0
            try clear c73b1
            try clear c75
            try clear c76
            try clear c78
            try clear c83
            try clear c83b0
            try clear c83b1
            try clear c84
            try clear c84b0
            try clear c84b1
            try clear c85
            try clear c87
            try clear c88
            try clear c90
            try clear c95
            try clear c95b0
            try clear c95b1
            try clear hcz24_0 hcz24_1 hcz24_2 hcz24_3 hfz24_0 hfz24_1 hfz24_2 hfz24_3
            try clear hcz26_0 hcz26_1 hcz26_2 hcz26_3 hfz26_0 hfz26_1 hfz26_2 hfz26_3
            try clear hcz29_0 hcz29_1 hcz29_2 hcz29_3 hfz29_0 hfz29_1 hfz29_2 hfz29_3
            try clear hcz35_0 hcz35_1 hcz35_2 hcz35_3 hfz35_0 hfz35_1 hfz35_2 hfz35_3
            try clear hcz37_0 hcz37_1 hcz37_2 hcz37_3 hfz37_0 hfz37_1 hfz37_2 hfz37_3
            try clear hcz39_0 hcz39_1 hcz39_2 hcz39_3 hfz39_0 hfz39_1 hfz39_2 hfz39_3
            try clear hcz43_0 hcz43_1 hcz43_2 hcz43_3 hfz43_0 hfz43_1 hfz43_2 hfz43_3
            try clear hcz45_0 hcz45_1 hcz45_2 hcz45_3 hfz45_0 hfz45_1 hfz45_2 hfz45_3
            try clear hcz50_0 hcz50_1 hcz50_2 hcz50_3 hfz50_0 hfz50_1 hfz50_2 hfz50_3
            try clear hcz52_0 hcz52_1 hcz52_2 hcz52_3 hfz52_0 hfz52_1 hfz52_2 hfz52_3
            try clear hcz54_0 hcz54_1 hcz54_2 hcz54_3 hfz54_0 hfz54_1 hfz54_2 hfz54_3
            try clear hcz60_0 hcz60_1 hcz60_2 hcz60_3 hfz60_0 hfz60_1 hfz60_2 hfz60_3
            try clear hcz62_0 hcz62_1 hcz62_2 hcz62_3 hfz62_0 hfz62_1 hfz62_2 hfz62_3
            try clear hcz64_0 hcz64_1 hcz64_2 hcz64_3 hfz64_0 hfz64_1 hfz64_2 hfz64_3
            try clear hcz68_0 hcz68_1 hcz68_2 hcz68_3 hfz68_0 hfz68_1 hfz68_2 hfz68_3
            try clear hcz70_0 hcz70_1 hcz70_2 hcz70_3 hfz70_0 hfz70_1 hfz70_2 hfz70_3
            try clear hcz72_0 hcz72_1 hcz72_2 hcz72_3 hfz72_0 hfz72_1 hfz72_2 hfz72_3
            try clear hcz77_0 hcz77_1 hcz77_2 hcz77_3 hfz77_0 hfz77_1 hfz77_2 hfz77_3
            try clear hcz79_0 hcz79_1 hcz79_2 hcz79_3 hfz79_0 hfz79_1 hfz79_2 hfz79_3
            try clear hcz81_0 hcz81_1 hcz81_2 hcz81_3 hfz81_0 hfz81_1 hfz81_2 hfz81_3
            try clear hcz89_0 hcz89_1 hcz89_2 hcz89_3 hfz89_0 hfz89_1 hfz89_2 hfz89_3
            try clear hcz91_0 hcz91_1 hcz91_2 hcz91_3 hfz91_0 hfz91_1 hfz91_2 hfz91_3
            try clear hcz93_0 hcz93_1 hcz93_2 hcz93_3 hfz93_0 hfz93_1 hfz93_2 hfz93_3
            obtain ⟨kq, x71_93, rfl, HA, HJ93, BK336, BK337, BK338, HB⟩ := hcut
            cases kq with
            | zero => exact absurd HA.out (by simp [impl_rangeOf.j2])
            | succ kj93 =>
             have H := HA.out
             clear HA
             simp only [impl_rangeOf.j2] at H
             by_cases c96 : x71_93 = true
             ·subst c96
              rw [if_pos rfl] at H
              replace H := Option.bind_eq_some_iff.mp H
              obtain ⟨⟨t372, t373, t374, t375⟩, A970, H⟩ := H
              try dsimp only at H
              have A97 := Aside0.mk A970
              clear A970
              simp only [Option.some.injEq, Prod.mk.injEq] at H
              obtain ⟨rfl, rfl, rfl, rfl⟩ := H
              have hnb98 := NB336_337.out
              have hnc98 := NB337_336.out
              have hnb99 := NB336_338.out
              have hnc99 := NB338_336.out
              obtain ⟨hcz100_0, hcz100_1, hcz100_2, hcz100_3, hfz100_0, hfz100_1, hfz100_2, hfz100_3⟩ := zc4 BK336
              have hnb101 := NB337_338.out
              have hnc101 := NB338_337.out
              obtain ⟨hcz102_0, hcz102_1, hcz102_2, hcz102_3, hfz102_0, hfz102_1, hfz102_2, hfz102_3⟩ := zc4 BK337
              go_wp2_with (first | ((with_reducible refine gate_callee (f := 46) rfl ?_); refine gl 77 Try.func46 #[.int .i64 a0, .agg #[.int .i64 t339, .int .i64 t340, .int .i64 t341, .int .i64 t342], .agg #[.int .i64 t343, .int .i64 t344, .int .i64 t345, .int .i64 t346]] ?_; (with_reducible refine (impl_shifted.calls kj93 a0 t339 t340 t341 t342 t343 t344 t345 t346 t372 t373 t374 t375 _ A97.out).mono ?_); rintro e w103 ⟨rfl, hb⟩; refine ⟨_, rfl, ?_⟩; replace BK336 := zb BK336 hb rfl; replace BK337 := zb BK337 hb rfl; replace BK338 := zb BK338 hb rfl; replace HB := zS hb; try clear hb; obtain ⟨hcz104_0, hcz104_1, hcz104_2, hcz104_3, hfz104_0, hfz104_1, hfz104_2, hfz104_3⟩ := zc4 BK338))
              refine bodyPost_ret (results_cell_row rfl _ _ gb338 24 #[.int .i64 t372, .int .i64 t373, .int .i64 t374, .int .i64 t375] (0, 0) _ rfl (by refine bq ?_; refine blk_put (cs := #[.int .i64 t372, .int .i64 t373, .int .i64 t374, .int .i64 0]) ?_ 3 _ rfl; refine bq ?_; refine blk_put (cs := #[.int .i64 t372, .int .i64 t373, .int .i64 0, .int .i64 0]) ?_ 2 _ rfl; refine bq ?_; refine blk_put (cs := #[.int .i64 t372, .int .i64 0, .int .i64 0, .int .i64 0]) ?_ 1 _ rfl; refine bq ?_; refine blk_put (cs := #[.int .i64 0, .int .i64 0, .int .i64 0, .int .i64 0]) ?_ 0 _ rfl; exact bq BK338.out) Try.underlying24 rfl (by kernel_rfl)) rfl ?_
              exact ⟨zR, zB⟩
             ·replace c96 := Bool.eq_false_iff.mpr c96
              subst c96
              rw [if_neg (show ¬ (false = true) by decide)] at H
              replace H := Option.bind_eq_some_iff.mp H
              obtain ⟨⟨t376, t377, t378, t379⟩, A1050, H⟩ := H
              try dsimp only at H
              have A105 := Aside0.mk A1050
              clear A1050
              simp only [Option.some.injEq, Prod.mk.injEq] at H
              obtain ⟨rfl, rfl, rfl, rfl⟩ := H
              have hnb106 := NB336_337.out
              have hnc106 := NB337_336.out
              have hnb107 := NB336_338.out
              have hnc107 := NB338_336.out
              obtain ⟨hcz108_0, hcz108_1, hcz108_2, hcz108_3, hfz108_0, hfz108_1, hfz108_2, hfz108_3⟩ := zc4 BK336
              have hnb109 := NB337_338.out
              have hnc109 := NB338_337.out
              obtain ⟨hcz110_0, hcz110_1, hcz110_2, hcz110_3, hfz110_0, hfz110_1, hfz110_2, hfz110_3⟩ := zc4 BK337
              go_wp2_with (first | ((with_reducible refine gate_callee (f := 47) rfl ?_); refine gl 81 Try.func47 #[.int .i64 a0, .agg #[.int .i64 t339, .int .i64 t340, .int .i64 t341, .int .i64 t342], .agg #[.int .i64 t343, .int .i64 t344, .int .i64 t345, .int .i64 t346]] ?_; (with_reducible refine (impl_parted.calls kj93 a0 t339 t340 t341 t342 t343 t344 t345 t346 t376 t377 t378 t379 _ A105.out).mono ?_); rintro e w111 ⟨rfl, hb⟩; refine ⟨_, rfl, ?_⟩; replace BK336 := zb BK336 hb rfl; replace BK337 := zb BK337 hb rfl; replace BK338 := zb BK338 hb rfl; replace HB := zS hb; try clear hb; obtain ⟨hcz112_0, hcz112_1, hcz112_2, hcz112_3, hfz112_0, hfz112_1, hfz112_2, hfz112_3⟩ := zc4 BK338))
              refine bodyPost_ret (results_cell_row rfl _ _ gb338 24 #[.int .i64 t376, .int .i64 t377, .int .i64 t378, .int .i64 t379] (0, 0) _ rfl (by refine bq ?_; refine blk_put (cs := #[.int .i64 t376, .int .i64 t377, .int .i64 t378, .int .i64 0]) ?_ 3 _ rfl; refine bq ?_; refine blk_put (cs := #[.int .i64 t376, .int .i64 t377, .int .i64 0, .int .i64 0]) ?_ 2 _ rfl; refine bq ?_; refine blk_put (cs := #[.int .i64 t376, .int .i64 0, .int .i64 0, .int .i64 0]) ?_ 1 _ rfl; refine bq ?_; refine blk_put (cs := #[.int .i64 0, .int .i64 0, .int .i64 0, .int .i64 0]) ?_ 0 _ rfl; exact bq BK338.out) Try.underlying24 rfl (by kernel_rfl)) rfl ?_
              exact ⟨zR, zB⟩

/-! ### impl_RangeOf: function 6 -/
def impl_RangeOf.j0 : Nat → Int → Bool → Int → Int → Int → Int → Int → Int → Int → Int → Option (Int × Int × Int × Int)
 | 0, _, _, _, _, _, _, _, _, _, _ => none
 | k + 1, x0, x19, x381000, x381001, x381002, x381003, x382000, x382001, x382002, x382003 => if x19 = true then ((impl_noRange.f).bind fun bt386 => (some (bt386.1, bt386.2.1, bt386.2.2.1, bt386.2.2.2))) else ((impl_rangeOf.f k x0 x381000 x381001 x381002 x381003 x382000 x382001 x382002 x382003).bind fun bt390 => (some (bt390.1, bt390.2.1, bt390.2.2.1, bt390.2.2.2)))
def impl_RangeOf.f (k : Nat) (a0 : Int) (a1_0 : Int) (a1_1 : Int) (a1_2 : Int) (a1_3 : Int) (a2_0 : Int) (a2_1 : Int) (a2_2 : Int) (a2_3 : Int) : Option (Int × Int × Int × Int) := (impl_kind_reckons.f a0).bind fun t383 => (if t383 = true then ((impl_Range_some.f k a1_0 a1_1 a1_2 a1_3).bind fun t384 => (if t384 = true then ((impl_Range_some.f k a2_0 a2_1 a2_2 a2_3).bind fun t385 => (impl_RangeOf.j0 k a0 (!t385) a1_0 a1_1 a1_2 a1_3 a2_0 a2_1 a2_2 a2_3)) else (impl_RangeOf.j0 k a0 true a1_0 a1_1 a1_2 a1_3 a2_0 a2_1 a2_2 a2_3))) else (impl_RangeOf.j0 k a0 true a1_0 a1_1 a1_2 a1_3 a2_0 a2_1 a2_2 a2_3))


set_option maxHeartbeats 8000000 in
set_option maxRecDepth 100000 in
theorem impl_RangeOf.calls (k : Nat) (a0 : Int) (a1_0 : Int) (a1_1 : Int) (a1_2 : Int) (a1_3 : Int) (a2_0 : Int) (a2_1 : Int) (a2_2 : Int) (a2_3 : Int) (r1 : Int) (r2 : Int) (r3 : Int) (r4 : Int) (w : World) (h : impl_RangeOf.f k a0 a1_0 a1_1 a1_2 a1_3 a2_0 a2_1 a2_2 a2_3 = some (r1, r2, r3, r4)) :
  Calls Try.prog 6 #[.int .i64 a0, .agg #[.int .i64 a1_0, .int .i64 a1_1, .int .i64 a1_2, .int .i64 a1_3], .agg #[.int .i64 a2_0, .int .i64 a2_1, .int .i64 a2_2, .int .i64 a2_3]] w fun e w' => e = .returned (.agg #[.int .i64 r1, .int .i64 r2, .int .i64 r3, .int .i64 r4]) ∧ Below w.heap.size w w' := by
 have hu24 := Try.underlying24
 have HB := Aside0.mk (Below.refl w.heap.size w)
 have H : ((impl_kind_reckons.f a0).bind fun t383 => (if t383 = true then ((impl_Range_some.f k a1_0 a1_1 a1_2 a1_3).bind fun t384 => (if t384 = true then ((impl_Range_some.f k a2_0 a2_1 a2_2 a2_3).bind fun t385 => (impl_RangeOf.j0 k a0 (!t385) a1_0 a1_1 a1_2 a1_3 a2_0 a2_1 a2_2 a2_3)) else (impl_RangeOf.j0 k a0 true a1_0 a1_1 a1_2 a1_3 a2_0 a2_1 a2_2 a2_3))) else (impl_RangeOf.j0 k a0 true a1_0 a1_1 a1_2 a1_3 a2_0 a2_1 a2_2 a2_3))) = some (r1, r2, r3, r4) := h
 clear h
 have HC4 := Aside0.mk H
 clear H
 go_enter Try.func6, Try.ntmps6
 go_upto_region 1 with (first | ((with_reducible refine gate_dst (N := 4) rfl ?_); refine be 4 #[.int .i64 a1_0, .int .i64 a1_1, .int .i64 a1_2, .int .i64 a1_3] 24 ?_; intro gb380 hg w5 hbox hb; have BK380 := Aside0.mk hbox; have GW380 := zW hg; replace HB := zS hb; have GE380 := GW380; clear hb hbox hg) | ((with_reducible refine gate_dst (N := 5) rfl ?_); refine be 5 #[.int .i64 a2_0, .int .i64 a2_1, .int .i64 a2_2, .int .i64 a2_3] 24 ?_; intro gb381 hg w6 hbox hb; have BK381 := Aside0.mk hbox; have GW381 := zW hg; replace HB := zS hb; have GE381 := GW381; have NB380_381 := zl BK380 hg rfl; have NB381_380 := zg BK380 hg rfl; replace BK380 := zb BK380 hb rfl; clear hb hbox hg) | ((with_reducible refine gate_dst (N := 6) rfl ?_); refine be 6 #[.int .i64 0, .int .i64 0, .int .i64 0, .int .i64 0] 24 ?_; intro gb382 hg w7 hbox hb; have BK382 := Aside0.mk hbox; have GW382 := zW hg; replace HB := zS hb; have GE382 := GW382; have NB380_382 := zl BK380 hg rfl; have NB382_380 := zg BK380 hg rfl; replace BK380 := zb BK380 hb rfl; have NB381_382 := zl BK381 hg rfl; have NB382_381 := zg BK381 hg rfl; replace BK381 := zb BK381 hb rfl; clear hb hbox hg))
 (try simp only [Act.put, List.setIfInBounds_toArray, List.set_cons_zero, List.set_cons_succ])
 go_cut [19] (fun v19 wc => ∃ (kq : Nat) (x19_3 : Bool), v19 = .bool x19_3 ∧ Aside0 (impl_RangeOf.j0 kq a0 x19_3 a1_0 a1_1 a1_2 a1_3 a2_0 a2_1 a2_2 a2_3 = some (r1, r2, r3, r4)) ∧ Aside0 (kq ≤ k) ∧ Aside0 (wc.heap[gb380]? = some (.cells #[.int .i64 a1_0, .int .i64 a1_1, .int .i64 a1_2, .int .i64 a1_3] 24 (0, 0))) ∧ Aside0 (wc.heap[gb381]? = some (.cells #[.int .i64 a2_0, .int .i64 a2_1, .int .i64 a2_2, .int .i64 a2_3] 24 (0, 0))) ∧ Aside0 (wc.heap[gb382]? = some (.cells #[.int .i64 0, .int .i64 0, .int .i64 0, .int .i64 0] 24 (0, 0))) ∧ Aside0 (Below w.heap.size w wc))
 case first =>
  have H := HC4.out
  clear HC4
  replace H := Option.bind_eq_some_iff.mp H
  obtain ⟨t383, A80, H⟩ := H
  try dsimp only at H
  have A8 := Aside0.mk A80
  clear A80
  by_cases c9 : t383 = true
  ·subst c9
   rw [if_pos rfl] at H
   replace H := Option.bind_eq_some_iff.mp H
   obtain ⟨t384, A100, H⟩ := H
   try dsimp only at H
   have A10 := Aside0.mk A100
   clear A100
   by_cases c11 : t384 = true
   ·subst c11
    rw [if_pos rfl] at H
    replace H := Option.bind_eq_some_iff.mp H
    obtain ⟨t385, A120, H⟩ := H
    try dsimp only at H
    have A12 := Aside0.mk A120
    clear A120
    have H' := Aside0.mk H
    clear H
    go_wp2_with (first | ((with_reducible refine gate_callee (f := 19) rfl ?_); refine gl 8 Try.func19 #[.int .i64 a0] ?_; (with_reducible refine (impl_kind_reckons.calls a0 true _ A8.out).mono ?_); rintro e w' ⟨rfl, ⟨nd, rfl⟩⟩; refine ⟨_, rfl, ?_⟩; have hnb13 := NB380_381.out; have hnc13 := NB381_380.out; have hnb14 := NB380_382.out; have hnc14 := NB382_380.out; obtain ⟨hcz15_0, hcz15_1, hcz15_2, hcz15_3, hfz15_0, hfz15_1, hfz15_2, hfz15_3⟩ := zc4 BK380) | (go_at_call 20; (with_reducible refine (impl_Range_some.calls k a1_0 a1_1 a1_2 a1_3 true _ A10.out).mono ?_); rintro e w16 ⟨rfl, hb⟩; replace BK380 := zb BK380 hb rfl; replace BK381 := zb BK381 hb rfl; replace BK382 := zb BK382 hb rfl; replace HB := zS hb; try clear hb; have hnb17 := NB381_382.out; have hnc17 := NB382_381.out; obtain ⟨hcz18_0, hcz18_1, hcz18_2, hcz18_3, hfz18_0, hfz18_1, hfz18_2, hfz18_3⟩ := zc4 BK381) | (go_at_call 20; (with_reducible refine (impl_Range_some.calls k a2_0 a2_1 a2_2 a2_3 t385 _ A12.out).mono ?_); rintro e w19 ⟨rfl, hb⟩; replace BK380 := zb BK380 hb rfl; replace BK381 := zb BK381 hb rfl; replace BK382 := zb BK382 hb rfl; replace HB := zS hb; try clear hb))
    go_meet
    case rel => exact ⟨_, (!t385), (by first | rfl | (simp; done) | (simp [*]; done)), H', ⟨by first | omega | exact Nat.le_refl _⟩, ⟨by exact bq BK380.out⟩, ⟨by exact bq BK381.out⟩, ⟨by exact bq BK382.out⟩, ⟨zB⟩⟩
   ·replace c11 := Bool.eq_false_iff.mpr c11
    subst c11
    rw [if_neg (show ¬ (false = true) by decide)] at H
    have H' := Aside0.mk H
    clear H
    go_wp2_with (first | ((with_reducible refine gate_callee (f := 19) rfl ?_); refine gl 8 Try.func19 #[.int .i64 a0] ?_; (with_reducible refine (impl_kind_reckons.calls a0 true _ A8.out).mono ?_); rintro e w' ⟨rfl, ⟨nd, rfl⟩⟩; refine ⟨_, rfl, ?_⟩; have hnb20 := NB380_381.out; have hnc20 := NB381_380.out; have hnb21 := NB380_382.out; have hnc21 := NB382_380.out; obtain ⟨hcz22_0, hcz22_1, hcz22_2, hcz22_3, hfz22_0, hfz22_1, hfz22_2, hfz22_3⟩ := zc4 BK380) | (go_at_call 20; (with_reducible refine (impl_Range_some.calls k a1_0 a1_1 a1_2 a1_3 false _ A10.out).mono ?_); rintro e w23 ⟨rfl, hb⟩; replace BK380 := zb BK380 hb rfl; replace BK381 := zb BK381 hb rfl; replace BK382 := zb BK382 hb rfl; replace HB := zS hb; try clear hb))
    go_meet
    case rel => exact ⟨_, (true), (by first | rfl | (simp; done) | (simp [*]; done)), H', ⟨by first | omega | exact Nat.le_refl _⟩, ⟨by exact bq BK380.out⟩, ⟨by exact bq BK381.out⟩, ⟨by exact bq BK382.out⟩, ⟨zB⟩⟩
  ·replace c9 := Bool.eq_false_iff.mpr c9
   subst c9
   rw [if_neg (show ¬ (false = true) by decide)] at H
   have H' := Aside0.mk H
   clear H
   go_wp2_with (first | ((with_reducible refine gate_callee (f := 19) rfl ?_); refine gl 8 Try.func19 #[.int .i64 a0] ?_; (with_reducible refine (impl_kind_reckons.calls a0 false _ A8.out).mono ?_); rintro e w' ⟨rfl, ⟨nd, rfl⟩⟩; refine ⟨_, rfl, ?_⟩))
   go_meet
   case rel => exact ⟨_, (true), (by first | rfl | (simp; done) | (simp [*]; done)), H', ⟨by first | omega | exact Nat.le_refl _⟩, ⟨by exact bq BK380.out⟩, ⟨by exact bq BK381.out⟩, ⟨by exact bq BK382.out⟩, ⟨zB⟩⟩
 case rest =>
  clear HC4
  try clear c1
  try clear c2
  try clear p2
  try clear c6
  try clear c9
  try clear c11
  try clear c13
  try clear c14
  try clear c17
  try clear c19
  try clear c20
  try clear c21
  try clear hcz15_0 hcz15_1 hcz15_2 hcz15_3 hfz15_0 hfz15_1 hfz15_2 hfz15_3
  try clear hcz18_0 hcz18_1 hcz18_2 hcz18_3 hfz18_0 hfz18_1 hfz18_2 hfz18_3
  try clear hcz22_0 hcz22_1 hcz22_2 hcz22_3 hfz22_0 hfz22_1 hfz22_2 hfz22_3
  obtain ⟨kq, x19_3, rfl, HA, HJ3, BK380, BK381, BK382, HB⟩ := hcut
  cases kq with
  | zero => exact absurd HA.out (by simp [impl_RangeOf.j0])
  | succ kj3 =>
   have H := HA.out
   clear HA
   simp only [impl_RangeOf.j0] at H
   by_cases c24 : x19_3 = true
   ·subst c24
    rw [if_pos rfl] at H
    replace H := Option.bind_eq_some_iff.mp H
    obtain ⟨⟨t386, t387, t388, t389⟩, A250, H⟩ := H
    try dsimp only at H
    have A25 := Aside0.mk A250
    clear A250
    simp only [Option.some.injEq, Prod.mk.injEq] at H
    obtain ⟨rfl, rfl, rfl, rfl⟩ := H
    go_wp2_with (first | ((with_reducible refine gate_callee (f := 21) rfl ?_); refine gl 20 Try.func21 #[] ?_; (with_reducible refine (impl_noRange.calls  t386 t387 t388 t389 _ A25.out).mono ?_); rintro e w26 ⟨rfl, hb⟩; refine ⟨_, rfl, ?_⟩; replace BK380 := zb BK380 hb rfl; replace BK381 := zb BK381 hb rfl; replace BK382 := zb BK382 hb rfl; replace HB := zS hb; try clear hb; have hnb27 := NB382_380.out; have hnc27 := NB380_382.out; have hnb28 := NB382_381.out; have hnc28 := NB381_382.out; obtain ⟨hcz29_0, hcz29_1, hcz29_2, hcz29_3, hfz29_0, hfz29_1, hfz29_2, hfz29_3⟩ := zc4 BK382))
    refine bodyPost_ret (results_cell_row rfl _ _ gb382 24 #[.int .i64 t386, .int .i64 t387, .int .i64 t388, .int .i64 t389] (0, 0) _ rfl (by refine bq ?_; refine blk_put (cs := #[.int .i64 t386, .int .i64 t387, .int .i64 t388, .int .i64 0]) ?_ 3 _ rfl; refine bq ?_; refine blk_put (cs := #[.int .i64 t386, .int .i64 t387, .int .i64 0, .int .i64 0]) ?_ 2 _ rfl; refine bq ?_; refine blk_put (cs := #[.int .i64 t386, .int .i64 0, .int .i64 0, .int .i64 0]) ?_ 1 _ rfl; refine bq ?_; refine blk_put (cs := #[.int .i64 0, .int .i64 0, .int .i64 0, .int .i64 0]) ?_ 0 _ rfl; exact bq BK382.out) Try.underlying24 rfl (by kernel_rfl)) rfl ?_
    exact ⟨zR, zB⟩
   ·replace c24 := Bool.eq_false_iff.mpr c24
    subst c24
    rw [if_neg (show ¬ (false = true) by decide)] at H
    replace H := Option.bind_eq_some_iff.mp H
    obtain ⟨⟨t390, t391, t392, t393⟩, A300, H⟩ := H
    try dsimp only at H
    have A30 := Aside0.mk A300
    clear A300
    simp only [Option.some.injEq, Prod.mk.injEq] at H
    obtain ⟨rfl, rfl, rfl, rfl⟩ := H
    have hnb31 := NB380_381.out
    have hnc31 := NB381_380.out
    have hnb32 := NB380_382.out
    have hnc32 := NB382_380.out
    obtain ⟨hcz33_0, hcz33_1, hcz33_2, hcz33_3, hfz33_0, hfz33_1, hfz33_2, hfz33_3⟩ := zc4 BK380
    have hnb34 := NB381_382.out
    have hnc34 := NB382_381.out
    obtain ⟨hcz35_0, hcz35_1, hcz35_2, hcz35_3, hfz35_0, hfz35_1, hfz35_2, hfz35_3⟩ := zc4 BK381
    go_wp2_with (first | ((with_reducible refine gate_callee (f := 22) rfl ?_); refine gl 24 Try.func22 #[.int .i64 a0, .agg #[.int .i64 a1_0, .int .i64 a1_1, .int .i64 a1_2, .int .i64 a1_3], .agg #[.int .i64 a2_0, .int .i64 a2_1, .int .i64 a2_2, .int .i64 a2_3]] ?_; (with_reducible refine (impl_rangeOf.calls kj3 a0 a1_0 a1_1 a1_2 a1_3 a2_0 a2_1 a2_2 a2_3 t390 t391 t392 t393 _ A30.out).mono ?_); rintro e w36 ⟨rfl, hb⟩; refine ⟨_, rfl, ?_⟩; replace BK380 := zb BK380 hb rfl; replace BK381 := zb BK381 hb rfl; replace BK382 := zb BK382 hb rfl; replace HB := zS hb; try clear hb; obtain ⟨hcz37_0, hcz37_1, hcz37_2, hcz37_3, hfz37_0, hfz37_1, hfz37_2, hfz37_3⟩ := zc4 BK382))
    refine bodyPost_ret (results_cell_row rfl _ _ gb382 24 #[.int .i64 t390, .int .i64 t391, .int .i64 t392, .int .i64 t393] (0, 0) _ rfl (by refine bq ?_; refine blk_put (cs := #[.int .i64 t390, .int .i64 t391, .int .i64 t392, .int .i64 0]) ?_ 3 _ rfl; refine bq ?_; refine blk_put (cs := #[.int .i64 t390, .int .i64 t391, .int .i64 0, .int .i64 0]) ?_ 2 _ rfl; refine bq ?_; refine blk_put (cs := #[.int .i64 t390, .int .i64 0, .int .i64 0, .int .i64 0]) ?_ 1 _ rfl; refine bq ?_; refine blk_put (cs := #[.int .i64 0, .int .i64 0, .int .i64 0, .int .i64 0]) ?_ 0 _ rfl; exact bq BK382.out) Try.underlying24 rfl (by kernel_rfl)) rfl ?_
    exact ⟨zR, zB⟩

/-! ### spec_l1In: function 48 -/
def spec_l1In.f (a0 : Int) (a1 : Int) (a2 : Int) : Option (Bool) := if a0 ≥ a1 then (some (decide (a0 ≤ a2))) else (some false)
set_option maxHeartbeats 8000000 in
set_option maxRecDepth 100000 in
theorem spec_l1In.calls (a0 : Int) (a1 : Int) (a2 : Int) (r : Bool) (w : World) (h : spec_l1In.f a0 a1 a2 = some r) :
  Calls Try.prog 48 #[.int .i64 a0, .int .i64 a1, .int .i64 a2] w fun e w' => e = .returned (.bool r) ∧ Drawn0 w w' := by
 have H : (if a0 ≥ a1 then (some (decide (a0 ≤ a2))) else (some false)) = some r := h
 clear h
 by_cases c4 : a0 ≥ a1
 ·rw [if_pos c4] at H
  have c4b0 : decide (a1 ≤ a0) = true := decide_eq_true c4
  clear c4
  obtain rfl := Option.some.inj H
  go_enter Try.func48, Try.ntmps48
  go_wp2
  go_ret
  exact ⟨by first | rfl | (simp; done) | (simp [*]; done), by repeat (first | exact Drawn0.refl _ | apply Drawn0.step)⟩
 ·rw [if_neg c4] at H
  have c4b0 : decide (a1 ≤ a0) = false := decide_eq_false c4
  clear c4
  obtain rfl := Option.some.inj H
  go_enter Try.func48, Try.ntmps48
  go_wp2
  go_ret
  exact ⟨by first | rfl | (simp; done) | (simp [*]; done), by repeat (first | exact Drawn0.refl _ | apply Drawn0.step)⟩

/-! ### spec_l1Alu: function 23 -/
def spec_l1Alu.f (a0 : Int) : Option (Bool) := (spec_l1In.f a0 1 11).bind fun t394 => (some t394)
set_option maxHeartbeats 8000000 in
set_option maxRecDepth 100000 in
theorem spec_l1Alu.calls (a0 : Int) (r : Bool) (w : World) (h : spec_l1Alu.f a0 = some r) :
  Calls Try.prog 23 #[.int .i64 a0] w fun e w' => e = .returned (.bool r) ∧ Drawn0 w w' := by
 have H : ((spec_l1In.f a0 1 11).bind fun t394 => (some t394)) = some r := h
 clear h
 replace H := Option.bind_eq_some_iff.mp H
 obtain ⟨t394, A20, H⟩ := H
 try dsimp only at H
 have A2 := Aside0.mk A20
 clear A20
 obtain rfl := Option.some.inj H
 go_enter Try.func23, Try.ntmps23
 go_wp2_with (first | ((with_reducible refine gate_callee (f := 48) rfl ?_); refine gl 4 Try.func48 #[.int .i64 a0, .int .i64 1, .int .i64 11] ?_; (with_reducible refine (spec_l1In.calls a0 1 11 t394 _ A2.out).mono ?_); rintro e w' ⟨rfl, ⟨nd, rfl⟩⟩; refine ⟨_, rfl, ?_⟩))
 go_ret
 exact ⟨by first | rfl | (simp; done) | (simp [*]; done), by repeat (first | exact Drawn0.refl _ | apply Drawn0.step)⟩

end Go.Proofs.Ytdhijcfohbkpoaa.Q
