/- The machine's side of this seat's laws: Go functions as Lean functions, and their contracts. By a program of this work over the kit's print. -/
import Derived.Test.YtdhijcfohbkpoaaQ0
import Derived.Test.YtdhijcfohbkpoaaQ2
import Derived.Test.YtdhijcfohbkpoaaQ4
import Derived.Test.YtdhijcfohbkpoaaQ5
namespace Go.Proofs.Ytdhijcfohbkpoaa.Q
open Go.RowKit Go.Proofs.YtdhijcfohbkpoaaW.PrintWords Go.Proofs.YtdhijcfohbkpoaaW.PrintLast Go.Proofs.YtdhijcfohbkpoaaW.PrintMore
attribute [local go_sem] max2_int min2_int max_two min_two max_three min_three max_four min_four Go.Proofs.YtdhijcfohbkpoaaN.not_i64 Go.Proofs.YtdhijcfohbkpoaaN.isSome_setCell   -- for this text's walks alone
set_option linter.unusedVariables false
set_option linter.unusedSimpArgs false

/-! ### spec_DrawRangeOf: function 5 -/
def spec_DrawRangeOf.j0 : Nat → List Int → Int → Int → Int → Int → Int → Int → Int → Int → Int → Option (Int × Int × Int × Int × Int × Int × Int × Int × Int)
 | 0, _, _, _, _, _, _, _, _, _, _ => none
 | k + 1, x213000, x213001, x220000, x220001, x220002, x220003, x227000, x227001, x227002, x227003 => (spec_l20Rd_one.f k x213000 x213001 (([1, 2, 3, 4, 5, 6, 7, 8, 9, 10, 11, 2, 3, 12] : List Int))).bind fun bt237 => (some (bt237.1, x220000, x220001, x220002, x220003, x227000, x227001, x227002, x227003))
def spec_DrawRangeOf.f (k : Nat) (l0 : List Int) : Option (Int × Int × Int × Int × Int × Int × Int × Int × Int) := (spec_l20Open.f l0).bind fun bt210 => ((spec_l20Range.f k bt210.1 bt210.2).bind fun bt213 => ((spec_l20Range.f k bt210.1 bt213.2.2.2.2.2).bind fun bt220 => ((spec_l20Rd_pick.f k bt210.1 bt220.2.2.2.2.2 8).bind fun bt227 => (if bt227.1 = 0 then ((spec_l20AnyRange.f k bt210.1 bt227.2).bind fun bt229 => (spec_DrawRangeOf.j0 k bt210.1 bt229.2.2.2.2 bt213.1 bt213.2.1 bt213.2.2.1 bt213.2.2.2.1 bt229.1 bt229.2.1 bt229.2.2.1 bt229.2.2.2.1)) else (spec_DrawRangeOf.j0 k bt210.1 bt227.2 bt213.1 bt213.2.1 bt213.2.2.1 bt213.2.2.2.1 bt220.1 bt220.2.1 bt220.2.2.1 bt220.2.2.2.1)))))


def spec_DrawRangeOf.T6 : Bool × List (List Nat × List Nat) := (true, [([], []), ([], []), ([0, 1], [0, 1]), ([], []), ([], []), ([2, 2, 0, 1, 2], [2]), ([3, 5, 0, 1, 2, 3, 5], [3]), ([4, 6, 0, 1, 2, 3, 4, 5, 6], [4])])
def spec_DrawRangeOf.B6 : List Nat := [0, 0, 3, 0, 0, 7, 47, 127]
theorem spec_DrawRangeOf.tab6 : rtab .any (opsOf Try.f5 6) = spec_DrawRangeOf.T6 := by kernel_rfl
theorem spec_DrawRangeOf.bits6 : waitsOk spec_DrawRangeOf.T6.2 spec_DrawRangeOf.B6 = true := by kernel_rfl
set_option maxHeartbeats 8000000 in
set_option maxRecDepth 100000 in
theorem spec_DrawRangeOf.calls (k : Nat) (A0 : Option Addr) (c0 : Nat) (l0 : List Int) (r1 : Int) (r2 : Int) (r3 : Int) (r4 : Int) (r5 : Int) (r6 : Int) (r7 : Int) (r8 : Int) (r9 : Int) (w : World) (hr0 : Kd.C (Kd.int .u8) w A0 l0.length l0) (hc0 : l0.length ≤ c0) (h : spec_DrawRangeOf.f k l0 = some (r1, r2, r3, r4, r5, r6, r7, r8, r9)) :
  Calls Try.prog 5 #[.slice A0 l0.length c0] w fun e w' => e = .returned (.tuple #[.int .i64 r1, .agg #[.int .i64 r2, .int .i64 r3, .int .i64 r4, .int .i64 r5], .agg #[.int .i64 r6, .int .i64 r7, .int .i64 r8, .int .i64 r9]]) ∧ Below w.heap.size w w' := by
 have hu24 := Try.underlying24
 have HR0 := Aside0.mk hr0
 have HC0 := Aside0.mk hc0
 clear hr0 hc0
 have HB := Aside0.mk (Below.refl w.heap.size w)
 have H : ((spec_l20Open.f l0).bind fun bt210 => ((spec_l20Range.f k bt210.1 bt210.2).bind fun bt213 => ((spec_l20Range.f k bt210.1 bt213.2.2.2.2.2).bind fun bt220 => ((spec_l20Rd_pick.f k bt210.1 bt220.2.2.2.2.2 8).bind fun bt227 => (if bt227.1 = 0 then ((spec_l20AnyRange.f k bt210.1 bt227.2).bind fun bt229 => (spec_DrawRangeOf.j0 k bt210.1 bt229.2.2.2.2 bt213.1 bt213.2.1 bt213.2.2.1 bt213.2.2.2.1 bt229.1 bt229.2.1 bt229.2.2.1 bt229.2.2.2.1)) else (spec_DrawRangeOf.j0 k bt210.1 bt227.2 bt213.1 bt213.2.1 bt213.2.2.1 bt213.2.2.2.1 bt220.1 bt220.2.1 bt220.2.2.1 bt220.2.2.2.1)))))) = some (r1, r2, r3, r4, r5, r6, r7, r8, r9) := h
 clear h
 replace H := Option.bind_eq_some_iff.mp H
 obtain ⟨⟨t210, t211⟩, A20, H⟩ := H
 try dsimp only at H
 have A2 := Aside0.mk A20
 clear A20
 replace H := Option.bind_eq_some_iff.mp H
 obtain ⟨⟨t213, t214, t215, t216, t217, t218⟩, A30, H⟩ := H
 try dsimp only at H
 have A3 := Aside0.mk A30
 clear A30
 replace H := Option.bind_eq_some_iff.mp H
 obtain ⟨⟨t220, t221, t222, t223, t224, t225⟩, A40, H⟩ := H
 try dsimp only at H
 have A4 := Aside0.mk A40
 clear A40
 replace H := Option.bind_eq_some_iff.mp H
 obtain ⟨⟨t227, t228⟩, A50, H⟩ := H
 try dsimp only at H
 have A5 := Aside0.mk A50
 clear A50
 have HC6 := Aside0.mk H
 clear H
 go_enter Try.func5, Try.ntmps5
 go_upto_if 24 with (first | ((with_reducible refine gate_dst (N := 3) rfl ?_); refine be 3 #[.int .i64 0, .int .i64 0, .int .i64 0, .int .i64 0] 24 ?_; intro gb208 hg w7 hbox hb; have BK208 := Aside0.mk hbox; have GW208 := zW hg; replace HB := zS hb; have GE208 := GW208; clear hb hbox hg) | ((with_reducible refine gate_dst (N := 4) rfl ?_); refine be 4 #[.int .i64 0, .int .i64 0, .int .i64 0, .int .i64 0] 24 ?_; intro gb209 hg w8 hbox hb; have BK209 := Aside0.mk hbox; have GW209 := zW hg; replace HB := zS hb; have GE209 := GW209; have NB208_209 := zl BK208 hg rfl; have NB209_208 := zg BK208 hg rfl; replace BK208 := zb BK208 hb rfl; clear hb hbox hg) | ((with_reducible refine gate_callee (f := 14) rfl ?_); refine gl 11 Try.func14 #[.slice A0 l0.length c0] ?_; (with_reducible refine (spec_l20Open.calls _ _ l0 t210 t211 w _ ?side1 ?side2 ?side3 A2.out).mono ?_); (case side1 => repeat (first | (with_reducible first | exact HB.out | apply below_alloc | apply pw_below_drewN | apply below_drew1 | refine below_set ?_ GE208.out | refine below_set ?_ GE209.out) | exact HB.out)); (case side2 => exact HR0.out); (case side3 => exact HC0.out); rintro e w9 ⟨g212, rfl, hi, hb, hb2⟩; refine ⟨_, rfl, ?_⟩; replace HB := Aside0.mk hb; have HI212 := Aside0.mk hi; have NB212_208 := Aside0.mk (IsS52.ne_blk hi (blk_below (g := gb208) (o := .cells #[.int .i64 0, .int .i64 0, .int .i64 0, .int .i64 0] 24 (0, 0)) (by exact bq BK208.out) hb2) (by decide)); have NB208_212 := Aside0.mk (Ne.symm (IsS52.ne_blk hi (blk_below (g := gb208) (o := .cells #[.int .i64 0, .int .i64 0, .int .i64 0, .int .i64 0] 24 (0, 0)) (by exact bq BK208.out) hb2) (by decide))); replace BK208 := zq BK208 hb2; have NB212_209 := Aside0.mk (IsS52.ne_blk hi (blk_below (g := gb209) (o := .cells #[.int .i64 0, .int .i64 0, .int .i64 0, .int .i64 0] 24 (0, 0)) (by exact bq BK209.out) hb2) (by decide)); have NB209_212 := Aside0.mk (Ne.symm (IsS52.ne_blk hi (blk_below (g := gb209) (o := .cells #[.int .i64 0, .int .i64 0, .int .i64 0, .int .i64 0] 24 (0, 0)) (by exact bq BK209.out) hb2) (by decide))); replace BK209 := zq BK209 hb2; (try clear hb); (try clear hb2); (try clear hk); (try clear hi)) | ((with_reducible refine gate_callee (f := 15) rfl ?_); refine gl 14 Try.func15 #[.pointer (some ⟨g212, 0, none⟩)] ?_; (with_reducible refine (spec_l20Range.calls k g212 t210 t211 t213 t214 t215 t216 t217 t218 w _ ?side1 ?side2 A3.out).mono ?_); (case side1 => repeat (first | (with_reducible first | exact HI212.out | apply IsS52.alloc | apply IsS52.drewN | apply IsS52.drew | apply IsS52.set_1 | refine IsS52.far ?_ NB212_208.out _ | refine IsS52.far ?_ NB212_209.out _) | exact HI212.out)); (case side2 => repeat (first | (with_reducible first | exact HB.out | apply below_alloc | apply pw_below_drewN | apply below_drew1 | refine below_set ?_ (IsS52.ge HI212.out) | refine below_set ?_ GE208.out | refine below_set ?_ GE209.out) | exact HB.out)); rintro e w10 ⟨rfl, hi, hb, hk⟩; refine ⟨_, rfl, ?_⟩; replace BK208 := Aside0.mk (KeepBut.blk hk (g' := gb208) (o := .cells #[.int .i64 0, .int .i64 0, .int .i64 0, .int .i64 0] 24 (0, 0)) (by exact bq BK208.out) NB208_212.out (by simp)); replace BK209 := Aside0.mk (KeepBut.blk hk (g' := gb209) (o := .cells #[.int .i64 0, .int .i64 0, .int .i64 0, .int .i64 0] 24 (0, 0)) (by exact bq BK209.out) NB209_212.out (by simp)); replace HB := Aside0.mk hb; replace HI212 := Aside0.mk hi; (try clear hb); (try clear hb2); (try clear hk); (try clear hi)) | ((with_reducible refine gate_dst (N := 6) rfl ?_); refine be 6 #[.int .i64 0, .int .i64 0, .int .i64 0, .int .i64 0] 24 ?_; intro gb219 hg w11 hbox hb; have BK219 := Aside0.mk hbox; have GW219 := Aside0.mk ((by rw [hg]; exact (below_size (by repeat (first | (with_reducible first | exact HB.out | apply below_alloc | apply pw_below_drewN | apply below_drew1 | refine below_set ?_ (IsS52.ge HI212.out) | refine below_set ?_ GE208.out | refine below_set ?_ GE209.out) | exact HB.out))) : w.heap.size ≤ gb219)); replace HB := Aside0.mk (below_step (by repeat (first | (with_reducible first | exact HB.out | apply below_alloc | apply pw_below_drewN | apply below_drew1 | refine below_set ?_ (IsS52.ge HI212.out) | refine below_set ?_ GE208.out | refine below_set ?_ GE209.out) | exact HB.out)) hb); have GE219 := GW219; have NB208_219 := zl BK208 hg rfl; have NB219_208 := zg BK208 hg rfl; replace BK208 := zb BK208 hb rfl; have NB209_219 := zl BK209 hg rfl; have NB219_209 := zg BK209 hg rfl; replace BK209 := zb BK209 hb rfl; have NB212_219 := Aside0.mk ((by rw [hg]; exact Nat.ne_of_lt (IsS52.lt (show IsS52 w _ g212 t210 t218 from by repeat (first | (with_reducible first | exact HI212.out | apply IsS52.alloc | apply IsS52.drewN | apply IsS52.drew | apply IsS52.set_1 | refine IsS52.far ?_ NB212_208.out _ | refine IsS52.far ?_ NB212_209.out _) | exact HI212.out))) : g212 ≠ gb219)); have NB219_212 := Aside0.mk ((by rw [hg]; exact Nat.ne_of_gt (IsS52.lt (show IsS52 w _ g212 t210 t218 from by repeat (first | (with_reducible first | exact HI212.out | apply IsS52.alloc | apply IsS52.drewN | apply IsS52.drew | apply IsS52.set_1 | refine IsS52.far ?_ NB212_208.out _ | refine IsS52.far ?_ NB212_209.out _) | exact HI212.out))) : gb219 ≠ g212)); replace HI212 := Aside0.mk (IsS52.below (by repeat (first | (with_reducible first | exact HI212.out | apply IsS52.alloc | apply IsS52.drewN | apply IsS52.drew | apply IsS52.set_1 | refine IsS52.far ?_ NB212_208.out _ | refine IsS52.far ?_ NB212_209.out _) | exact HI212.out)) hb); clear hb hbox hg; have hnb12 := NB219_208.out; have hnc12 := NB208_219.out; have hnb13 := NB219_209.out; have hnc13 := NB209_219.out; have hnb14 := NB219_212.out; have hnc14 := NB212_219.out; obtain ⟨hcz15_0, hcz15_1, hcz15_2, hcz15_3, hfz15_0, hfz15_1, hfz15_2, hfz15_3⟩ := zc4 BK219) | ((with_reducible refine gate_callee (f := 15) rfl ?_); refine gl 19 Try.func15 #[.pointer (some ⟨g212, 0, none⟩)] ?_; (with_reducible refine (spec_l20Range.calls k g212 t210 t218 t220 t221 t222 t223 t224 t225 w _ ?side1 ?side2 A4.out).mono ?_); (case side1 => repeat (first | (with_reducible first | exact HI212.out | apply IsS52.alloc | apply IsS52.drewN | apply IsS52.drew | apply IsS52.set_1 | refine IsS52.far ?_ NB212_208.out _ | refine IsS52.far ?_ NB212_209.out _ | refine IsS52.far ?_ NB212_219.out _) | exact HI212.out)); (case side2 => repeat (first | (with_reducible first | exact HB.out | apply below_alloc | apply pw_below_drewN | apply below_drew1 | refine below_set ?_ (IsS52.ge HI212.out) | refine below_set ?_ GE208.out | refine below_set ?_ GE209.out | refine below_set ?_ GE219.out) | exact HB.out)); rintro e w16 ⟨rfl, hi, hb, hk⟩; refine ⟨_, rfl, ?_⟩; replace BK208 := Aside0.mk (KeepBut.blk hk (g' := gb208) (o := .cells #[.int .i64 0, .int .i64 0, .int .i64 0, .int .i64 0] 24 (0, 0)) (by refine fq ?_ NB208_219.out; refine fq ?_ NB208_219.out; refine fq ?_ NB208_219.out; refine fq ?_ NB208_219.out; exact bq BK208.out) NB208_212.out (by simp)); replace BK209 := Aside0.mk (KeepBut.blk hk (g' := gb209) (o := .cells #[.int .i64 0, .int .i64 0, .int .i64 0, .int .i64 0] 24 (0, 0)) (by refine fq ?_ NB209_219.out; refine fq ?_ NB209_219.out; refine fq ?_ NB209_219.out; refine fq ?_ NB209_219.out; exact bq BK209.out) NB209_212.out (by simp)); replace BK219 := Aside0.mk (KeepBut.blk hk (g' := gb219) (o := .cells #[.int .i64 t213, .int .i64 t214, .int .i64 t215, .int .i64 t216] 24 (0, 0)) (by refine bq ?_; refine blk_put (cs := #[.int .i64 t213, .int .i64 t214, .int .i64 t215, .int .i64 0]) ?_ 3 _ rfl; refine bq ?_; refine blk_put (cs := #[.int .i64 t213, .int .i64 t214, .int .i64 0, .int .i64 0]) ?_ 2 _ rfl; refine bq ?_; refine blk_put (cs := #[.int .i64 t213, .int .i64 0, .int .i64 0, .int .i64 0]) ?_ 1 _ rfl; refine bq ?_; refine blk_put (cs := #[.int .i64 0, .int .i64 0, .int .i64 0, .int .i64 0]) ?_ 0 _ rfl; exact bq BK219.out) NB219_212.out (by simp)); replace HB := Aside0.mk hb; replace HI212 := Aside0.mk hi; (try clear hb); (try clear hb2); (try clear hk); (try clear hi)) | ((with_reducible refine gate_dst (N := 8) rfl ?_); refine be 8 #[.int .i64 0, .int .i64 0, .int .i64 0, .int .i64 0] 24 ?_; intro gb226 hg w17 hbox hb; have BK226 := Aside0.mk hbox; have GW226 := Aside0.mk ((by rw [hg]; exact (below_size (by repeat (first | (with_reducible first | exact HB.out | apply below_alloc | apply pw_below_drewN | apply below_drew1 | refine below_set ?_ (IsS52.ge HI212.out) | refine below_set ?_ GE208.out | refine below_set ?_ GE209.out | refine below_set ?_ GE219.out) | exact HB.out))) : w.heap.size ≤ gb226)); replace HB := Aside0.mk (below_step (by repeat (first | (with_reducible first | exact HB.out | apply below_alloc | apply pw_below_drewN | apply below_drew1 | refine below_set ?_ (IsS52.ge HI212.out) | refine below_set ?_ GE208.out | refine below_set ?_ GE209.out | refine below_set ?_ GE219.out) | exact HB.out)) hb); have GE226 := GW226; have NB208_226 := zl BK208 hg rfl; have NB226_208 := zg BK208 hg rfl; replace BK208 := zb BK208 hb rfl; have NB209_226 := zl BK209 hg rfl; have NB226_209 := zg BK209 hg rfl; replace BK209 := zb BK209 hb rfl; have NB219_226 := zl BK219 hg rfl; have NB226_219 := zg BK219 hg rfl; replace BK219 := zb BK219 hb rfl; have NB212_226 := Aside0.mk ((by rw [hg]; exact Nat.ne_of_lt (IsS52.lt (show IsS52 w _ g212 t210 t225 from by repeat (first | (with_reducible first | exact HI212.out | apply IsS52.alloc | apply IsS52.drewN | apply IsS52.drew | apply IsS52.set_1 | refine IsS52.far ?_ NB212_208.out _ | refine IsS52.far ?_ NB212_209.out _ | refine IsS52.far ?_ NB212_219.out _) | exact HI212.out))) : g212 ≠ gb226)); have NB226_212 := Aside0.mk ((by rw [hg]; exact Nat.ne_of_gt (IsS52.lt (show IsS52 w _ g212 t210 t225 from by repeat (first | (with_reducible first | exact HI212.out | apply IsS52.alloc | apply IsS52.drewN | apply IsS52.drew | apply IsS52.set_1 | refine IsS52.far ?_ NB212_208.out _ | refine IsS52.far ?_ NB212_209.out _ | refine IsS52.far ?_ NB212_219.out _) | exact HI212.out))) : gb226 ≠ g212)); replace HI212 := Aside0.mk (IsS52.below (by repeat (first | (with_reducible first | exact HI212.out | apply IsS52.alloc | apply IsS52.drewN | apply IsS52.drew | apply IsS52.set_1 | refine IsS52.far ?_ NB212_208.out _ | refine IsS52.far ?_ NB212_209.out _ | refine IsS52.far ?_ NB212_219.out _) | exact HI212.out)) hb); clear hb hbox hg; have hnb18 := NB226_208.out; have hnc18 := NB208_226.out; have hnb19 := NB226_209.out; have hnc19 := NB209_226.out; have hnb20 := NB226_219.out; have hnc20 := NB219_226.out; have hnb21 := NB226_212.out; have hnc21 := NB212_226.out; obtain ⟨hcz22_0, hcz22_1, hcz22_2, hcz22_3, hfz22_0, hfz22_1, hfz22_2, hfz22_3⟩ := zc4 BK226) | ((with_reducible refine gate_callee (f := 16) rfl ?_); refine gl 23 Try.func16 #[.pointer (some ⟨g212, 0, none⟩), .int .i64 8] ?_; (with_reducible refine (spec_l20Rd_pick.calls k g212 t210 t225 8 t227 t228 w _ ?side1 ?side2 A5.out).mono ?_); (case side1 => repeat (first | (with_reducible first | exact HI212.out | apply IsS52.alloc | apply IsS52.drewN | apply IsS52.drew | apply IsS52.set_1 | refine IsS52.far ?_ NB212_208.out _ | refine IsS52.far ?_ NB212_209.out _ | refine IsS52.far ?_ NB212_219.out _ | refine IsS52.far ?_ NB212_226.out _) | exact HI212.out)); (case side2 => repeat (first | (with_reducible first | exact HB.out | apply below_alloc | apply pw_below_drewN | apply below_drew1 | refine below_set ?_ (IsS52.ge HI212.out) | refine below_set ?_ GE208.out | refine below_set ?_ GE209.out | refine below_set ?_ GE219.out | refine below_set ?_ GE226.out) | exact HB.out)); rintro e w23 ⟨rfl, hi, hb, hk⟩; refine ⟨_, rfl, ?_⟩; replace BK208 := Aside0.mk (KeepBut.blk hk (g' := gb208) (o := .cells #[.int .i64 0, .int .i64 0, .int .i64 0, .int .i64 0] 24 (0, 0)) (by refine fq ?_ NB208_226.out; refine fq ?_ NB208_226.out; refine fq ?_ NB208_226.out; refine fq ?_ NB208_226.out; exact bq BK208.out) NB208_212.out (by simp)); replace BK209 := Aside0.mk (KeepBut.blk hk (g' := gb209) (o := .cells #[.int .i64 0, .int .i64 0, .int .i64 0, .int .i64 0] 24 (0, 0)) (by refine fq ?_ NB209_226.out; refine fq ?_ NB209_226.out; refine fq ?_ NB209_226.out; refine fq ?_ NB209_226.out; exact bq BK209.out) NB209_212.out (by simp)); replace BK219 := Aside0.mk (KeepBut.blk hk (g' := gb219) (o := .cells #[.int .i64 t213, .int .i64 t214, .int .i64 t215, .int .i64 t216] 24 (0, 0)) (by refine fq ?_ NB219_226.out; refine fq ?_ NB219_226.out; refine fq ?_ NB219_226.out; refine fq ?_ NB219_226.out; exact bq BK219.out) NB219_212.out (by simp)); replace BK226 := Aside0.mk (KeepBut.blk hk (g' := gb226) (o := .cells #[.int .i64 t220, .int .i64 t221, .int .i64 t222, .int .i64 t223] 24 (0, 0)) (by refine bq ?_; refine blk_put (cs := #[.int .i64 t220, .int .i64 t221, .int .i64 t222, .int .i64 0]) ?_ 3 _ rfl; refine bq ?_; refine blk_put (cs := #[.int .i64 t220, .int .i64 t221, .int .i64 0, .int .i64 0]) ?_ 2 _ rfl; refine bq ?_; refine blk_put (cs := #[.int .i64 t220, .int .i64 0, .int .i64 0, .int .i64 0]) ?_ 1 _ rfl; refine bq ?_; refine blk_put (cs := #[.int .i64 0, .int .i64 0, .int .i64 0, .int .i64 0]) ?_ 0 _ rfl; exact bq BK226.out) NB226_212.out (by simp)); replace HB := Aside0.mk hb; replace HI212 := Aside0.mk hi; (try clear hb); (try clear hb2); (try clear hk); (try clear hi)))
 (try simp only [Act.put, List.setIfInBounds_toArray, List.set_cons_zero, List.set_cons_succ])
 go_cut [] (fun wc => ∃ (kq : Nat) (x213001_5 : Int) (x227000_5 : Int) (x227001_5 : Int) (x227002_5 : Int) (x227003_5 : Int), Aside0 (spec_DrawRangeOf.j0 kq t210 x213001_5 t213 t214 t215 t216 x227000_5 x227001_5 x227002_5 x227003_5 = some (r1, r2, r3, r4, r5, r6, r7, r8, r9)) ∧ Aside0 (kq ≤ k) ∧ Aside0 (wc.heap[gb208]? = some (.cells #[.int .i64 0, .int .i64 0, .int .i64 0, .int .i64 0] 24 (0, 0))) ∧ Aside0 (wc.heap[gb209]? = some (.cells #[.int .i64 0, .int .i64 0, .int .i64 0, .int .i64 0] 24 (0, 0))) ∧ Aside0 (wc.heap[gb219]? = some (.cells #[.int .i64 t213, .int .i64 t214, .int .i64 t215, .int .i64 t216] 24 (0, 0))) ∧ Aside0 (wc.heap[gb226]? = some (.cells #[.int .i64 x227000_5, .int .i64 x227001_5, .int .i64 x227002_5, .int .i64 x227003_5] 24 (0, 0))) ∧ Aside0 (IsS52 w wc g212 t210 x213001_5) ∧ Aside0 (Below w.heap.size w wc))
 case first =>
  have H := HC6.out
  clear HC6
  by_cases c24 : t227 = 0
  ·rw [if_pos c24] at H
   have c24b0 : (t227 == 0) = true := beq_iff_eq.mpr c24
   have c24b1 : (t227 != 0) = false := bne_eq_false_iff_eq.mpr c24
   clear c24
   (first | rw [c24b0] | (simp only [i64_w, i32_w]; rw [c24b0]) | skip)
   replace H := Option.bind_eq_some_iff.mp H
   obtain ⟨⟨t229, t230, t231, t232, t233⟩, A250, H⟩ := H
   try dsimp only at H
   have A25 := Aside0.mk A250
   clear A250
   have H' := Aside0.mk H
   clear H
   go_wp2_with (first | ((with_reducible refine gate_callee (f := 17) rfl ?_); refine gl 26 Try.func17 #[.pointer (some ⟨g212, 0, none⟩)] ?_; (with_reducible refine (spec_l20AnyRange.calls k g212 t210 t228 t229 t230 t231 t232 t233 w _ ?side1 ?side2 A25.out).mono ?_); (case side1 => repeat (first | (with_reducible first | exact HI212.out | apply IsS52.alloc | apply IsS52.drewN | apply IsS52.drew | apply IsS52.set_1 | refine IsS52.far ?_ NB212_208.out _ | refine IsS52.far ?_ NB212_209.out _ | refine IsS52.far ?_ NB212_219.out _ | refine IsS52.far ?_ NB212_226.out _) | exact HI212.out)); (case side2 => repeat (first | (with_reducible first | exact HB.out | apply below_alloc | apply pw_below_drewN | apply below_drew1 | refine below_set ?_ (IsS52.ge HI212.out) | refine below_set ?_ GE208.out | refine below_set ?_ GE209.out | refine below_set ?_ GE219.out | refine below_set ?_ GE226.out) | exact HB.out)); rintro e w26 ⟨rfl, hi, hb, hk⟩; refine ⟨_, rfl, ?_⟩; replace BK208 := Aside0.mk (KeepBut.blk hk (g' := gb208) (o := .cells #[.int .i64 0, .int .i64 0, .int .i64 0, .int .i64 0] 24 (0, 0)) (by exact bq BK208.out) NB208_212.out (by simp)); replace BK209 := Aside0.mk (KeepBut.blk hk (g' := gb209) (o := .cells #[.int .i64 0, .int .i64 0, .int .i64 0, .int .i64 0] 24 (0, 0)) (by exact bq BK209.out) NB209_212.out (by simp)); replace BK219 := Aside0.mk (KeepBut.blk hk (g' := gb219) (o := .cells #[.int .i64 t213, .int .i64 t214, .int .i64 t215, .int .i64 t216] 24 (0, 0)) (by exact bq BK219.out) NB219_212.out (by simp)); replace BK226 := Aside0.mk (KeepBut.blk hk (g' := gb226) (o := .cells #[.int .i64 t220, .int .i64 t221, .int .i64 t222, .int .i64 t223] 24 (0, 0)) (by exact bq BK226.out) NB226_212.out (by simp)); replace HB := Aside0.mk hb; replace HI212 := Aside0.mk hi; (try clear hb); (try clear hb2); (try clear hk); (try clear hi); have hnb27 := NB226_208.out; have hnc27 := NB208_226.out; have hnb28 := NB226_209.out; have hnc28 := NB209_226.out; have hnb29 := NB226_219.out; have hnc29 := NB219_226.out; have hnb30 := NB226_212.out; have hnc30 := NB212_226.out; obtain ⟨hcz31_0, hcz31_1, hcz31_2, hcz31_3, hfz31_0, hfz31_1, hfz31_2, hfz31_3⟩ := zc4 BK226))
   go_meet
   case rel => exact ⟨_, (t233), (t229), (t230), (t231), (t232), H', ⟨by first | omega | exact Nat.le_refl _⟩, ⟨by refine fq ?_ NB208_226.out; refine fq ?_ NB208_226.out; refine fq ?_ NB208_226.out; refine fq ?_ NB208_226.out; exact bq BK208.out⟩, ⟨by refine fq ?_ NB209_226.out; refine fq ?_ NB209_226.out; refine fq ?_ NB209_226.out; refine fq ?_ NB209_226.out; exact bq BK209.out⟩, ⟨by refine fq ?_ NB219_226.out; refine fq ?_ NB219_226.out; refine fq ?_ NB219_226.out; refine fq ?_ NB219_226.out; exact bq BK219.out⟩, ⟨by refine bq ?_; refine blk_put (cs := #[.int .i64 t229, .int .i64 t230, .int .i64 t231, .int .i64 t223]) ?_ 3 _ rfl; refine bq ?_; refine blk_put (cs := #[.int .i64 t229, .int .i64 t230, .int .i64 t222, .int .i64 t223]) ?_ 2 _ rfl; refine bq ?_; refine blk_put (cs := #[.int .i64 t229, .int .i64 t221, .int .i64 t222, .int .i64 t223]) ?_ 1 _ rfl; refine bq ?_; refine blk_put (cs := #[.int .i64 t220, .int .i64 t221, .int .i64 t222, .int .i64 t223]) ?_ 0 _ rfl; exact bq BK226.out⟩, ⟨by repeat (first | (with_reducible first | exact HI212.out | apply IsS52.alloc | apply IsS52.drewN | apply IsS52.drew | apply IsS52.set_1 | refine IsS52.far ?_ NB212_208.out _ | refine IsS52.far ?_ NB212_209.out _ | refine IsS52.far ?_ NB212_219.out _ | refine IsS52.far ?_ NB212_226.out _) | exact HI212.out)⟩, ⟨by repeat (first | (with_reducible first | exact HB.out | apply below_alloc | apply pw_below_drewN | apply below_drew1 | refine below_set ?_ (IsS52.ge HI212.out) | refine below_set ?_ GE208.out | refine below_set ?_ GE209.out | refine below_set ?_ GE219.out | refine below_set ?_ GE226.out) | exact HB.out)⟩⟩
  ·rw [if_neg c24] at H
   have c24b0 : (t227 == 0) = false := beq_eq_false_iff_ne.mpr c24
   have c24b1 : (t227 != 0) = true := bne_iff_ne.mpr c24
   (first | rw [c24b0] | (simp only [i64_w, i32_w]; rw [c24b0]) | skip)
   have H' := Aside0.mk H
   clear H
   go_wp2
   go_meet
   case rel => exact ⟨_, (t228), (t220), (t221), (t222), (t223), H', ⟨by first | omega | exact Nat.le_refl _⟩, ⟨by exact bq BK208.out⟩, ⟨by exact bq BK209.out⟩, ⟨by exact bq BK219.out⟩, ⟨by exact bq BK226.out⟩, ⟨by repeat (first | (with_reducible first | exact HI212.out | apply IsS52.alloc | apply IsS52.drewN | apply IsS52.drew | apply IsS52.set_1 | refine IsS52.far ?_ NB212_208.out _ | refine IsS52.far ?_ NB212_209.out _ | refine IsS52.far ?_ NB212_219.out _ | refine IsS52.far ?_ NB212_226.out _) | exact HI212.out)⟩, ⟨by repeat (first | (with_reducible first | exact HB.out | apply below_alloc | apply pw_below_drewN | apply below_drew1 | refine below_set ?_ (IsS52.ge HI212.out) | refine below_set ?_ GE208.out | refine below_set ?_ GE209.out | refine below_set ?_ GE219.out | refine below_set ?_ GE226.out) | exact HB.out)⟩⟩
 case rest =>
  clear HC6
  try clear c1
  try clear c2
  try clear p2
  try clear c3
  try clear c5
  try clear c12
  try clear c13
  try clear c14
  try clear c15
  try clear c16
  try clear c17
  try clear c18
  try clear c19
  try clear c20
  try clear c21
  try clear c24
  try clear c24b0
  try clear c24b1
  try clear c27
  try clear c28
  try clear c29
  try clear c30
  try clear hcz15_0 hcz15_1 hcz15_2 hcz15_3 hfz15_0 hfz15_1 hfz15_2 hfz15_3
  try clear hcz22_0 hcz22_1 hcz22_2 hcz22_3 hfz22_0 hfz22_1 hfz22_2 hfz22_3
  try clear hcz31_0 hcz31_1 hcz31_2 hcz31_3 hfz31_0 hfz31_1 hfz31_2 hfz31_3
  obtain ⟨kq, x213001_5, x227000_5, x227001_5, x227002_5, x227003_5, HA, HJ5, BK208, BK209, BK219, BK226, HI212, HB⟩ := hcut
  cases kq with
  | zero => exact absurd HA.out (by simp [spec_DrawRangeOf.j0])
  | succ kj5 =>
   have H := HA.out
   clear HA
   simp only [spec_DrawRangeOf.j0] at H
   obtain ⟨y234, hy234⟩ : ∃ y_ : List Int, y_ = (([1, 2, 3, 4, 5, 6, 7, 8, 9, 10, 11, 2, 3, 12] : List Int)) := ⟨_, rfl⟩
   replace H : ((spec_l20Rd_one.f kj5 t210 x213001_5 y234).bind fun bt237 => (some (bt237.1, t213, t214, t215, t216, x227000_5, x227001_5, x227002_5, x227003_5))) = some (r1, r2, r3, r4, r5, r6, r7, r8, r9) := by first | (rw [hy234]; with_reducible exact H) | (have H2_ := (Option.bind_some _ _).symm.trans H; rw [hy234]; with_reducible exact H2_) | (have H2_ := (Option.bind_some _ _).symm.trans H; with_reducible exact H2_) | with_reducible exact H | (rw [hy234]; exact H) | exact H
   have Ny234 := Aside0.mk hy234
   clear hy234
   replace H := Option.bind_eq_some_iff.mp H
   obtain ⟨⟨t237, t238⟩, A320, H⟩ := H
   try dsimp only at H
   have A32 := Aside0.mk A320
   clear A320
   simp only [Option.some.injEq, Prod.mk.injEq] at H
   obtain ⟨rfl, rfl, rfl, rfl, rfl, rfl, rfl, rfl, rfl⟩ := H
   try go_wp2
   replace BK208 := Aside0.mk (blk_drew BK208.out)
   replace BK209 := Aside0.mk (blk_drew BK209.out)
   replace BK219 := Aside0.mk (blk_drew BK219.out)
   replace BK226 := Aside0.mk (blk_drew BK226.out)
   replace HI212 := Aside0.mk (IsS52.drew HI212.out)
   replace HB := Aside0.mk (below_drew1 HB.out)
   refine start_ (n := 8) (S := fun w' => w'.cell? ⟨gb219, 0, none⟩ = some (.int .i64 t213) ∧ w'.cell? ⟨gb219, 1, none⟩ = some (.int .i64 t214) ∧ w'.cell? ⟨gb219, 2, none⟩ = some (.int .i64 t215) ∧ w'.cell? ⟨gb219, 3, none⟩ = some (.int .i64 t216) ∧ w'.cell? ⟨gb226, 0, none⟩ = some (.int .i64 x227000_5) ∧ w'.cell? ⟨gb226, 1, none⟩ = some (.int .i64 x227001_5) ∧ w'.cell? ⟨gb226, 2, none⟩ = some (.int .i64 x227002_5) ∧ w'.cell? ⟨gb226, 3, none⟩ = some (.int .i64 x227003_5)) (ds := []) #[false, false, false, false, false, false, false, false] (by kernel_rfl) rfl rfl ⟨(blk_cell BK219.out 0).trans rfl, (blk_cell BK219.out 1).trans rfl, (blk_cell BK219.out 2).trans rfl, (blk_cell BK219.out 3).trans rfl, (blk_cell BK226.out 0).trans rfl, (blk_cell BK226.out 1).trans rfl, (blk_cell BK226.out 2).trans rfl, (blk_cell BK226.out 3).trans rfl⟩ (fun hHeld => ?_); refine with_tabW spec_DrawRangeOf.tab6 spec_DrawRangeOf.bits6 (fun HT_ HW_ => ?_)
   generalize wc.drew = w33 at BK208 BK209 BK219 BK226 HI212 HB hHeld ⊢
   refine pz 0 27 ?_
   refine tz 3 30 ?_
   refine tz 4 31 ?_
   refine oz 1 28 fun K hK => ?_
   refine Kd.R_lit_step (Kd.int .i64) _ 3 ?hg (N := 28) ?hd (xs := ([1, 2, 3, 4, 5, 6, 7, 8, 9, 10, 11, 2, 3, 12] : List Int)) (inner := [.int .i64 1, .int .i64 2, .int .i64 3, .int .i64 4, .int .i64 5, .int .i64 6, .int .i64 7, .int .i64 8, .int .i64 9, .int .i64 10, .int .i64 11, .int .i64 2, .int .i64 3, .int .i64 12]) (ok := fun _ => True) (okp := fun _ => True) ?hr ?hp (fun _ hk => hk) trivial (Below.refl _ _) (Nat.le_refl _) (by simp) ?_; (case hd => rfl); (case hg => rfl); (case hr => first | (go_simp; done) | (go_simp; rfl)); (case hp => exact (Reps.one (show Kd.M (Kd.int .i64) _ _ _ 1 [.int .i64 1] from rfl) (Reps.one (show Kd.M (Kd.int .i64) _ _ _ 2 [.int .i64 2] from rfl) (Reps.one (show Kd.M (Kd.int .i64) _ _ _ 3 [.int .i64 3] from rfl) (Reps.one (show Kd.M (Kd.int .i64) _ _ _ 4 [.int .i64 4] from rfl) (Reps.one (show Kd.M (Kd.int .i64) _ _ _ 5 [.int .i64 5] from rfl) (Reps.one (show Kd.M (Kd.int .i64) _ _ _ 6 [.int .i64 6] from rfl) (Reps.one (show Kd.M (Kd.int .i64) _ _ _ 7 [.int .i64 7] from rfl) (Reps.one (show Kd.M (Kd.int .i64) _ _ _ 8 [.int .i64 8] from rfl) (Reps.one (show Kd.M (Kd.int .i64) _ _ _ 9 [.int .i64 9] from rfl) (Reps.one (show Kd.M (Kd.int .i64) _ _ _ 10 [.int .i64 10] from rfl) (Reps.one (show Kd.M (Kd.int .i64) _ _ _ 11 [.int .i64 11] from rfl) (Reps.one (show Kd.M (Kd.int .i64) _ _ _ 2 [.int .i64 2] from rfl) (Reps.one (show Kd.M (Kd.int .i64) _ _ _ 3 [.int .i64 3] from rfl) (Reps.one (show Kd.M (Kd.int .i64) _ _ _ 12 [.int .i64 12] from rfl) (Reps.none _ _))))))))))))))))
   intro v235 w34 ho35 hb hg_ hnew_
   clear hg_ hnew_
   (first | rw [← Ny234.out] at ho35 | (simp only [Int.reduceToNat] at ho35; rw [← Ny234.out] at ho35))
   have HO236 := Aside0.mk (Kd.R_lower ho35 (below_size (by repeat (first | (with_reducible first | exact HB.out | apply below_alloc | apply pw_below_drewN | apply below_drew1 | refine below_set ?_ (IsS52.ge HI212.out) | refine below_set ?_ GE208.out | refine below_set ?_ GE209.out | refine below_set ?_ GE219.out | refine below_set ?_ GE226.out) | exact HB.out))))
   replace BK208 := zb BK208 hb rfl
   replace BK209 := zb BK209 hb rfl
   replace BK219 := zb BK219 hb rfl
   replace BK226 := zb BK226 hb rfl
   replace HB := Aside0.mk (below_step (by repeat (first | (with_reducible first | exact HB.out | apply below_alloc | apply pw_below_drewN | apply below_drew1 | refine below_set ?_ (IsS52.ge HI212.out) | refine below_set ?_ GE208.out | refine below_set ?_ GE209.out | refine below_set ?_ GE219.out | refine below_set ?_ GE226.out) | exact HB.out)) hb)
   replace HI212 := Aside0.mk (IsS52.below (by repeat (first | (with_reducible first | exact HI212.out | apply IsS52.alloc | apply IsS52.drewN | apply IsS52.drew | apply IsS52.set_1 | refine IsS52.far ?_ NB212_208.out _ | refine IsS52.far ?_ NB212_209.out _ | refine IsS52.far ?_ NB212_219.out _ | refine IsS52.far ?_ NB212_226.out _) | exact HI212.out)) hb)
   clear hb ho35
   obtain ⟨Ao36, co36, eo36⟩ := Kd.R_slice HO236.out
   (first | subst eo36 | (injection eo36 with f1_ f2_ f3_; have f4_ := f1_.symm; have f5_ := f3_.symm; clear f1_ f2_ f3_; subst f4_; subst f5_))
   refine hK.out _ _ ⟨(blk_cell BK219.out 0).trans rfl, (blk_cell BK219.out 1).trans rfl, (blk_cell BK219.out 2).trans rfl, (blk_cell BK219.out 3).trans rfl, (blk_cell BK226.out 0).trans rfl, (blk_cell BK226.out 1).trans rfl, (blk_cell BK226.out 2).trans rfl, (blk_cell BK226.out 3).trans rfl⟩ (fun hHeld => ?_)
   clear hK K
   refine nz ?_
   refine oz 2 29 fun K hK => ?_
   refine gz Try.func18 #[.pointer (some ⟨g212, 0, none⟩), .slice Ao36 y234.length co36] ?_
   with_reducible refine (spec_l20Rd_one.calls kj5 g212 t210 x213001_5 _ _ y234 t237 t238 w _ ?side1 ?side2 ?side3 ?side4 ?side5 A32.out).mono ?_
   (case side1 => repeat (first | (with_reducible first | exact HI212.out | apply IsS52.alloc | apply IsS52.drewN | apply IsS52.drew | apply IsS52.set_1 | refine IsS52.far ?_ NB212_208.out _ | refine IsS52.far ?_ NB212_209.out _ | refine IsS52.far ?_ NB212_219.out _ | refine IsS52.far ?_ NB212_226.out _) | exact HI212.out))
   (case side2 => repeat (first | (with_reducible first | exact HB.out | apply below_alloc | apply pw_below_drewN | apply below_drew1 | refine below_set ?_ (IsS52.ge HI212.out) | refine below_set ?_ GE208.out | refine below_set ?_ GE209.out | refine below_set ?_ GE219.out | refine below_set ?_ GE226.out) | exact HB.out))
   (case side3 => repeat (first | exact (Kd.R_reads' HO236.out).2.2 | (with_reducible refine Kd.C_alloc ?_ _) | (with_reducible refine Kd.C_drewN ?_ _) | (with_reducible refine Kd.C_drew ?_)))
   (case side4 => exact (Kd.R_reads' HO236.out).2.1)
   (case side5 => exact far_slice (IsS52.own_ne HI212.out HO236.out (by decide)))
   rintro e w37 ⟨rfl, hi, hb, hk⟩
   refine ⟨_, rfl, ?_⟩
   replace BK208 := Aside0.mk (KeepBut.blk hk (g' := gb208) (o := .cells #[.int .i64 0, .int .i64 0, .int .i64 0, .int .i64 0] 24 (0, 0)) (by exact bq BK208.out) NB208_212.out (by simp))
   replace BK209 := Aside0.mk (KeepBut.blk hk (g' := gb209) (o := .cells #[.int .i64 0, .int .i64 0, .int .i64 0, .int .i64 0] 24 (0, 0)) (by exact bq BK209.out) NB209_212.out (by simp))
   replace BK219 := Aside0.mk (KeepBut.blk hk (g' := gb219) (o := .cells #[.int .i64 t213, .int .i64 t214, .int .i64 t215, .int .i64 t216] 24 (0, 0)) (by exact bq BK219.out) NB219_212.out (by simp))
   replace BK226 := Aside0.mk (KeepBut.blk hk (g' := gb226) (o := .cells #[.int .i64 x227000_5, .int .i64 x227001_5, .int .i64 x227002_5, .int .i64 x227003_5] 24 (0, 0)) (by exact bq BK226.out) NB226_212.out (by simp))
   replace HO236 := Aside0.mk (Kd.R_mono (Kd.R_keep (IsS52.apart (show IsS52 w _ g212 t210 x213001_5 from by repeat (first | (with_reducible first | exact HI212.out | apply IsS52.alloc | apply IsS52.drewN | apply IsS52.drew | apply IsS52.set_1 | refine IsS52.far ?_ NB212_208.out _ | refine IsS52.far ?_ NB212_209.out _ | refine IsS52.far ?_ NB212_219.out _ | refine IsS52.far ?_ NB212_226.out _) | exact HI212.out)) (by (with_reducible repeat (first | apply Kd.R_alloc | apply Kd.R_drewN | apply Kd.R_drew)); exact HO236.out) (by decide)) hk (fun _ h => h.2)) (fun _ h => h.1))
   replace HB := Aside0.mk hb
   replace HI212 := Aside0.mk hi
   (try clear hb)
   (try clear hb2)
   (try clear hk)
   (try clear hi)
   refine hK.out _ _ ⟨(blk_cell BK219.out 0).trans rfl, (blk_cell BK219.out 1).trans rfl, (blk_cell BK219.out 2).trans rfl, (blk_cell BK219.out 3).trans rfl, (blk_cell BK226.out 0).trans rfl, (blk_cell BK226.out 1).trans rfl, (blk_cell BK226.out 2).trans rfl, (blk_cell BK226.out 3).trans rfl⟩ (fun hHeld => ?_)
   clear hK K
   refine nz ?_
   refine pz 5 2 ?_
   refine oN 6 fun K hK => ?_
   have hs38 : w37.cell? ⟨gb208, 0, none⟩ = some (.int .i64 0) := (blk_cell BK208.out 0).trans rfl
   have hfs38 := blk_frozen BK208.out 0
   have hns38_1 := NB209_208.out
   have hns38_2 := NB219_208.out
   have hns38_3 := NB226_208.out
   have hms38_1 := NB208_209.out
   have hms38_2 := NB208_219.out
   have hms38_3 := NB208_226.out
   have hs39 : w37.cell? ⟨gb208, 1, none⟩ = some (.int .i64 0) := (blk_cell BK208.out 1).trans rfl
   have hfs39 := blk_frozen BK208.out 1
   have hns39_1 := NB209_208.out
   have hns39_2 := NB219_208.out
   have hns39_3 := NB226_208.out
   have hms39_1 := NB208_209.out
   have hms39_2 := NB208_219.out
   have hms39_3 := NB208_226.out
   have hs40 : w37.cell? ⟨gb208, 2, none⟩ = some (.int .i64 0) := (blk_cell BK208.out 2).trans rfl
   have hfs40 := blk_frozen BK208.out 2
   have hns40_1 := NB209_208.out
   have hns40_2 := NB219_208.out
   have hns40_3 := NB226_208.out
   have hms40_1 := NB208_209.out
   have hms40_2 := NB208_219.out
   have hms40_3 := NB208_226.out
   have hs41 : w37.cell? ⟨gb208, 3, none⟩ = some (.int .i64 0) := (blk_cell BK208.out 3).trans rfl
   have hfs41 := blk_frozen BK208.out 3
   have hns41_1 := NB209_208.out
   have hns41_2 := NB219_208.out
   have hns41_3 := NB226_208.out
   have hms41_1 := NB208_209.out
   have hms41_2 := NB208_219.out
   have hms41_3 := NB208_226.out
   refine skip_ (w1 := ?_) (by rfl) rfl ?_ ?_
   rotate_left
   ·go_simp
    rfl
   refine hK.out _ _ ⟨((cell_far (p := ⟨gb208, _, none⟩) NB219_208.out _).trans (((cell_far (p := ⟨gb208, _, none⟩) NB219_208.out _).trans (((cell_far (p := ⟨gb208, _, none⟩) NB219_208.out _).trans (((cell_far (p := ⟨gb208, _, none⟩) NB219_208.out _).trans (hHeld.1)))))))), ((cell_far (p := ⟨gb208, _, none⟩) NB219_208.out _).trans (((cell_far (p := ⟨gb208, _, none⟩) NB219_208.out _).trans (((cell_far (p := ⟨gb208, _, none⟩) NB219_208.out _).trans (((cell_far (p := ⟨gb208, _, none⟩) NB219_208.out _).trans (hHeld.2.1)))))))), ((cell_far (p := ⟨gb208, _, none⟩) NB219_208.out _).trans (((cell_far (p := ⟨gb208, _, none⟩) NB219_208.out _).trans (((cell_far (p := ⟨gb208, _, none⟩) NB219_208.out _).trans (((cell_far (p := ⟨gb208, _, none⟩) NB219_208.out _).trans (hHeld.2.2.1)))))))), ((cell_far (p := ⟨gb208, _, none⟩) NB219_208.out _).trans (((cell_far (p := ⟨gb208, _, none⟩) NB219_208.out _).trans (((cell_far (p := ⟨gb208, _, none⟩) NB219_208.out _).trans (((cell_far (p := ⟨gb208, _, none⟩) NB219_208.out _).trans (hHeld.2.2.2.1)))))))), ((cell_far (p := ⟨gb208, _, none⟩) NB226_208.out _).trans (((cell_far (p := ⟨gb208, _, none⟩) NB226_208.out _).trans (((cell_far (p := ⟨gb208, _, none⟩) NB226_208.out _).trans (((cell_far (p := ⟨gb208, _, none⟩) NB226_208.out _).trans (hHeld.2.2.2.2.1)))))))), ((cell_far (p := ⟨gb208, _, none⟩) NB226_208.out _).trans (((cell_far (p := ⟨gb208, _, none⟩) NB226_208.out _).trans (((cell_far (p := ⟨gb208, _, none⟩) NB226_208.out _).trans (((cell_far (p := ⟨gb208, _, none⟩) NB226_208.out _).trans (hHeld.2.2.2.2.2.1)))))))), ((cell_far (p := ⟨gb208, _, none⟩) NB226_208.out _).trans (((cell_far (p := ⟨gb208, _, none⟩) NB226_208.out _).trans (((cell_far (p := ⟨gb208, _, none⟩) NB226_208.out _).trans (((cell_far (p := ⟨gb208, _, none⟩) NB226_208.out _).trans (hHeld.2.2.2.2.2.2.1)))))))), ((cell_far (p := ⟨gb208, _, none⟩) NB226_208.out _).trans (((cell_far (p := ⟨gb208, _, none⟩) NB226_208.out _).trans (((cell_far (p := ⟨gb208, _, none⟩) NB226_208.out _).trans (((cell_far (p := ⟨gb208, _, none⟩) NB226_208.out _).trans (hHeld.2.2.2.2.2.2.2))))))))⟩ (fun hHeld => ?_)
   clear hK K
   refine oN 7 fun K hK => ?_
   have hs42 : w37.cell? ⟨gb209, 0, none⟩ = some (.int .i64 0) := (blk_cell BK209.out 0).trans rfl
   have hfs42 := blk_frozen BK209.out 0
   have hns42_0 := NB208_209.out
   have hns42_2 := NB219_209.out
   have hns42_3 := NB226_209.out
   have hms42_0 := NB209_208.out
   have hms42_2 := NB209_219.out
   have hms42_3 := NB209_226.out
   have hs43 : w37.cell? ⟨gb209, 1, none⟩ = some (.int .i64 0) := (blk_cell BK209.out 1).trans rfl
   have hfs43 := blk_frozen BK209.out 1
   have hns43_0 := NB208_209.out
   have hns43_2 := NB219_209.out
   have hns43_3 := NB226_209.out
   have hms43_0 := NB209_208.out
   have hms43_2 := NB209_219.out
   have hms43_3 := NB209_226.out
   have hs44 : w37.cell? ⟨gb209, 2, none⟩ = some (.int .i64 0) := (blk_cell BK209.out 2).trans rfl
   have hfs44 := blk_frozen BK209.out 2
   have hns44_0 := NB208_209.out
   have hns44_2 := NB219_209.out
   have hns44_3 := NB226_209.out
   have hms44_0 := NB209_208.out
   have hms44_2 := NB209_219.out
   have hms44_3 := NB209_226.out
   have hs45 : w37.cell? ⟨gb209, 3, none⟩ = some (.int .i64 0) := (blk_cell BK209.out 3).trans rfl
   have hfs45 := blk_frozen BK209.out 3
   have hns45_0 := NB208_209.out
   have hns45_2 := NB219_209.out
   have hns45_3 := NB226_209.out
   have hms45_0 := NB209_208.out
   have hms45_2 := NB209_219.out
   have hms45_3 := NB209_226.out
   refine skip_ (w1 := ?_) (by rfl) rfl ?_ ?_
   rotate_left
   ·go_simp
    rfl
   refine hK.out _ _ ⟨((cell_far (p := ⟨gb209, _, none⟩) NB219_209.out _).trans (((cell_far (p := ⟨gb209, _, none⟩) NB219_209.out _).trans (((cell_far (p := ⟨gb209, _, none⟩) NB219_209.out _).trans (((cell_far (p := ⟨gb209, _, none⟩) NB219_209.out _).trans (hHeld.1)))))))), ((cell_far (p := ⟨gb209, _, none⟩) NB219_209.out _).trans (((cell_far (p := ⟨gb209, _, none⟩) NB219_209.out _).trans (((cell_far (p := ⟨gb209, _, none⟩) NB219_209.out _).trans (((cell_far (p := ⟨gb209, _, none⟩) NB219_209.out _).trans (hHeld.2.1)))))))), ((cell_far (p := ⟨gb209, _, none⟩) NB219_209.out _).trans (((cell_far (p := ⟨gb209, _, none⟩) NB219_209.out _).trans (((cell_far (p := ⟨gb209, _, none⟩) NB219_209.out _).trans (((cell_far (p := ⟨gb209, _, none⟩) NB219_209.out _).trans (hHeld.2.2.1)))))))), ((cell_far (p := ⟨gb209, _, none⟩) NB219_209.out _).trans (((cell_far (p := ⟨gb209, _, none⟩) NB219_209.out _).trans (((cell_far (p := ⟨gb209, _, none⟩) NB219_209.out _).trans (((cell_far (p := ⟨gb209, _, none⟩) NB219_209.out _).trans (hHeld.2.2.2.1)))))))), ((cell_far (p := ⟨gb209, _, none⟩) NB226_209.out _).trans (((cell_far (p := ⟨gb209, _, none⟩) NB226_209.out _).trans (((cell_far (p := ⟨gb209, _, none⟩) NB226_209.out _).trans (((cell_far (p := ⟨gb209, _, none⟩) NB226_209.out _).trans (hHeld.2.2.2.2.1)))))))), ((cell_far (p := ⟨gb209, _, none⟩) NB226_209.out _).trans (((cell_far (p := ⟨gb209, _, none⟩) NB226_209.out _).trans (((cell_far (p := ⟨gb209, _, none⟩) NB226_209.out _).trans (((cell_far (p := ⟨gb209, _, none⟩) NB226_209.out _).trans (hHeld.2.2.2.2.2.1)))))))), ((cell_far (p := ⟨gb209, _, none⟩) NB226_209.out _).trans (((cell_far (p := ⟨gb209, _, none⟩) NB226_209.out _).trans (((cell_far (p := ⟨gb209, _, none⟩) NB226_209.out _).trans (((cell_far (p := ⟨gb209, _, none⟩) NB226_209.out _).trans (hHeld.2.2.2.2.2.2.1)))))))), ((cell_far (p := ⟨gb209, _, none⟩) NB226_209.out _).trans (((cell_far (p := ⟨gb209, _, none⟩) NB226_209.out _).trans (((cell_far (p := ⟨gb209, _, none⟩) NB226_209.out _).trans (((cell_far (p := ⟨gb209, _, none⟩) NB226_209.out _).trans (hHeld.2.2.2.2.2.2.2))))))))⟩ (fun hHeld => ?_)
   clear hK K
   refine done_ (done_of HT_.out (by kernel_rfl)) ?_
   try go_wp2
   refine bodyPost_ret (results_list (rs := [.tmp 2, .cell 3 24, .cell 4 24]) rfl (by simp) (.tmp (.cell gb208 24 #[.int .i64 t213, .int .i64 t214, .int .i64 t215, .int .i64 t216] (0, 0) _ rfl (by refine fq ?_ NB208_209.out; refine fq ?_ NB208_209.out; refine fq ?_ NB208_209.out; refine fq ?_ NB208_209.out; refine bq ?_; refine blk_put (cs := #[.int .i64 t213, .int .i64 t214, .int .i64 t215, .int .i64 0]) ?_ 3 _ rfl; refine bq ?_; refine blk_put (cs := #[.int .i64 t213, .int .i64 t214, .int .i64 0, .int .i64 0]) ?_ 2 _ rfl; refine bq ?_; refine blk_put (cs := #[.int .i64 t213, .int .i64 0, .int .i64 0, .int .i64 0]) ?_ 1 _ rfl; refine bq ?_; refine blk_put (cs := #[.int .i64 0, .int .i64 0, .int .i64 0, .int .i64 0]) ?_ 0 _ rfl; exact bq BK208.out) Try.underlying24 rfl (by kernel_rfl) (.cell gb209 24 #[.int .i64 x227000_5, .int .i64 x227001_5, .int .i64 x227002_5, .int .i64 x227003_5] (0, 0) _ rfl (by refine bq ?_; refine blk_put (cs := #[.int .i64 x227000_5, .int .i64 x227001_5, .int .i64 x227002_5, .int .i64 0]) ?_ 3 _ rfl; refine bq ?_; refine blk_put (cs := #[.int .i64 x227000_5, .int .i64 x227001_5, .int .i64 0, .int .i64 0]) ?_ 2 _ rfl; refine bq ?_; refine blk_put (cs := #[.int .i64 x227000_5, .int .i64 0, .int .i64 0, .int .i64 0]) ?_ 1 _ rfl; refine bq ?_; refine blk_put (cs := #[.int .i64 0, .int .i64 0, .int .i64 0, .int .i64 0]) ?_ 0 _ rfl; refine fq ?_ NB209_208.out; refine fq ?_ NB209_208.out; refine fq ?_ NB209_208.out; refine fq ?_ NB209_208.out; exact bq BK209.out) Try.underlying24 rfl (by kernel_rfl) .nil)))) rfl ?_
   exact ⟨zR, by repeat (first | (with_reducible first | exact HB.out | apply below_alloc | apply pw_below_drewN | apply below_drew1 | refine below_set ?_ (IsS52.ge HI212.out) | refine below_set ?_ GE208.out | refine below_set ?_ GE209.out | refine below_set ?_ GE219.out | refine below_set ?_ GE226.out) | exact HB.out)⟩

/-! ### impl_within: function 29 -/
def impl_within.f (a0 : Int) (a1 : Int) (a2 : Int) : Option (Bool) := if a0 ≥ a1 then (some (decide (a0 ≤ a2))) else (some false)
set_option maxHeartbeats 8000000 in
set_option maxRecDepth 100000 in
theorem impl_within.calls (a0 : Int) (a1 : Int) (a2 : Int) (r : Bool) (w : World) (h : impl_within.f a0 a1 a2 = some r) :
  Calls Try.prog 29 #[.int .i64 a0, .int .i64 a1, .int .i64 a2] w fun e w' => e = .returned (.bool r) ∧ Drawn0 w w' := by
 have H : (if a0 ≥ a1 then (some (decide (a0 ≤ a2))) else (some false)) = some r := h
 clear h
 by_cases c4 : a0 ≥ a1
 ·rw [if_pos c4] at H
  have c4b0 : decide (a1 ≤ a0) = true := decide_eq_true c4
  clear c4
  obtain rfl := Option.some.inj H
  go_enter Try.func29, Try.ntmps29
  go_wp2
  go_ret
  exact ⟨by first | rfl | (simp; done) | (simp [*]; done), by repeat (first | exact Drawn0.refl _ | apply Drawn0.step)⟩
 ·rw [if_neg c4] at H
  have c4b0 : decide (a1 ≤ a0) = false := decide_eq_false c4
  clear c4
  obtain rfl := Option.some.inj H
  go_enter Try.func29, Try.ntmps29
  go_wp2
  go_ret
  exact ⟨by first | rfl | (simp; done) | (simp [*]; done), by repeat (first | exact Drawn0.refl _ | apply Drawn0.step)⟩

/-! ### impl_kind_reckons: function 19 -/
def impl_kind_reckons.f (a0 : Int) : Option (Bool) := (impl_within.f a0 1 11).bind fun t239 => (some t239)
set_option maxHeartbeats 8000000 in
set_option maxRecDepth 100000 in
theorem impl_kind_reckons.calls (a0 : Int) (r : Bool) (w : World) (h : impl_kind_reckons.f a0 = some r) :
  Calls Try.prog 19 #[.int .i64 a0] w fun e w' => e = .returned (.bool r) ∧ Drawn0 w w' := by
 have H : ((impl_within.f a0 1 11).bind fun t239 => (some t239)) = some r := h
 clear h
 replace H := Option.bind_eq_some_iff.mp H
 obtain ⟨t239, A20, H⟩ := H
 try dsimp only at H
 have A2 := Aside0.mk A20
 clear A20
 obtain rfl := Option.some.inj H
 go_enter Try.func19, Try.ntmps19
 go_wp2_with (first | ((with_reducible refine gate_callee (f := 29) rfl ?_); refine gl 4 Try.func29 #[.int .i64 a0, .int .i64 1, .int .i64 11] ?_; (with_reducible refine (impl_within.calls a0 1 11 t239 _ A2.out).mono ?_); rintro e w' ⟨rfl, ⟨nd, rfl⟩⟩; refine ⟨_, rfl, ?_⟩))
 go_ret
 exact ⟨by first | rfl | (simp; done) | (simp [*]; done), by repeat (first | exact Drawn0.refl _ | apply Drawn0.step)⟩

/-! ### impl_numOk: function 28 -/
def impl_numOk.f (a0 : Int) : Option (Bool) := (impl_within.f a0 0 4294967295).bind fun t240 => (some t240)
set_option maxHeartbeats 8000000 in
set_option maxRecDepth 100000 in
theorem impl_numOk.calls (a0 : Int) (r : Bool) (w : World) (h : impl_numOk.f a0 = some r) :
  Calls Try.prog 28 #[.int .i64 a0] w fun e w' => e = .returned (.bool r) ∧ Drawn0 w w' := by
 have H : ((impl_within.f a0 0 4294967295).bind fun t240 => (some t240)) = some r := h
 clear h
 replace H := Option.bind_eq_some_iff.mp H
 obtain ⟨t240, A20, H⟩ := H
 try dsimp only at H
 have A2 := Aside0.mk A20
 clear A20
 obtain rfl := Option.some.inj H
 go_enter Try.func28, Try.ntmps28
 go_wp2_with (first | ((with_reducible refine gate_callee (f := 29) rfl ?_); refine gl 4 Try.func29 #[.int .i64 a0, .int .i64 0, .int .i64 4294967295] ?_; (with_reducible refine (impl_within.calls a0 0 4294967295 t240 _ A2.out).mono ?_); rintro e w' ⟨rfl, ⟨nd, rfl⟩⟩; refine ⟨_, rfl, ?_⟩))
 go_ret
 exact ⟨by first | rfl | (simp; done) | (simp [*]; done), by repeat (first | exact Drawn0.refl _ | apply Drawn0.step)⟩

/-! ### impl_RangeOk: function 8 -/
def impl_RangeOk.f (a0_0 : Int) (a0_1 : Int) (a0_2 : Int) (a0_3 : Int) : Option (Bool) := (impl_numOk.f a0_0).bind fun t242 => (if t242 = true then ((impl_within.f a0_1 a0_0 4294967295).bind fun t243 => (if t243 = true then ((impl_numOk.f a0_2).bind fun t244 => (if t244 = true then ((impl_numOk.f a0_3).bind fun t245 => (if t245 = true then (some ((Go.bits .and .i64 a0_2 a0_3) == 0)) else (some false))) else (some false))) else (some false))) else (some false))
set_option maxHeartbeats 8000000 in
set_option maxRecDepth 100000 in
theorem impl_RangeOk.calls (a0_0 : Int) (a0_1 : Int) (a0_2 : Int) (a0_3 : Int) (r : Bool) (w : World) (h : impl_RangeOk.f a0_0 a0_1 a0_2 a0_3 = some r) :
  Calls Try.prog 8 #[.agg #[.int .i64 a0_0, .int .i64 a0_1, .int .i64 a0_2, .int .i64 a0_3]] w fun e w' => e = .returned (.bool r) ∧ Below w.heap.size w w' := by
 have hu24 := Try.underlying24
 have HB := Aside0.mk (Below.refl w.heap.size w)
 have H : ((impl_numOk.f a0_0).bind fun t242 => (if t242 = true then ((impl_within.f a0_1 a0_0 4294967295).bind fun t243 => (if t243 = true then ((impl_numOk.f a0_2).bind fun t244 => (if t244 = true then ((impl_numOk.f a0_3).bind fun t245 => (if t245 = true then (some ((Go.bits .and .i64 a0_2 a0_3) == 0)) else (some false))) else (some false))) else (some false))) else (some false))) = some r := h
 clear h
 replace H := Option.bind_eq_some_iff.mp H
 obtain ⟨t242, A20, H⟩ := H
 try dsimp only at H
 have A2 := Aside0.mk A20
 clear A20
 by_cases c3 : t242 = true
 ·subst c3
  rw [if_pos rfl] at H
  replace H := Option.bind_eq_some_iff.mp H
  obtain ⟨t243, A40, H⟩ := H
  try dsimp only at H
  have A4 := Aside0.mk A40
  clear A40
  by_cases c5 : t243 = true
  ·subst c5
   rw [if_pos rfl] at H
   replace H := Option.bind_eq_some_iff.mp H
   obtain ⟨t244, A60, H⟩ := H
   try dsimp only at H
   have A6 := Aside0.mk A60
   clear A60
   by_cases c7 : t244 = true
   ·subst c7
    rw [if_pos rfl] at H
    replace H := Option.bind_eq_some_iff.mp H
    obtain ⟨t245, A80, H⟩ := H
    try dsimp only at H
    have A8 := Aside0.mk A80
    clear A80
    by_cases c9 : t245 = true
    ·subst c9
     rw [if_pos rfl] at H
     obtain rfl := Option.some.inj H
     go_enter Try.func8, Try.ntmps8
     go_wp2_with (first | ((with_reducible refine gate_dst (N := 1) rfl ?_); refine be 1 #[.int .i64 a0_0, .int .i64 a0_1, .int .i64 a0_2, .int .i64 a0_3] 24 ?_; intro gb241 hg w10 hbox hb; have BK241 := Aside0.mk hbox; have GW241 := zW hg; replace HB := zS hb; have GE241 := GW241; clear hb hbox hg; obtain ⟨hcz11_0, hcz11_1, hcz11_2, hcz11_3, hfz11_0, hfz11_1, hfz11_2, hfz11_3⟩ := zc4 BK241) | ((with_reducible refine gate_callee (f := 28) rfl ?_); refine gl 5 Try.func28 #[.int .i64 a0_0] ?_; (with_reducible refine (impl_numOk.calls a0_0 true _ A2.out).mono ?_); rintro e w' ⟨rfl, ⟨nd, rfl⟩⟩; refine ⟨_, rfl, ?_⟩) | (go_at_call 29; (with_reducible refine (impl_within.calls a0_1 a0_0 4294967295 true _ A4.out).mono ?_); rintro e w' ⟨rfl, ⟨nd, rfl⟩⟩) | (go_at_call 28; (with_reducible refine (impl_numOk.calls a0_2 true _ A6.out).mono ?_); rintro e w' ⟨rfl, ⟨nd, rfl⟩⟩) | (go_at_call 28; (with_reducible refine (impl_numOk.calls a0_3 true _ A8.out).mono ?_); rintro e w' ⟨rfl, ⟨nd, rfl⟩⟩))
     go_ret
     exact ⟨zR, zB⟩
    ·replace c9 := Bool.eq_false_iff.mpr c9
     subst c9
     rw [if_neg (show ¬ (false = true) by decide)] at H
     obtain rfl := Option.some.inj H
     go_enter Try.func8, Try.ntmps8
     go_wp2_with (first | ((with_reducible refine gate_dst (N := 1) rfl ?_); refine be 1 #[.int .i64 a0_0, .int .i64 a0_1, .int .i64 a0_2, .int .i64 a0_3] 24 ?_; intro gb241 hg w12 hbox hb; have BK241 := Aside0.mk hbox; have GW241 := zW hg; replace HB := zS hb; have GE241 := GW241; clear hb hbox hg; obtain ⟨hcz13_0, hcz13_1, hcz13_2, hcz13_3, hfz13_0, hfz13_1, hfz13_2, hfz13_3⟩ := zc4 BK241) | ((with_reducible refine gate_callee (f := 28) rfl ?_); refine gl 5 Try.func28 #[.int .i64 a0_0] ?_; (with_reducible refine (impl_numOk.calls a0_0 true _ A2.out).mono ?_); rintro e w' ⟨rfl, ⟨nd, rfl⟩⟩; refine ⟨_, rfl, ?_⟩) | (go_at_call 29; (with_reducible refine (impl_within.calls a0_1 a0_0 4294967295 true _ A4.out).mono ?_); rintro e w' ⟨rfl, ⟨nd, rfl⟩⟩) | (go_at_call 28; (with_reducible refine (impl_numOk.calls a0_2 true _ A6.out).mono ?_); rintro e w' ⟨rfl, ⟨nd, rfl⟩⟩) | (go_at_call 28; (with_reducible refine (impl_numOk.calls a0_3 false _ A8.out).mono ?_); rintro e w' ⟨rfl, ⟨nd, rfl⟩⟩))
     go_ret
     exact ⟨zR, zB⟩
   ·replace c7 := Bool.eq_false_iff.mpr c7
    subst c7
    rw [if_neg (show ¬ (false = true) by decide)] at H
    obtain rfl := Option.some.inj H
    go_enter Try.func8, Try.ntmps8
    go_wp2_with (first | ((with_reducible refine gate_dst (N := 1) rfl ?_); refine be 1 #[.int .i64 a0_0, .int .i64 a0_1, .int .i64 a0_2, .int .i64 a0_3] 24 ?_; intro gb241 hg w14 hbox hb; have BK241 := Aside0.mk hbox; have GW241 := zW hg; replace HB := zS hb; have GE241 := GW241; clear hb hbox hg; obtain ⟨hcz15_0, hcz15_1, hcz15_2, hcz15_3, hfz15_0, hfz15_1, hfz15_2, hfz15_3⟩ := zc4 BK241) | ((with_reducible refine gate_callee (f := 28) rfl ?_); refine gl 5 Try.func28 #[.int .i64 a0_0] ?_; (with_reducible refine (impl_numOk.calls a0_0 true _ A2.out).mono ?_); rintro e w' ⟨rfl, ⟨nd, rfl⟩⟩; refine ⟨_, rfl, ?_⟩) | (go_at_call 29; (with_reducible refine (impl_within.calls a0_1 a0_0 4294967295 true _ A4.out).mono ?_); rintro e w' ⟨rfl, ⟨nd, rfl⟩⟩) | (go_at_call 28; (with_reducible refine (impl_numOk.calls a0_2 false _ A6.out).mono ?_); rintro e w' ⟨rfl, ⟨nd, rfl⟩⟩))
    go_ret
    exact ⟨zR, zB⟩
  ·replace c5 := Bool.eq_false_iff.mpr c5
   subst c5
   rw [if_neg (show ¬ (false = true) by decide)] at H
   obtain rfl := Option.some.inj H
   go_enter Try.func8, Try.ntmps8
   go_wp2_with (first | ((with_reducible refine gate_dst (N := 1) rfl ?_); refine be 1 #[.int .i64 a0_0, .int .i64 a0_1, .int .i64 a0_2, .int .i64 a0_3] 24 ?_; intro gb241 hg w16 hbox hb; have BK241 := Aside0.mk hbox; have GW241 := zW hg; replace HB := zS hb; have GE241 := GW241; clear hb hbox hg; obtain ⟨hcz17_0, hcz17_1, hcz17_2, hcz17_3, hfz17_0, hfz17_1, hfz17_2, hfz17_3⟩ := zc4 BK241) | ((with_reducible refine gate_callee (f := 28) rfl ?_); refine gl 5 Try.func28 #[.int .i64 a0_0] ?_; (with_reducible refine (impl_numOk.calls a0_0 true _ A2.out).mono ?_); rintro e w' ⟨rfl, ⟨nd, rfl⟩⟩; refine ⟨_, rfl, ?_⟩) | (go_at_call 29; (with_reducible refine (impl_within.calls a0_1 a0_0 4294967295 false _ A4.out).mono ?_); rintro e w' ⟨rfl, ⟨nd, rfl⟩⟩))
   go_ret
   exact ⟨zR, zB⟩
 ·replace c3 := Bool.eq_false_iff.mpr c3
  subst c3
  rw [if_neg (show ¬ (false = true) by decide)] at H
  obtain rfl := Option.some.inj H
  go_enter Try.func8, Try.ntmps8
  go_wp2_with (first | ((with_reducible refine gate_dst (N := 1) rfl ?_); refine be 1 #[.int .i64 a0_0, .int .i64 a0_1, .int .i64 a0_2, .int .i64 a0_3] 24 ?_; intro gb241 hg w18 hbox hb; have BK241 := Aside0.mk hbox; have GW241 := zW hg; replace HB := zS hb; have GE241 := GW241; clear hb hbox hg; obtain ⟨hcz19_0, hcz19_1, hcz19_2, hcz19_3, hfz19_0, hfz19_1, hfz19_2, hfz19_3⟩ := zc4 BK241) | ((with_reducible refine gate_callee (f := 28) rfl ?_); refine gl 5 Try.func28 #[.int .i64 a0_0] ?_; (with_reducible refine (impl_numOk.calls a0_0 false _ A2.out).mono ?_); rintro e w' ⟨rfl, ⟨nd, rfl⟩⟩; refine ⟨_, rfl, ?_⟩))
  go_ret
  exact ⟨zR, zB⟩

/-! ### impl_Range_has: function 30 -/
def impl_Range_has.f (a0_0 : Int) (a0_1 : Int) (a0_2 : Int) (a0_3 : Int) (a1 : Int) : Option (Bool) := (impl_within.f a1 a0_0 a0_1).bind fun t247 => (if t247 = true then (some ((Go.bits .andNot .i64 a1 a0_3) == a0_2)) else (some false))
set_option maxHeartbeats 8000000 in
set_option maxRecDepth 100000 in
theorem impl_Range_has.calls (a0_0 : Int) (a0_1 : Int) (a0_2 : Int) (a0_3 : Int) (a1 : Int) (r : Bool) (w : World) (h : impl_Range_has.f a0_0 a0_1 a0_2 a0_3 a1 = some r) :
  Calls Try.prog 30 #[.agg #[.int .i64 a0_0, .int .i64 a0_1, .int .i64 a0_2, .int .i64 a0_3], .int .i64 a1] w fun e w' => e = .returned (.bool r) ∧ Below w.heap.size w w' := by
 have hu24 := Try.underlying24
 have HB := Aside0.mk (Below.refl w.heap.size w)
 have H : ((impl_within.f a1 a0_0 a0_1).bind fun t247 => (if t247 = true then (some ((Go.bits .andNot .i64 a1 a0_3) == a0_2)) else (some false))) = some r := h
 clear h
 replace H := Option.bind_eq_some_iff.mp H
 obtain ⟨t247, A30, H⟩ := H
 try dsimp only at H
 have A3 := Aside0.mk A30
 clear A30
 by_cases c4 : t247 = true
 ·subst c4
  rw [if_pos rfl] at H
  obtain rfl := Option.some.inj H
  go_enter Try.func30, Try.ntmps30
  go_wp2_with (first | ((with_reducible refine gate_dst (N := 2) rfl ?_); refine be 2 #[.int .i64 a0_0, .int .i64 a0_1, .int .i64 a0_2, .int .i64 a0_3] 24 ?_; intro gb246 hg w5 hbox hb; have BK246 := Aside0.mk hbox; have GW246 := zW hg; replace HB := zS hb; have GE246 := GW246; clear hb hbox hg; obtain ⟨hcz6_0, hcz6_1, hcz6_2, hcz6_3, hfz6_0, hfz6_1, hfz6_2, hfz6_3⟩ := zc4 BK246) | ((with_reducible refine gate_callee (f := 29) rfl ?_); refine gl 10 Try.func29 #[.int .i64 a1, .int .i64 a0_0, .int .i64 a0_1] ?_; (with_reducible refine (impl_within.calls a1 a0_0 a0_1 true _ A3.out).mono ?_); rintro e w' ⟨rfl, ⟨nd, rfl⟩⟩; refine ⟨_, rfl, ?_⟩))
  go_ret
  exact ⟨zR, zB⟩
 ·replace c4 := Bool.eq_false_iff.mpr c4
  subst c4
  rw [if_neg (show ¬ (false = true) by decide)] at H
  obtain rfl := Option.some.inj H
  go_enter Try.func30, Try.ntmps30
  go_wp2_with (first | ((with_reducible refine gate_dst (N := 2) rfl ?_); refine be 2 #[.int .i64 a0_0, .int .i64 a0_1, .int .i64 a0_2, .int .i64 a0_3] 24 ?_; intro gb246 hg w7 hbox hb; have BK246 := Aside0.mk hbox; have GW246 := zW hg; replace HB := zS hb; have GE246 := GW246; clear hb hbox hg; obtain ⟨hcz8_0, hcz8_1, hcz8_2, hcz8_3, hfz8_0, hfz8_1, hfz8_2, hfz8_3⟩ := zc4 BK246) | ((with_reducible refine gate_callee (f := 29) rfl ?_); refine gl 10 Try.func29 #[.int .i64 a1, .int .i64 a0_0, .int .i64 a0_1] ?_; (with_reducible refine (impl_within.calls a1 a0_0 a0_1 false _ A3.out).mono ?_); rintro e w' ⟨rfl, ⟨nd, rfl⟩⟩; refine ⟨_, rfl, ?_⟩))
  go_ret
  exact ⟨zR, zB⟩

/-! ### impl_Range_above: function 57 -/
mutual
def impl_Range_above.l0 : Nat → Int → Int → Int → Int → Int → Option (Int)
 | 0, _, _, _, _, _ => none
 | k + 1, x5, x249000, x249001, x249002, x249003 => if x5 < 32 then (if 0 ≤ x5 then (if (Go.bits .and .i64 (shr .i64 x249000 x5) 1) = 1 then (impl_Range_above.j1 k x5 (Go.bits .xor .i64 (-1) (wrap64 ((shl .i64 2 x5) - 1))) x5 true x249000 x249001 x249002 x249003) else (if (Go.bits .and .i64 (shr .i64 (Go.bits .or .i64 x249002 x249003) x5) 1) = 0 then (impl_Range_above.j1 k x5 (Go.bits .xor .i64 (-1) (wrap64 ((shl .i64 2 x5) - 1))) x5 true x249000 x249001 x249002 x249003) else (impl_Range_above.j1 k x5 (Go.bits .xor .i64 (-1) (wrap64 ((shl .i64 2 x5) - 1))) x5 ((Go.bits .andNot .i64 (Go.bits .and .i64 x249000 (Go.bits .xor .i64 (-1) (wrap64 ((shl .i64 2 x5) - 1)))) x249003) != (Go.bits .and .i64 x249002 (Go.bits .xor .i64 (-1) (wrap64 ((shl .i64 2 x5) - 1))))) x249000 x249001 x249002 x249003))) else (none)) else (some (-1))
def impl_Range_above.j1 : Nat → Int → Int → Int → Bool → Int → Int → Int → Int → Option (Int)
 | 0, _, _, _, _, _, _, _, _ => none
 | k + 1, x3, x4, x5, x42, x249000, x249001, x249002, x249003 => if x42 = true then (impl_Range_above.l0 k (wrap64 (x5 + 1)) x249000 x249001 x249002 x249003) else (if 0 ≤ x3 then (some (Go.bits .or .i64 (Go.bits .or .i64 (Go.bits .and .i64 x249000 x4) (shl .i64 1 x3)) (Go.bits .and .i64 x249002 (wrap64 ((shl .i64 1 x3) - 1))))) else (none))
end
def impl_Range_above.f (k : Nat) (a0_0 : Int) (a0_1 : Int) (a0_2 : Int) (a0_3 : Int) : Option (Int) := impl_Range_above.l0 k 0 a0_0 a0_1 a0_2 a0_3


set_option maxHeartbeats 8000000 in
set_option maxRecDepth 100000 in
theorem impl_Range_above.calls (k : Nat) (a0_0 : Int) (a0_1 : Int) (a0_2 : Int) (a0_3 : Int) (r : Int) (w : World) (h : impl_Range_above.f k a0_0 a0_1 a0_2 a0_3 = some r) :
  Calls Try.prog 57 #[.agg #[.int .i64 a0_0, .int .i64 a0_1, .int .i64 a0_2, .int .i64 a0_3]] w fun e w' => e = .returned (.int .i64 r) ∧ Below w.heap.size w w' := by
 have hu24 := Try.underlying24
 have HB := Aside0.mk (Below.refl w.heap.size w)
 have H : (impl_Range_above.l0 k 0 a0_0 a0_1 a0_2 a0_3) = some r := h
 clear h
 have H' := Aside0.mk H
 clear H
 go_enter Try.func57, Try.ntmps57
 go_wp2_with (first | ((with_reducible refine gate_dst (N := 1) rfl ?_); refine be 1 #[.int .i64 a0_0, .int .i64 a0_1, .int .i64 a0_2, .int .i64 a0_3] 24 ?_; intro gb248 hg w2 hbox hb; have BK248 := Aside0.mk hbox; have GW248 := zW hg; replace HB := zS hb; have GE248 := GW248; clear hb hbox hg))
 repeat (go_quiet (first | ((with_reducible refine gate_dst (N := 1) rfl ?_); refine be 1 #[.int .i64 a0_0, .int .i64 a0_1, .int .i64 a0_2, .int .i64 a0_3] 24 ?_; intro gb248 hg w2 hbox hb; have BK248 := Aside0.mk hbox; have GW248 := zW hg; replace HB := zS hb; have GE248 := GW248; clear hb hbox hg)); try go_wp2_with (first | ((with_reducible refine gate_dst (N := 1) rfl ?_); refine be 1 #[.int .i64 a0_0, .int .i64 a0_1, .int .i64 a0_2, .int .i64 a0_3] 24 ?_; intro gb248 hg w2 hbox hb; have BK248 := Aside0.mk hbox; have GW248 := zW hg; replace HB := zS hb; have GE248 := GW248; clear hb hbox hg)))
 go_loopg [5] k (fun kq v5 w' => ∃ (x5_1 : Int), v5 = .int .i64 x5_1 ∧ Aside0 (impl_Range_above.l0 kq x5_1 a0_0 a0_1 a0_2 a0_3 = some r) ∧ Aside0 (kq ≤ k) ∧ Aside0 (w'.heap[gb248]? = some (.cells #[.int .i64 a0_0, .int .i64 a0_1, .int .i64 a0_2, .int .i64 a0_3] 24 (0, 0))) ∧ Aside0 (Below w.heap.size w w'))
 case atStart => exact ⟨(0), (by first | rfl | (simp; done) | (simp [*]; done)), H', ⟨Nat.le_refl _⟩, ⟨by exact bq BK248.out⟩, ⟨zB⟩⟩
 case round =>
  clear H'
  try clear p2
  obtain ⟨x5_1, rfl, HA, HK1, BK248, HB⟩ := hrel
  cases gk with
  | zero => exact absurd HA.out (by simp [impl_Range_above.l0])
  | succ k1 =>
   have H := HA.out
   clear HA
   simp only [impl_Range_above.l0] at H
   by_cases c3 : x5_1 < 32
   ·rw [if_pos c3] at H
    have c3b0 : decide (x5_1 < 32) = true := decide_eq_true c3
    clear c3
    by_cases c4 : 0 ≤ x5_1
    ·rw [if_pos c4] at H
     have c4b0 := eq_true c4
     have c4b1 : decide (0 ≤ x5_1) = true := decide_eq_true c4
     clear c4
     obtain ⟨ji5, hji5⟩ : ∃ j_ : Int, (shl .i64 2 x5_1) = j_ := ⟨_, rfl⟩
     replace H : (if (Go.bits .and .i64 (shr .i64 a0_0 x5_1) 1) = 1 then (impl_Range_above.j1 k1 x5_1 (Go.bits .xor .i64 (-1) (wrap64 ((ji5) - 1))) x5_1 true a0_0 a0_1 a0_2 a0_3) else (if (Go.bits .and .i64 (shr .i64 (Go.bits .or .i64 a0_2 a0_3) x5_1) 1) = 0 then (impl_Range_above.j1 k1 x5_1 (Go.bits .xor .i64 (-1) (wrap64 ((ji5) - 1))) x5_1 true a0_0 a0_1 a0_2 a0_3) else (impl_Range_above.j1 k1 x5_1 (Go.bits .xor .i64 (-1) (wrap64 ((ji5) - 1))) x5_1 ((Go.bits .andNot .i64 (Go.bits .and .i64 a0_0 (Go.bits .xor .i64 (-1) (wrap64 ((ji5) - 1)))) a0_3) != (Go.bits .and .i64 a0_2 (Go.bits .xor .i64 (-1) (wrap64 ((ji5) - 1))))) a0_0 a0_1 a0_2 a0_3))) = some r := by first | (rw [hji5] at H; exact H) | (simp only [hji5] at H ⊢; exact H)
     have hji5_ : (IntKind.i64.wrap (2 * 2 ^ min x5_1.toNat 64)) = ji5 := hji5
     have hji5z : x5_1 ≤ 64 → (IntKind.i64.wrap (2 * 2 ^ x5_1.toNat)) = ji5 := shl_small hji5
     have hji5y : (wrap64 (2 * 2 ^ min x5_1.toNat 64)) = ji5 := (i64_w _).symm.trans hji5_
     have hji5x : x5_1 ≤ 64 → (wrap64 (2 * 2 ^ x5_1.toNat)) = ji5 := fun h_ => (i64_w _).symm.trans (hji5z h_)
     have HC6 := Aside0.mk H
     clear H
     go_upto_region 5 with (fail)
     repeat (go_quiet (fail); go_upto_region 5 with (fail))
     go_cut [42] (fun v42 wc => ∃ (kq : Nat) (x42_5 : Bool), v42 = .bool x42_5 ∧ Aside0 (impl_Range_above.j1 kq x5_1 (Go.bits .xor .i64 (-1) (wrap64 ((ji5) - 1))) x5_1 x42_5 a0_0 a0_1 a0_2 a0_3 = some r) ∧ Aside0 (kq ≤ k1) ∧ Aside0 (wc.heap[gb248]? = some (.cells #[.int .i64 a0_0, .int .i64 a0_1, .int .i64 a0_2, .int .i64 a0_3] 24 (0, 0))) ∧ Aside0 (Below w.heap.size w wc))
     case first =>
      have H := HC6.out
      clear HC6
      have c7b0 := eq_true (of_decide_eq_true (by first | (with_reducible assumption) | assumption) : 0 ≤ x5_1)
      obtain ⟨ji8, hji8⟩ : ∃ j_ : Int, (shr .i64 a0_0 x5_1) = j_ := ⟨_, rfl⟩
      replace H : (if (Go.bits .and .i64 (ji8) 1) = 1 then (impl_Range_above.j1 k1 x5_1 (Go.bits .xor .i64 (-1) (wrap64 ((ji5) - 1))) x5_1 true a0_0 a0_1 a0_2 a0_3) else (if (Go.bits .and .i64 (shr .i64 (Go.bits .or .i64 a0_2 a0_3) x5_1) 1) = 0 then (impl_Range_above.j1 k1 x5_1 (Go.bits .xor .i64 (-1) (wrap64 ((ji5) - 1))) x5_1 true a0_0 a0_1 a0_2 a0_3) else (impl_Range_above.j1 k1 x5_1 (Go.bits .xor .i64 (-1) (wrap64 ((ji5) - 1))) x5_1 ((Go.bits .andNot .i64 (Go.bits .and .i64 a0_0 (Go.bits .xor .i64 (-1) (wrap64 ((ji5) - 1)))) a0_3) != (Go.bits .and .i64 a0_2 (Go.bits .xor .i64 (-1) (wrap64 ((ji5) - 1))))) a0_0 a0_1 a0_2 a0_3))) = some r := by first | (rw [hji8] at H; exact H) | (simp only [hji8] at H ⊢; exact H)
      have hji8_ : (a0_0 / 2 ^ min x5_1.toNat 64) = ji8 := hji8
      have hji8z : x5_1 ≤ 64 → (a0_0 / 2 ^ x5_1.toNat) = ji8 := shr_small hji8
      by_cases c9 : (Go.bits .and .i64 (ji8) 1) = 1
      ·rw [if_pos c9] at H
       have c9b0 : ((Go.bits .and .i64 (ji8) 1) == 1) = true := beq_iff_eq.mpr c9
       have c9b1 : ((Go.bits .and .i64 (ji8) 1) != 1) = false := bne_eq_false_iff_eq.mpr c9
       clear c9
       (first | rw [c9b0] | (simp only [i64_w, i32_w]; rw [c9b0]) | skip)
       have H' := Aside0.mk H
       clear H
       obtain ⟨hcz10_0, hcz10_1, hcz10_2, hcz10_3, hfz10_0, hfz10_1, hfz10_2, hfz10_3⟩ := zc4 BK248
       go_wp2
       repeat (go_quiet (fail); try go_wp2)
       go_meet
       case rel => exact ⟨_, (true), (by first | rfl | (simp; done) | (simp [*]; done)), H', ⟨by have := HK1.out; first | omega | exact Nat.le_refl _⟩, ⟨by exact bq BK248.out⟩, ⟨zB⟩⟩
      ·rw [if_neg c9] at H
       have c9b0 : ((Go.bits .and .i64 (ji8) 1) == 1) = false := beq_eq_false_iff_ne.mpr c9
       have c9b1 : ((Go.bits .and .i64 (ji8) 1) != 1) = true := bne_iff_ne.mpr c9
       (first | rw [c9b0] | (simp only [i64_w, i32_w]; rw [c9b0]) | skip)
       have c11b0 := eq_true (of_decide_eq_true (by first | (with_reducible assumption) | assumption) : 0 ≤ x5_1)
       obtain ⟨ji12, hji12⟩ : ∃ j_ : Int, (shr .i64 (Go.bits .or .i64 a0_2 a0_3) x5_1) = j_ := ⟨_, rfl⟩
       replace H : (if (Go.bits .and .i64 (ji12) 1) = 0 then (impl_Range_above.j1 k1 x5_1 (Go.bits .xor .i64 (-1) (wrap64 ((ji5) - 1))) x5_1 true a0_0 a0_1 a0_2 a0_3) else (impl_Range_above.j1 k1 x5_1 (Go.bits .xor .i64 (-1) (wrap64 ((ji5) - 1))) x5_1 ((Go.bits .andNot .i64 (Go.bits .and .i64 a0_0 (Go.bits .xor .i64 (-1) (wrap64 ((ji5) - 1)))) a0_3) != (Go.bits .and .i64 a0_2 (Go.bits .xor .i64 (-1) (wrap64 ((ji5) - 1))))) a0_0 a0_1 a0_2 a0_3)) = some r := by first | (rw [hji12] at H; exact H) | (simp only [hji12] at H ⊢; exact H)
       have hji12_ : ((Go.bits .or .i64 a0_2 a0_3) / 2 ^ min x5_1.toNat 64) = ji12 := hji12
       have hji12z : x5_1 ≤ 64 → ((Go.bits .or .i64 a0_2 a0_3) / 2 ^ x5_1.toNat) = ji12 := shr_small hji12
       by_cases c13 : (Go.bits .and .i64 (ji12) 1) = 0
       ·rw [if_pos c13] at H
        have c13b0 : ((Go.bits .and .i64 (ji12) 1) == 0) = true := beq_iff_eq.mpr c13
        have c13b1 : ((Go.bits .and .i64 (ji12) 1) != 0) = false := bne_eq_false_iff_eq.mpr c13
        clear c13
        have H' := Aside0.mk H
        clear H
        obtain ⟨hcz14_0, hcz14_1, hcz14_2, hcz14_3, hfz14_0, hfz14_1, hfz14_2, hfz14_3⟩ := zc4 BK248
        go_wp2
        repeat (go_quiet (fail); try go_wp2)
        go_meet
        case rel => exact ⟨_, (true), (by first | rfl | (simp; done) | (simp [*]; done)), H', ⟨by have := HK1.out; first | omega | exact Nat.le_refl _⟩, ⟨by exact bq BK248.out⟩, ⟨zB⟩⟩
       ·rw [if_neg c13] at H
        have c13b0 : ((Go.bits .and .i64 (ji12) 1) == 0) = false := beq_eq_false_iff_ne.mpr c13
        have c13b1 : ((Go.bits .and .i64 (ji12) 1) != 0) = true := bne_iff_ne.mpr c13
        have H' := Aside0.mk H
        clear H
        obtain ⟨hcz15_0, hcz15_1, hcz15_2, hcz15_3, hfz15_0, hfz15_1, hfz15_2, hfz15_3⟩ := zc4 BK248
        go_wp2
        repeat (go_quiet (fail); try go_wp2)
        go_meet
        case rel => exact ⟨_, (((Go.bits .andNot .i64 (Go.bits .and .i64 a0_0 (Go.bits .xor .i64 (-1) (wrap64 ((ji5) - 1)))) a0_3) != (Go.bits .and .i64 a0_2 (Go.bits .xor .i64 (-1) (wrap64 ((ji5) - 1)))))), (by first | rfl | (simp; done) | (simp only [← hji5] <;> (first | rfl | simp)) | (simp [*]; done)), H', ⟨by have := HK1.out; first | omega | exact Nat.le_refl _⟩, ⟨by exact bq BK248.out⟩, ⟨zB⟩⟩
     case rest =>
      clear HC6
      try clear c1
      try clear p2 p2
      try clear c3
      try clear c3b0
      try clear c4
      try clear c4b0
      try clear c4b1
      try clear c5
      try clear p6
      try clear c7
      try clear c7b0
      try clear c9
      try clear c9b0
      try clear c9b1
      try clear c11
      try clear c11b0
      try clear c13
      try clear c13b0
      try clear c13b1
      try clear hcz10_0 hcz10_1 hcz10_2 hcz10_3 hfz10_0 hfz10_1 hfz10_2 hfz10_3
      try clear hcz14_0 hcz14_1 hcz14_2 hcz14_3 hfz14_0 hfz14_1 hfz14_2 hfz14_3
      try clear hcz15_0 hcz15_1 hcz15_2 hcz15_3 hfz15_0 hfz15_1 hfz15_2 hfz15_3
      obtain ⟨kq, x42_5, rfl, HA, HJ5, BK248, HB⟩ := hcut
      cases kq with
      | zero => exact absurd HA.out (by simp [impl_Range_above.j1])
      | succ kj5 =>
       have H := HA.out
       clear HA
       simp only [impl_Range_above.j1] at H
       by_cases c16 : x42_5 = true
       ·subst c16
        rw [if_pos rfl] at H
        have H' := Aside0.mk H
        clear H
        go_wp2
        repeat (go_quiet (fail); try go_wp2)
        go_roundg kj5
        case measure => have := HK1.out; have := HJ5.out; omega
        case rel => exact ⟨(wrap64 (x5_1 + 1)), (by first | rfl | (simp; done) | (simp [*]; done)), H', ⟨by have := HK1.out; have := HJ5.out; omega⟩, ⟨by exact bq BK248.out⟩, ⟨zB⟩⟩
       ·replace c16 := Bool.eq_false_iff.mpr c16
        subst c16
        rw [if_neg (show ¬ (false = true) by decide)] at H
        by_cases c17 : 0 ≤ x5_1
        ·rw [if_pos c17] at H
         have c17b0 := eq_true c17
         have c17b1 : decide (0 ≤ x5_1) = true := decide_eq_true c17
         clear c17
         obtain ⟨ji18, hji18⟩ : ∃ j_ : Int, (shl .i64 1 x5_1) = j_ := ⟨_, rfl⟩
         replace H : (some (Go.bits .or .i64 (Go.bits .or .i64 (Go.bits .and .i64 a0_0 (Go.bits .xor .i64 (-1) (wrap64 ((ji5) - 1)))) (ji18)) (Go.bits .and .i64 a0_2 (wrap64 ((ji18) - 1))))) = some r := by first | (rw [hji18] at H; exact H) | (simp only [hji18] at H ⊢; exact H)
         have hji18_ : (IntKind.i64.wrap (1 * 2 ^ min x5_1.toNat 64)) = ji18 := hji18
         have hji18z : x5_1 ≤ 64 → (IntKind.i64.wrap (1 * 2 ^ x5_1.toNat)) = ji18 := shl_small hji18
         have hji18u : (IntKind.i64.wrap (2 ^ min x5_1.toNat 64)) = ji18 := by have h_ := hji18_; rw [Int.one_mul] at h_; exact h_
         have hji18v : x5_1 ≤ 64 → (IntKind.i64.wrap (2 ^ x5_1.toNat)) = ji18 := fun hle_ => by have h_ := hji18z hle_; rw [Int.one_mul] at h_; exact h_
         have hji18y : (wrap64 (1 * 2 ^ min x5_1.toNat 64)) = ji18 := (i64_w _).symm.trans hji18_
         have hji18x : x5_1 ≤ 64 → (wrap64 (1 * 2 ^ x5_1.toNat)) = ji18 := fun h_ => (i64_w _).symm.trans (hji18z h_)
         have c19b0 := eq_true (of_decide_eq_true (by first | (with_reducible assumption) | assumption) : 0 ≤ x5_1)
         obtain rfl := Option.some.inj H
         obtain ⟨hcz20_0, hcz20_1, hcz20_2, hcz20_3, hfz20_0, hfz20_1, hfz20_2, hfz20_3⟩ := zc4 BK248
         go_wp2
         repeat (go_quiet (fail); try go_wp2)
         go_ret
         exact ⟨by first | rfl | (simp [errW_none, errW_some] <;> rfl) | (simp only [← hji5, ← hji18]; first | rfl | (simp [errW_none, errW_some] <;> rfl)) | (simp [*, errW_none, errW_some] <;> rfl), zB⟩
        ·rw [if_neg c17] at H
         exact absurd H (by simp)
    ·rw [if_neg c4] at H
     exact absurd H (by simp)
   ·rw [if_neg c3] at H
    have c3b0 : decide (x5_1 < 32) = false := decide_eq_false c3
    clear c3
    obtain rfl := Option.some.inj H
    go_wp2
    repeat (go_quiet (fail); try go_wp2)
    go_ret
    exact ⟨zR, zB⟩

end Go.Proofs.Ytdhijcfohbkpoaa.Q
