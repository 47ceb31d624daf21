/- The machine's side of this seat's laws: Go functions as Lean functions, and their contracts. By a program of this work over the kit's print. -/
import Derived.Test.YtdhijcfohbkpoaaQ0
import Derived.Test.YtdhijcfohbkpoaaQ2
import Derived.Test.YtdhijcfohbkpoaaQ3
import Derived.Test.YtdhijcfohbkpoaaQ14
namespace Go.Proofs.Ytdhijcfohbkpoaa.Q
open Go.RowKit Go.Proofs.YtdhijcfohbkpoaaW.PrintWords Go.Proofs.YtdhijcfohbkpoaaW.PrintLast Go.Proofs.YtdhijcfohbkpoaaW.PrintMore
attribute [local go_sem] max2_int min2_int max_two min_two max_three min_three max_four min_four Go.Proofs.YtdhijcfohbkpoaaN.not_i64 Go.Proofs.YtdhijcfohbkpoaaN.isSome_setCell   -- for this text's walks alone
set_option linter.unusedVariables false
set_option linter.unusedSimpArgs false

/-! ### spec_l2Sum: function 51 -/
def spec_l2Sum.j0 : Nat → Int → Int → Int → Int → Option (Int × Int × Int × Int)
 | 0, _, _, _, _ => none
 | k + 1, x419000, x419001, x419002, x419003 => (spec_l2Tidy.f k x419000 x419001 x419002 x419003).bind fun bt419 => (some (bt419.1, bt419.2.1, bt419.2.2.1, bt419.2.2.2))
def spec_l2Sum.f (k : Nat) (a0_0 : Int) (a0_1 : Int) (a0_2 : Int) (a0_3 : Int) (a1_0 : Int) (a1_1 : Int) (a1_2 : Int) (a1_3 : Int) : Option (Int × Int × Int × Int) := (spec_l2Add.f a0_0 a0_1 a0_2 a0_3 a1_0 a1_1 a1_2 a1_3).bind fun bt416 => (if (wrap64 (a0_1 + a1_1)) ≤ 4294967295 then (spec_l2Sum.j0 k (wrap64 (a0_0 + a1_0)) (wrap64 (a0_1 + a1_1)) bt416.1 bt416.2) else (spec_l2Sum.j0 k 0 4294967295 bt416.1 bt416.2))


set_option maxHeartbeats 8000000 in
set_option maxRecDepth 100000 in
theorem spec_l2Sum.calls (k : Nat) (a0_0 : Int) (a0_1 : Int) (a0_2 : Int) (a0_3 : Int) (a1_0 : Int) (a1_1 : Int) (a1_2 : Int) (a1_3 : Int) (r1 : Int) (r2 : Int) (r3 : Int) (r4 : Int) (w : World) (h : spec_l2Sum.f k a0_0 a0_1 a0_2 a0_3 a1_0 a1_1 a1_2 a1_3 = some (r1, r2, r3, r4)) :
  Calls Try.prog 51 #[.agg #[.int .i64 a0_0, .int .i64 a0_1, .int .i64 a0_2, .int .i64 a0_3], .agg #[.int .i64 a1_0, .int .i64 a1_1, .int .i64 a1_2, .int .i64 a1_3]] w fun e w' => e = .returned (.agg #[.int .i64 r1, .int .i64 r2, .int .i64 r3, .int .i64 r4]) ∧ Below w.heap.size w w' := by
 have hu24 := Try.underlying24
 have HB := Aside0.mk (Below.refl w.heap.size w)
 have H : ((spec_l2Add.f a0_0 a0_1 a0_2 a0_3 a1_0 a1_1 a1_2 a1_3).bind fun bt416 => (if (wrap64 (a0_1 + a1_1)) ≤ 4294967295 then (spec_l2Sum.j0 k (wrap64 (a0_0 + a1_0)) (wrap64 (a0_1 + a1_1)) bt416.1 bt416.2) else (spec_l2Sum.j0 k 0 4294967295 bt416.1 bt416.2))) = some (r1, r2, r3, r4) := h
 clear h
 replace H := Option.bind_eq_some_iff.mp H
 obtain ⟨⟨t416, t417⟩, A30, H⟩ := H
 try dsimp only at H
 have A3 := Aside0.mk A30
 clear A30
 have AC_spec_l2Top := Aside0.mk (show spec_l2Top.f = some 4294967295 from rfl)
 have AC_spec_l2Top := Aside0.mk (show spec_l2Top.f = some 4294967295 from rfl)
 have HC4 := Aside0.mk H
 clear H
 go_enter Try.func51, Try.ntmps51
 go_upto_if 24 with (first | ((with_reducible refine gate_dst (N := 2) rfl ?_); refine be 2 #[.int .i64 a0_0, .int .i64 a0_1, .int .i64 a0_2, .int .i64 a0_3] 24 ?_; intro gb413 hg w5 hbox hb; have BK413 := Aside0.mk hbox; have GW413 := zW hg; replace HB := zS hb; have GE413 := GW413; clear hb hbox hg) | ((with_reducible refine gate_dst (N := 3) rfl ?_); refine be 3 #[.int .i64 a1_0, .int .i64 a1_1, .int .i64 a1_2, .int .i64 a1_3] 24 ?_; intro gb414 hg w6 hbox hb; have BK414 := Aside0.mk hbox; have GW414 := zW hg; replace HB := zS hb; have GE414 := GW414; have NB413_414 := zl BK413 hg rfl; have NB414_413 := zg BK413 hg rfl; replace BK413 := zb BK413 hb rfl; clear hb hbox hg) | ((with_reducible refine gate_dst (N := 4) rfl ?_); refine be 4 #[.int .i64 0, .int .i64 0, .int .i64 0, .int .i64 0] 24 ?_; intro gb415 hg w7 hbox hb; have BK415 := Aside0.mk hbox; have GW415 := zW hg; replace HB := zS hb; have GE415 := GW415; have NB413_415 := zl BK413 hg rfl; have NB415_413 := zg BK413 hg rfl; replace BK413 := zb BK413 hb rfl; have NB414_415 := zl BK414 hg rfl; have NB415_414 := zg BK414 hg rfl; replace BK414 := zb BK414 hb rfl; clear hb hbox hg; have hnb8 := NB413_414.out; have hnc8 := NB414_413.out; have hnb9 := NB413_415.out; have hnc9 := NB415_413.out; obtain ⟨hcz10_0, hcz10_1, hcz10_2, hcz10_3, hfz10_0, hfz10_1, hfz10_2, hfz10_3⟩ := zc4 BK413; have hnb11 := NB414_415.out; have hnc11 := NB415_414.out; obtain ⟨hcz12_0, hcz12_1, hcz12_2, hcz12_3, hfz12_0, hfz12_1, hfz12_2, hfz12_3⟩ := zc4 BK414) | (go_at_call 63; (with_reducible refine (spec_l2Add.calls a0_0 a0_1 a0_2 a0_3 a1_0 a1_1 a1_2 a1_3 t416 t417 _ A3.out).mono ?_); rintro e w13 ⟨rfl, hb⟩; replace BK413 := zb BK413 hb rfl; replace BK414 := zb BK414 hb rfl; replace BK415 := zb BK415 hb rfl; replace HB := zS hb; try clear hb) | (go_at_call 39; (with_reducible refine (spec_l2Top.calls  4294967295 _ AC_spec_l2Top.out).mono ?_); rintro e w' ⟨rfl, ⟨nd, rfl⟩⟩; (try first | exact ⟨rfl, _, World.drewN_drewN _ _ _⟩ | exact ⟨rfl, _, Eq.trans (World.drewN_drewN _ _ _) (congrArg (World.drewN _) (Nat.add_assoc _ _ _))⟩)) | ((with_reducible refine gate_dst (N := 7) rfl ?_); refine be 7 #[.int .i64 0, .int .i64 0, .int .i64 0, .int .i64 0] 24 ?_; intro gb418 hg w14 hbox hb; have BK418 := Aside0.mk hbox; have GW418 := zW hg; replace HB := zS hb; have GE418 := GW418; have NB413_418 := zl BK413 hg rfl; have NB418_413 := zg BK413 hg rfl; replace BK413 := zb BK413 hb rfl; have NB414_418 := zl BK414 hg rfl; have NB418_414 := zg BK414 hg rfl; replace BK414 := zb BK414 hb rfl; have NB415_418 := zl BK415 hg rfl; have NB418_415 := zg BK415 hg rfl; replace BK415 := zb BK415 hb rfl; clear hb hbox hg; have hnb15 := NB418_413.out; have hnc15 := NB413_418.out; have hnb16 := NB418_414.out; have hnc16 := NB414_418.out; have hnb17 := NB418_415.out; have hnc17 := NB415_418.out; obtain ⟨hcz18_0, hcz18_1, hcz18_2, hcz18_3, hfz18_0, hfz18_1, hfz18_2, hfz18_3⟩ := zc4 BK418; obtain ⟨hcz19_0, hcz19_1, hcz19_2, hcz19_3, hfz19_0, hfz19_1, hfz19_2, hfz19_3⟩ := zc4 BK413; obtain ⟨hcz20_0, hcz20_1, hcz20_2, hcz20_3, hfz20_0, hfz20_1, hfz20_2, hfz20_3⟩ := zc4 BK414))
 repeat (go_quiet (first | ((with_reducible refine gate_dst (N := 2) rfl ?_); refine be 2 #[.int .i64 a0_0, .int .i64 a0_1, .int .i64 a0_2, .int .i64 a0_3] 24 ?_; intro gb413 hg w5 hbox hb; have BK413 := Aside0.mk hbox; have GW413 := zW hg; replace HB := zS hb; have GE413 := GW413; clear hb hbox hg) | ((with_reducible refine gate_dst (N := 3) rfl ?_); refine be 3 #[.int .i64 a1_0, .int .i64 a1_1, .int .i64 a1_2, .int .i64 a1_3] 24 ?_; intro gb414 hg w6 hbox hb; have BK414 := Aside0.mk hbox; have GW414 := zW hg; replace HB := zS hb; have GE414 := GW414; have NB413_414 := zl BK413 hg rfl; have NB414_413 := zg BK413 hg rfl; replace BK413 := zb BK413 hb rfl; clear hb hbox hg) | ((with_reducible refine gate_dst (N := 4) rfl ?_); refine be 4 #[.int .i64 0, .int .i64 0, .int .i64 0, .int .i64 0] 24 ?_; intro gb415 hg w7 hbox hb; have BK415 := Aside0.mk hbox; have GW415 := zW hg; replace HB := zS hb; have GE415 := GW415; have NB413_415 := zl BK413 hg rfl; have NB415_413 := zg BK413 hg rfl; replace BK413 := zb BK413 hb rfl; have NB414_415 := zl BK414 hg rfl; have NB415_414 := zg BK414 hg rfl; replace BK414 := zb BK414 hb rfl; clear hb hbox hg; have hnb8 := NB413_414.out; have hnc8 := NB414_413.out; have hnb9 := NB413_415.out; have hnc9 := NB415_413.out; obtain ⟨hcz10_0, hcz10_1, hcz10_2, hcz10_3, hfz10_0, hfz10_1, hfz10_2, hfz10_3⟩ := zc4 BK413; have hnb11 := NB414_415.out; have hnc11 := NB415_414.out; obtain ⟨hcz12_0, hcz12_1, hcz12_2, hcz12_3, hfz12_0, hfz12_1, hfz12_2, hfz12_3⟩ := zc4 BK414) | (go_at_call 63; (with_reducible refine (spec_l2Add.calls a0_0 a0_1 a0_2 a0_3 a1_0 a1_1 a1_2 a1_3 t416 t417 _ A3.out).mono ?_); rintro e w13 ⟨rfl, hb⟩; replace BK413 := zb BK413 hb rfl; replace BK414 := zb BK414 hb rfl; replace BK415 := zb BK415 hb rfl; replace HB := zS hb; try clear hb) | (go_at_call 39; (with_reducible refine (spec_l2Top.calls  4294967295 _ AC_spec_l2Top.out).mono ?_); rintro e w' ⟨rfl, ⟨nd, rfl⟩⟩; (try first | exact ⟨rfl, _, World.drewN_drewN _ _ _⟩ | exact ⟨rfl, _, Eq.trans (World.drewN_drewN _ _ _) (congrArg (World.drewN _) (Nat.add_assoc _ _ _))⟩)) | ((with_reducible refine gate_dst (N := 7) rfl ?_); refine be 7 #[.int .i64 0, .int .i64 0, .int .i64 0, .int .i64 0] 24 ?_; intro gb418 hg w14 hbox hb; have BK418 := Aside0.mk hbox; have GW418 := zW hg; replace HB := zS hb; have GE418 := GW418; have NB413_418 := zl BK413 hg rfl; have NB418_413 := zg BK413 hg rfl; replace BK413 := zb BK413 hb rfl; have NB414_418 := zl BK414 hg rfl; have NB418_414 := zg BK414 hg rfl; replace BK414 := zb BK414 hb rfl; have NB415_418 := zl BK415 hg rfl; have NB418_415 := zg BK415 hg rfl; replace BK415 := zb BK415 hb rfl; clear hb hbox hg; have hnb15 := NB418_413.out; have hnc15 := NB413_418.out; have hnb16 := NB418_414.out; have hnc16 := NB414_418.out; have hnb17 := NB418_415.out; have hnc17 := NB415_418.out; obtain ⟨hcz18_0, hcz18_1, hcz18_2, hcz18_3, hfz18_0, hfz18_1, hfz18_2, hfz18_3⟩ := zc4 BK418; obtain ⟨hcz19_0, hcz19_1, hcz19_2, hcz19_3, hfz19_0, hfz19_1, hfz19_2, hfz19_3⟩ := zc4 BK413; obtain ⟨hcz20_0, hcz20_1, hcz20_2, hcz20_3, hfz20_0, hfz20_1, hfz20_2, hfz20_3⟩ := zc4 BK414)); go_upto_if 24 with (first | ((with_reducible refine gate_dst (N := 2) rfl ?_); refine be 2 #[.int .i64 a0_0, .int .i64 a0_1, .int .i64 a0_2, .int .i64 a0_3] 24 ?_; intro gb413 hg w5 hbox hb; have BK413 := Aside0.mk hbox; have GW413 := zW hg; replace HB := zS hb; have GE413 := GW413; clear hb hbox hg) | ((with_reducible refine gate_dst (N := 3) rfl ?_); refine be 3 #[.int .i64 a1_0, .int .i64 a1_1, .int .i64 a1_2, .int .i64 a1_3] 24 ?_; intro gb414 hg w6 hbox hb; have BK414 := Aside0.mk hbox; have GW414 := zW hg; replace HB := zS hb; have GE414 := GW414; have NB413_414 := zl BK413 hg rfl; have NB414_413 := zg BK413 hg rfl; replace BK413 := zb BK413 hb rfl; clear hb hbox hg) | ((with_reducible refine gate_dst (N := 4) rfl ?_); refine be 4 #[.int .i64 0, .int .i64 0, .int .i64 0, .int .i64 0] 24 ?_; intro gb415 hg w7 hbox hb; have BK415 := Aside0.mk hbox; have GW415 := zW hg; replace HB := zS hb; have GE415 := GW415; have NB413_415 := zl BK413 hg rfl; have NB415_413 := zg BK413 hg rfl; replace BK413 := zb BK413 hb rfl; have NB414_415 := zl BK414 hg rfl; have NB415_414 := zg BK414 hg rfl; replace BK414 := zb BK414 hb rfl; clear hb hbox hg; have hnb8 := NB413_414.out; have hnc8 := NB414_413.out; have hnb9 := NB413_415.out; have hnc9 := NB415_413.out; obtain ⟨hcz10_0, hcz10_1, hcz10_2, hcz10_3, hfz10_0, hfz10_1, hfz10_2, hfz10_3⟩ := zc4 BK413; have hnb11 := NB414_415.out; have hnc11 := NB415_414.out; obtain ⟨hcz12_0, hcz12_1, hcz12_2, hcz12_3, hfz12_0, hfz12_1, hfz12_2, hfz12_3⟩ := zc4 BK414) | (go_at_call 63; (with_reducible refine (spec_l2Add.calls a0_0 a0_1 a0_2 a0_3 a1_0 a1_1 a1_2 a1_3 t416 t417 _ A3.out).mono ?_); rintro e w13 ⟨rfl, hb⟩; replace BK413 := zb BK413 hb rfl; replace BK414 := zb BK414 hb rfl; replace BK415 := zb BK415 hb rfl; replace HB := zS hb; try clear hb) | (go_at_call 39; (with_reducible refine (spec_l2Top.calls  4294967295 _ AC_spec_l2Top.out).mono ?_); rintro e w' ⟨rfl, ⟨nd, rfl⟩⟩; (try first | exact ⟨rfl, _, World.drewN_drewN _ _ _⟩ | exact ⟨rfl, _, Eq.trans (World.drewN_drewN _ _ _) (congrArg (World.drewN _) (Nat.add_assoc _ _ _))⟩)) | ((with_reducible refine gate_dst (N := 7) rfl ?_); refine be 7 #[.int .i64 0, .int .i64 0, .int .i64 0, .int .i64 0] 24 ?_; intro gb418 hg w14 hbox hb; have BK418 := Aside0.mk hbox; have GW418 := zW hg; replace HB := zS hb; have GE418 := GW418; have NB413_418 := zl BK413 hg rfl; have NB418_413 := zg BK413 hg rfl; replace BK413 := zb BK413 hb rfl; have NB414_418 := zl BK414 hg rfl; have NB418_414 := zg BK414 hg rfl; replace BK414 := zb BK414 hb rfl; have NB415_418 := zl BK415 hg rfl; have NB418_415 := zg BK415 hg rfl; replace BK415 := zb BK415 hb rfl; clear hb hbox hg; have hnb15 := NB418_413.out; have hnc15 := NB413_418.out; have hnb16 := NB418_414.out; have hnc16 := NB414_418.out; have hnb17 := NB418_415.out; have hnc17 := NB415_418.out; obtain ⟨hcz18_0, hcz18_1, hcz18_2, hcz18_3, hfz18_0, hfz18_1, hfz18_2, hfz18_3⟩ := zc4 BK418; obtain ⟨hcz19_0, hcz19_1, hcz19_2, hcz19_3, hfz19_0, hfz19_1, hfz19_2, hfz19_3⟩ := zc4 BK413; obtain ⟨hcz20_0, hcz20_1, hcz20_2, hcz20_3, hfz20_0, hfz20_1, hfz20_2, hfz20_3⟩ := zc4 BK414)))
 (try simp only [Act.put, List.setIfInBounds_toArray, List.set_cons_zero, List.set_cons_succ])
 go_cut [] (fun wc => ∃ (kq : Nat) (x419000_3 : Int) (x419001_3 : Int), Aside0 (spec_l2Sum.j0 kq x419000_3 x419001_3 t416 t417 = some (r1, r2, r3, r4)) ∧ Aside0 (kq ≤ k) ∧ Aside0 (wc.heap[gb413]? = some (.cells #[.int .i64 a0_0, .int .i64 a0_1, .int .i64 a0_2, .int .i64 a0_3] 24 (0, 0))) ∧ Aside0 (wc.heap[gb414]? = some (.cells #[.int .i64 a1_0, .int .i64 a1_1, .int .i64 a1_2, .int .i64 a1_3] 24 (0, 0))) ∧ Aside0 (wc.heap[gb415]? = some (.cells #[.int .i64 0, .int .i64 0, .int .i64 0, .int .i64 0] 24 (0, 0))) ∧ Aside0 (wc.heap[gb418]? = some (.cells #[.int .i64 x419000_3, .int .i64 x419001_3, .int .i64 t416, .int .i64 t417] 24 (0, 0))) ∧ Aside0 (Below w.heap.size w wc))
 case first =>
  have H := HC4.out
  clear HC4
  by_cases c21 : (wrap64 (a0_1 + a1_1)) ≤ 4294967295
  ·rw [if_pos c21] at H
   have c21b0 : decide ((wrap64 (a0_1 + a1_1)) ≤ 4294967295) = true := decide_eq_true c21
   clear c21
   (first | rw [c21b0] | (simp only [i64_w, i32_w]; rw [c21b0]) | skip)
   have H' := Aside0.mk H
   clear H
   have hnb22 := NB413_414.out
   have hnc22 := NB414_413.out
   have hnb23 := NB413_415.out
   have hnc23 := NB415_413.out
   have hnb24 := NB413_418.out
   have hnc24 := NB418_413.out
   obtain ⟨hcz25_0, hcz25_1, hcz25_2, hcz25_3, hfz25_0, hfz25_1, hfz25_2, hfz25_3⟩ := zc4 BK413
   have hnb26 := NB414_415.out
   have hnc26 := NB415_414.out
   have hnb27 := NB414_418.out
   have hnc27 := NB418_414.out
   obtain ⟨hcz28_0, hcz28_1, hcz28_2, hcz28_3, hfz28_0, hfz28_1, hfz28_2, hfz28_3⟩ := zc4 BK414
   have hnb29 := NB418_415.out
   have hnc29 := NB415_418.out
   obtain ⟨hcz30_0, hcz30_1, hcz30_2, hcz30_3, hfz30_0, hfz30_1, hfz30_2, hfz30_3⟩ := zc4 BK418
   go_wp2
   repeat (go_quiet (fail); try go_wp2)
   go_meet
   case rel => exact ⟨_, (wrap64 (a0_0 + a1_0)), (wrap64 (a0_1 + a1_1)), H', ⟨by first | omega | exact Nat.le_refl _⟩, ⟨by refine fq ?_ NB413_418.out; refine fq ?_ NB413_418.out; refine fq ?_ NB413_418.out; refine fq ?_ NB413_418.out; refine fq ?_ NB413_418.out; refine fq ?_ NB413_418.out; exact bq BK413.out⟩, ⟨by refine fq ?_ NB414_418.out; refine fq ?_ NB414_418.out; refine fq ?_ NB414_418.out; refine fq ?_ NB414_418.out; refine fq ?_ NB414_418.out; refine fq ?_ NB414_418.out; exact bq BK414.out⟩, ⟨by refine fq ?_ NB415_418.out; refine fq ?_ NB415_418.out; refine fq ?_ NB415_418.out; refine fq ?_ NB415_418.out; refine fq ?_ NB415_418.out; refine fq ?_ NB415_418.out; exact bq BK415.out⟩, ⟨by refine bq ?_; refine blk_put (cs := #[.int .i64 (wrap64 (a0_0 + a1_0)), .int .i64 4294967295, .int .i64 t416, .int .i64 t417]) ?_ 1 _ rfl; refine bq ?_; refine blk_put (cs := #[.int .i64 0, .int .i64 4294967295, .int .i64 t416, .int .i64 t417]) ?_ 0 _ rfl; refine bq ?_; refine blk_put (cs := #[.int .i64 0, .int .i64 4294967295, .int .i64 t416, .int .i64 0]) ?_ 3 _ rfl; refine bq ?_; refine blk_put (cs := #[.int .i64 0, .int .i64 4294967295, .int .i64 0, .int .i64 0]) ?_ 2 _ rfl; refine bq ?_; refine blk_put (cs := #[.int .i64 0, .int .i64 0, .int .i64 0, .int .i64 0]) ?_ 1 _ rfl; refine bq ?_; refine blk_put (cs := #[.int .i64 0, .int .i64 0, .int .i64 0, .int .i64 0]) ?_ 0 _ rfl; exact bq BK418.out⟩, ⟨zB⟩⟩
  ·rw [if_neg c21] at H
   have c21b0 : decide ((wrap64 (a0_1 + a1_1)) ≤ 4294967295) = false := decide_eq_false c21
   clear c21
   (first | rw [c21b0] | (simp only [i64_w, i32_w]; rw [c21b0]) | skip)
   have H' := Aside0.mk H
   clear H
   go_wp2
   repeat (go_quiet (fail); try go_wp2)
   go_meet
   case rel => exact ⟨_, (0), (4294967295), H', ⟨by first | omega | exact Nat.le_refl _⟩, ⟨by refine fq ?_ NB413_418.out; refine fq ?_ NB413_418.out; refine fq ?_ NB413_418.out; refine fq ?_ NB413_418.out; exact bq BK413.out⟩, ⟨by refine fq ?_ NB414_418.out; refine fq ?_ NB414_418.out; refine fq ?_ NB414_418.out; refine fq ?_ NB414_418.out; exact bq BK414.out⟩, ⟨by refine fq ?_ NB415_418.out; refine fq ?_ NB415_418.out; refine fq ?_ NB415_418.out; refine fq ?_ NB415_418.out; exact bq BK415.out⟩, ⟨by refine bq ?_; refine blk_put (cs := #[.int .i64 0, .int .i64 4294967295, .int .i64 t416, .int .i64 0]) ?_ 3 _ rfl; refine bq ?_; refine blk_put (cs := #[.int .i64 0, .int .i64 4294967295, .int .i64 0, .int .i64 0]) ?_ 2 _ rfl; refine bq ?_; refine blk_put (cs := #[.int .i64 0, .int .i64 0, .int .i64 0, .int .i64 0]) ?_ 1 _ rfl; refine bq ?_; refine blk_put (cs := #[.int .i64 0, .int .i64 0, .int .i64 0, .int .i64 0]) ?_ 0 _ rfl; exact bq BK418.out⟩, ⟨zB⟩⟩
 case rest =>
  clear HC4
  try clear c1
  try clear c2
  try clear p2
  try clear c5
  try clear p6
  try clear c8
  try clear c9
  try clear c11
  try clear c15
  try clear c16
  try clear c17
  try clear c21
  try clear c21b0
  try clear c22
  try clear c23
  try clear c24
  try clear c26
  try clear c27
  try clear c29
  try clear hcz10_0 hcz10_1 hcz10_2 hcz10_3 hfz10_0 hfz10_1 hfz10_2 hfz10_3
  try clear hcz12_0 hcz12_1 hcz12_2 hcz12_3 hfz12_0 hfz12_1 hfz12_2 hfz12_3
  try clear hcz18_0 hcz18_1 hcz18_2 hcz18_3 hfz18_0 hfz18_1 hfz18_2 hfz18_3
  try clear hcz19_0 hcz19_1 hcz19_2 hcz19_3 hfz19_0 hfz19_1 hfz19_2 hfz19_3
  try clear hcz20_0 hcz20_1 hcz20_2 hcz20_3 hfz20_0 hfz20_1 hfz20_2 hfz20_3
  try clear hcz25_0 hcz25_1 hcz25_2 hcz25_3 hfz25_0 hfz25_1 hfz25_2 hfz25_3
  try clear hcz28_0 hcz28_1 hcz28_2 hcz28_3 hfz28_0 hfz28_1 hfz28_2 hfz28_3
  try clear hcz30_0 hcz30_1 hcz30_2 hcz30_3 hfz30_0 hfz30_1 hfz30_2 hfz30_3
  obtain ⟨kq, x419000_3, x419001_3, HA, HJ3, BK413, BK414, BK415, BK418, HB⟩ := hcut
  cases kq with
  | zero => exact absurd HA.out (by simp [spec_l2Sum.j0])
  | succ kj3 =>
   have H := HA.out
   clear HA
   simp only [spec_l2Sum.j0] at H
   replace H := Option.bind_eq_some_iff.mp H
   obtain ⟨⟨t419, t420, t421, t422⟩, A310, H⟩ := H
   try dsimp only at H
   have A31 := Aside0.mk A310
   clear A310
   simp only [Option.some.injEq, Prod.mk.injEq] at H
   obtain ⟨rfl, rfl, rfl, rfl⟩ := H
   have hnb32 := NB418_413.out
   have hnc32 := NB413_418.out
   have hnb33 := NB418_414.out
   have hnc33 := NB414_418.out
   have hnb34 := NB418_415.out
   have hnc34 := NB415_418.out
   obtain ⟨hcz35_0, hcz35_1, hcz35_2, hcz35_3, hfz35_0, hfz35_1, hfz35_2, hfz35_3⟩ := zc4 BK418
   go_wp2_with (first | (go_at_call 27; (with_reducible refine (spec_l2Tidy.calls kj3 x419000_3 x419001_3 t416 t417 t419 t420 t421 t422 _ A31.out).mono ?_); rintro e w36 ⟨rfl, hb⟩; replace BK413 := zb BK413 hb rfl; replace BK414 := zb BK414 hb rfl; replace BK415 := zb BK415 hb rfl; replace BK418 := zb BK418 hb rfl; replace HB := zS hb; try clear hb; have hnb37 := NB415_413.out; have hnc37 := NB413_415.out; have hnb38 := NB415_414.out; have hnc38 := NB414_415.out; obtain ⟨hcz39_0, hcz39_1, hcz39_2, hcz39_3, hfz39_0, hfz39_1, hfz39_2, hfz39_3⟩ := zc4 BK415))
   repeat (go_quiet (first | (go_at_call 27; (with_reducible refine (spec_l2Tidy.calls kj3 x419000_3 x419001_3 t416 t417 t419 t420 t421 t422 _ A31.out).mono ?_); rintro e w36 ⟨rfl, hb⟩; replace BK413 := zb BK413 hb rfl; replace BK414 := zb BK414 hb rfl; replace BK415 := zb BK415 hb rfl; replace BK418 := zb BK418 hb rfl; replace HB := zS hb; try clear hb; have hnb37 := NB415_413.out; have hnc37 := NB413_415.out; have hnb38 := NB415_414.out; have hnc38 := NB414_415.out; obtain ⟨hcz39_0, hcz39_1, hcz39_2, hcz39_3, hfz39_0, hfz39_1, hfz39_2, hfz39_3⟩ := zc4 BK415)); try go_wp2_with (first | (go_at_call 27; (with_reducible refine (spec_l2Tidy.calls kj3 x419000_3 x419001_3 t416 t417 t419 t420 t421 t422 _ A31.out).mono ?_); rintro e w36 ⟨rfl, hb⟩; replace BK413 := zb BK413 hb rfl; replace BK414 := zb BK414 hb rfl; replace BK415 := zb BK415 hb rfl; replace BK418 := zb BK418 hb rfl; replace HB := zS hb; try clear hb; have hnb37 := NB415_413.out; have hnc37 := NB413_415.out; have hnb38 := NB415_414.out; have hnc38 := NB414_415.out; obtain ⟨hcz39_0, hcz39_1, hcz39_2, hcz39_3, hfz39_0, hfz39_1, hfz39_2, hfz39_3⟩ := zc4 BK415)))
   refine bodyPost_ret (results_cell_row rfl _ _ gb415 24 #[.int .i64 t419, .int .i64 t420, .int .i64 t421, .int .i64 t422] (0, 0) _ rfl (by refine bq ?_; refine blk_put (cs := #[.int .i64 t419, .int .i64 t420, .int .i64 t421, .int .i64 0]) ?_ 3 _ rfl; refine bq ?_; refine blk_put (cs := #[.int .i64 t419, .int .i64 t420, .int .i64 0, .int .i64 0]) ?_ 2 _ rfl; refine bq ?_; refine blk_put (cs := #[.int .i64 t419, .int .i64 0, .int .i64 0, .int .i64 0]) ?_ 1 _ rfl; refine bq ?_; refine blk_put (cs := #[.int .i64 0, .int .i64 0, .int .i64 0, .int .i64 0]) ?_ 0 _ rfl; exact bq BK415.out) Try.underlying24 rfl (by kernel_rfl)) rfl ?_
   exact ⟨zR, zB⟩

/-! ### spec_l2Less: function 52 -/
def spec_l2Less.f (k : Nat) (a0_0 : Int) (a0_1 : Int) (a0_2 : Int) (a0_3 : Int) (a1_0 : Int) (a1_1 : Int) (a1_2 : Int) (a1_3 : Int) : Option (Int × Int × Int × Int) := if a0_0 ≥ a1_1 then ((spec_l2Ends.f k (wrap64 (a0_0 - a1_1)) (wrap64 (a0_1 - a1_0))).bind fun bt426 => (some (bt426.1, bt426.2.1, bt426.2.2.1, bt426.2.2.2))) else ((spec_l2All.f).bind fun bt430 => (some (bt430.1, bt430.2.1, bt430.2.2.1, bt430.2.2.2)))

set_option maxHeartbeats 8000000 in
set_option maxRecDepth 100000 in
theorem spec_l2Less.calls (k : Nat) (a0_0 : Int) (a0_1 : Int) (a0_2 : Int) (a0_3 : Int) (a1_0 : Int) (a1_1 : Int) (a1_2 : Int) (a1_3 : Int) (r1 : Int) (r2 : Int) (r3 : Int) (r4 : Int) (w : World) (h : spec_l2Less.f k a0_0 a0_1 a0_2 a0_3 a1_0 a1_1 a1_2 a1_3 = some (r1, r2, r3, r4)) :
  Calls Try.prog 52 #[.agg #[.int .i64 a0_0, .int .i64 a0_1, .int .i64 a0_2, .int .i64 a0_3], .agg #[.int .i64 a1_0, .int .i64 a1_1, .int .i64 a1_2, .int .i64 a1_3]] w fun e w' => e = .returned (.agg #[.int .i64 r1, .int .i64 r2, .int .i64 r3, .int .i64 r4]) ∧ Below w.heap.size w w' := by
 have hu24 := Try.underlying24
 have HB := Aside0.mk (Below.refl w.heap.size w)
 have H : (if a0_0 ≥ a1_1 then ((spec_l2Ends.f k (wrap64 (a0_0 - a1_1)) (wrap64 (a0_1 - a1_0))).bind fun bt426 => (some (bt426.1, bt426.2.1, bt426.2.2.1, bt426.2.2.2))) else ((spec_l2All.f).bind fun bt430 => (some (bt430.1, bt430.2.1, bt430.2.2.1, bt430.2.2.2)))) = some (r1, r2, r3, r4) := h
 clear h
 by_cases c3 : a0_0 ≥ a1_1
 ·rw [if_pos c3] at H
  have c3b0 : decide (a1_1 ≤ a0_0) = true := decide_eq_true c3
  clear c3
  replace H := Option.bind_eq_some_iff.mp H
  obtain ⟨⟨t426, t427, t428, t429⟩, A40, H⟩ := H
  try dsimp only at H
  have A4 := Aside0.mk A40
  clear A40
  simp only [Option.some.injEq, Prod.mk.injEq] at H
  obtain ⟨rfl, rfl, rfl, rfl⟩ := H
  go_enter Try.func52, Try.ntmps52
  go_wp2_with (first | ((with_reducible refine gate_dst (N := 2) rfl ?_); refine be 2 #[.int .i64 a0_0, .int .i64 a0_1, .int .i64 a0_2, .int .i64 a0_3] 24 ?_; intro gb423 hg w5 hbox hb; have BK423 := Aside0.mk hbox; have GW423 := zW hg; replace HB := zS hb; have GE423 := GW423; clear hb hbox hg) | ((with_reducible refine gate_dst (N := 3) rfl ?_); refine be 3 #[.int .i64 a1_0, .int .i64 a1_1, .int .i64 a1_2, .int .i64 a1_3] 24 ?_; intro gb424 hg w6 hbox hb; have BK424 := Aside0.mk hbox; have GW424 := zW hg; replace HB := zS hb; have GE424 := GW424; have NB423_424 := zl BK423 hg rfl; have NB424_423 := zg BK423 hg rfl; replace BK423 := zb BK423 hb rfl; clear hb hbox hg) | ((with_reducible refine gate_dst (N := 4) rfl ?_); refine be 4 #[.int .i64 0, .int .i64 0, .int .i64 0, .int .i64 0] 24 ?_; intro gb425 hg w7 hbox hb; have BK425 := Aside0.mk hbox; have GW425 := zW hg; replace HB := zS hb; have GE425 := GW425; have NB423_425 := zl BK423 hg rfl; have NB425_423 := zg BK423 hg rfl; replace BK423 := zb BK423 hb rfl; have NB424_425 := zl BK424 hg rfl; have NB425_424 := zg BK424 hg rfl; replace BK424 := zb BK424 hb rfl; clear hb hbox hg; have hnb8 := NB423_424.out; have hnc8 := NB424_423.out; have hnb9 := NB423_425.out; have hnc9 := NB425_423.out; obtain ⟨hcz10_0, hcz10_1, hcz10_2, hcz10_3, hfz10_0, hfz10_1, hfz10_2, hfz10_3⟩ := zc4 BK423; have hnb11 := NB424_425.out; have hnc11 := NB425_424.out; obtain ⟨hcz12_0, hcz12_1, hcz12_2, hcz12_3, hfz12_0, hfz12_1, hfz12_2, hfz12_3⟩ := zc4 BK424) | ((with_reducible refine gate_callee (f := 37) rfl ?_); refine gl 20 Try.func37 #[.int .i64 (wrap64 (a0_0 - a1_1)), .int .i64 (wrap64 (a0_1 - a1_0))] ?_; (with_reducible refine (spec_l2Ends.calls k (wrap64 (a0_0 - a1_1)) (wrap64 (a0_1 - a1_0)) t426 t427 t428 t429 _ A4.out).mono ?_); rintro e w13 ⟨rfl, hb⟩; refine ⟨_, rfl, ?_⟩; replace BK423 := zb BK423 hb rfl; replace BK424 := zb BK424 hb rfl; replace BK425 := zb BK425 hb rfl; replace HB := zS hb; try clear hb; obtain ⟨hcz14_0, hcz14_1, hcz14_2, hcz14_3, hfz14_0, hfz14_1, hfz14_2, hfz14_3⟩ := zc4 BK425))
  refine bodyPost_ret (results_cell_row rfl _ _ gb425 24 #[.int .i64 t426, .int .i64 t427, .int .i64 t428, .int .i64 t429] (0, 0) _ rfl (by refine bq ?_; refine blk_put (cs := #[.int .i64 t426, .int .i64 t427, .int .i64 t428, .int .i64 0]) ?_ 3 _ rfl; refine bq ?_; refine blk_put (cs := #[.int .i64 t426, .int .i64 t427, .int .i64 0, .int .i64 0]) ?_ 2 _ rfl; refine bq ?_; refine blk_put (cs := #[.int .i64 t426, .int .i64 0, .int .i64 0, .int .i64 0]) ?_ 1 _ rfl; refine bq ?_; refine blk_put (cs := #[.int .i64 0, .int .i64 0, .int .i64 0, .int .i64 0]) ?_ 0 _ rfl; exact bq BK425.out) Try.underlying24 rfl (by kernel_rfl)) rfl ?_
  exact ⟨zR, zB⟩
 ·rw [if_neg c3] at H
  have c3b0 : decide (a1_1 ≤ a0_0) = false := decide_eq_false c3
  clear c3
  replace H := Option.bind_eq_some_iff.mp H
  obtain ⟨⟨t430, t431, t432, t433⟩, A150, H⟩ := H
  try dsimp only at H
  have A15 := Aside0.mk A150
  clear A150
  simp only [Option.some.injEq, Prod.mk.injEq] at H
  obtain ⟨rfl, rfl, rfl, rfl⟩ := H
  go_enter Try.func52, Try.ntmps52
  go_wp2_with (first | ((with_reducible refine gate_dst (N := 2) rfl ?_); refine be 2 #[.int .i64 a0_0, .int .i64 a0_1, .int .i64 a0_2, .int .i64 a0_3] 24 ?_; intro gb423 hg w16 hbox hb; have BK423 := Aside0.mk hbox; have GW423 := zW hg; replace HB := zS hb; have GE423 := GW423; clear hb hbox hg) | ((with_reducible refine gate_dst (N := 3) rfl ?_); refine be 3 #[.int .i64 a1_0, .int .i64 a1_1, .int .i64 a1_2, .int .i64 a1_3] 24 ?_; intro gb424 hg w17 hbox hb; have BK424 := Aside0.mk hbox; have GW424 := zW hg; replace HB := zS hb; have GE424 := GW424; have NB423_424 := zl BK423 hg rfl; have NB424_423 := zg BK423 hg rfl; replace BK423 := zb BK423 hb rfl; clear hb hbox hg) | ((with_reducible refine gate_dst (N := 4) rfl ?_); refine be 4 #[.int .i64 0, .int .i64 0, .int .i64 0, .int .i64 0] 24 ?_; intro gb425 hg w18 hbox hb; have BK425 := Aside0.mk hbox; have GW425 := zW hg; replace HB := zS hb; have GE425 := GW425; have NB423_425 := zl BK423 hg rfl; have NB425_423 := zg BK423 hg rfl; replace BK423 := zb BK423 hb rfl; have NB424_425 := zl BK424 hg rfl; have NB425_424 := zg BK424 hg rfl; replace BK424 := zb BK424 hb rfl; clear hb hbox hg; have hnb19 := NB423_424.out; have hnc19 := NB424_423.out; have hnb20 := NB423_425.out; have hnc20 := NB425_423.out; obtain ⟨hcz21_0, hcz21_1, hcz21_2, hcz21_3, hfz21_0, hfz21_1, hfz21_2, hfz21_3⟩ := zc4 BK423; have hnb22 := NB424_425.out; have hnc22 := NB425_424.out; obtain ⟨hcz23_0, hcz23_1, hcz23_2, hcz23_3, hfz23_0, hfz23_1, hfz23_2, hfz23_3⟩ := zc4 BK424) | ((with_reducible refine gate_callee (f := 36) rfl ?_); refine gl 21 Try.func36 #[] ?_; (with_reducible refine (spec_l2All.calls  t430 t431 t432 t433 _ A15.out).mono ?_); rintro e w24 ⟨rfl, hb⟩; refine ⟨_, rfl, ?_⟩; replace BK423 := zb BK423 hb rfl; replace BK424 := zb BK424 hb rfl; replace BK425 := zb BK425 hb rfl; replace HB := zS hb; try clear hb; obtain ⟨hcz25_0, hcz25_1, hcz25_2, hcz25_3, hfz25_0, hfz25_1, hfz25_2, hfz25_3⟩ := zc4 BK425))
  refine bodyPost_ret (results_cell_row rfl _ _ gb425 24 #[.int .i64 t430, .int .i64 t431, .int .i64 t432, .int .i64 t433] (0, 0) _ rfl (by refine bq ?_; refine blk_put (cs := #[.int .i64 t430, .int .i64 t431, .int .i64 t432, .int .i64 0]) ?_ 3 _ rfl; refine bq ?_; refine blk_put (cs := #[.int .i64 t430, .int .i64 t431, .int .i64 0, .int .i64 0]) ?_ 2 _ rfl; refine bq ?_; refine blk_put (cs := #[.int .i64 t430, .int .i64 0, .int .i64 0, .int .i64 0]) ?_ 1 _ rfl; refine bq ?_; refine blk_put (cs := #[.int .i64 0, .int .i64 0, .int .i64 0, .int .i64 0]) ?_ 0 _ rfl; exact bq BK425.out) Try.underlying24 rfl (by kernel_rfl)) rfl ?_
  exact ⟨zR, zB⟩

end Go.Proofs.Ytdhijcfohbkpoaa.Q
