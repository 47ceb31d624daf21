/- The machine's side of this seat's laws: Go functions as Lean functions, and their contracts. By a program of this work over the kit's print. -/
import Derived.Test.YtjengfiaphgjbaaQ0
import Derived.Test.YtjengfiaphgjbaaQ3
import Derived.Test.YtjengfiaphgjbaaQ4
namespace Go.Proofs.Ytjengfiaphgjbaa.Q
open Go.RowKit Go.Proofs.YtjengfiaphgjbaaW.PrintWords Go.Proofs.YtjengfiaphgjbaaW.PrintLast Go.Proofs.YtjengfiaphgjbaaW.PrintMore
attribute [local go_sem] max2_int min2_int max_two min_two max_three min_three max_four min_four Go.Proofs.YtjengfiaphgjbaaN.not_i64 Go.Proofs.YtjengfiaphgjbaaN.isSome_setCell   -- for this text's walks alone
set_option linter.unusedVariables false
set_option linter.unusedSimpArgs false

/-! ### spec_l2Apart: function 21 -/
def spec_l2Apart.f (k : Nat) (a0_0 : Int) (a0_1 : Int) (a0_2 : Int) (a0_3 : Int) (a1_0 : Int) (a1_1 : Int) (a1_2 : Int) (a1_3 : Int) : Option (Int × Int × Int × Int × Bool) := if a1_0 = a1_1 then ((spec_l2But.f k a0_0 a0_1 a0_2 a0_3 a1_0).bind fun bt136 => (some (bt136.1, bt136.2.1, bt136.2.2.1, bt136.2.2.2.1, bt136.2.2.2.2))) else (some (a0_0, a0_1, a0_2, a0_3, true))

set_option maxHeartbeats 8000000 in
set_option maxRecDepth 100000 in
theorem spec_l2Apart.calls (k : Nat) (a0_0 : Int) (a0_1 : Int) (a0_2 : Int) (a0_3 : Int) (a1_0 : Int) (a1_1 : Int) (a1_2 : Int) (a1_3 : Int) (r1 : Int) (r2 : Int) (r3 : Int) (r4 : Int) (r5 : Bool) (w : World) (h : spec_l2Apart.f k a0_0 a0_1 a0_2 a0_3 a1_0 a1_1 a1_2 a1_3 = some (r1, r2, r3, r4, r5)) :
  Calls Try.prog 21 #[.agg #[.int .i64 a0_0, .int .i64 a0_1, .int .i64 a0_2, .int .i64 a0_3], .agg #[.int .i64 a1_0, .int .i64 a1_1, .int .i64 a1_2, .int .i64 a1_3]] w fun e w' => e = .returned (.tuple #[.agg #[.int .i64 r1, .int .i64 r2, .int .i64 r3, .int .i64 r4], .bool r5]) ∧ Below w.heap.size w w' := by
 have hu24 := Try.underlying24
 have HB := Aside0.mk (Below.refl w.heap.size w)
 have H : (if a1_0 = a1_1 then ((spec_l2But.f k a0_0 a0_1 a0_2 a0_3 a1_0).bind fun bt136 => (some (bt136.1, bt136.2.1, bt136.2.2.1, bt136.2.2.2.1, bt136.2.2.2.2))) else (some (a0_0, a0_1, a0_2, a0_3, true))) = some (r1, r2, r3, r4, r5) := h
 clear h
 by_cases c3 : a1_0 = a1_1
 ·rw [if_pos c3] at H
  have c3b0 : (a1_0 == a1_1) = true := beq_iff_eq.mpr c3
  have c3b1 : (a1_0 != a1_1) = false := bne_eq_false_iff_eq.mpr c3
  clear c3
  replace H := Option.bind_eq_some_iff.mp H
  obtain ⟨⟨t136, t137, t138, t139, t140⟩, A40, H⟩ := H
  try dsimp only at H
  have A4 := Aside0.mk A40
  clear A40
  simp only [Option.some.injEq, Prod.mk.injEq] at H
  obtain ⟨rfl, rfl, rfl, rfl, rfl⟩ := H
  go_enter Try.func21, Try.ntmps21
  go_wp2_with (first | ((with_reducible refine gate_dst (N := 2) rfl ?_); refine be 2 #[.int .i64 a0_0, .int .i64 a0_1, .int .i64 a0_2, .int .i64 a0_3] 24 ?_; intro gb133 hg w5 hbox hb; have BK133 := Aside0.mk hbox; have GW133 := zW hg; replace HB := zS hb; have GE133 := GW133; clear hb hbox hg) | ((with_reducible refine gate_dst (N := 3) rfl ?_); refine be 3 #[.int .i64 a1_0, .int .i64 a1_1, .int .i64 a1_2, .int .i64 a1_3] 24 ?_; intro gb134 hg w6 hbox hb; have BK134 := Aside0.mk hbox; have GW134 := zW hg; replace HB := zS hb; have GE134 := GW134; have NB133_134 := zl BK133 hg rfl; have NB134_133 := zg BK133 hg rfl; replace BK133 := zb BK133 hb rfl; clear hb hbox hg) | ((with_reducible refine gate_dst (N := 4) rfl ?_); refine be 4 #[.int .i64 0, .int .i64 0, .int .i64 0, .int .i64 0] 24 ?_; intro gb135 hg w7 hbox hb; have BK135 := Aside0.mk hbox; have GW135 := zW hg; replace HB := zS hb; have GE135 := GW135; have NB133_135 := zl BK133 hg rfl; have NB135_133 := zg BK133 hg rfl; replace BK133 := zb BK133 hb rfl; have NB134_135 := zl BK134 hg rfl; have NB135_134 := zg BK134 hg rfl; replace BK134 := zb BK134 hb rfl; clear hb hbox hg; have hnb8 := NB134_133.out; have hnc8 := NB133_134.out; have hnb9 := NB134_135.out; have hnc9 := NB135_134.out; obtain ⟨hcz10_0, hcz10_1, hcz10_2, hcz10_3, hfz10_0, hfz10_1, hfz10_2, hfz10_3⟩ := zc4 BK134; have hnb11 := NB133_135.out; have hnc11 := NB135_133.out; obtain ⟨hcz12_0, hcz12_1, hcz12_2, hcz12_3, hfz12_0, hfz12_1, hfz12_2, hfz12_3⟩ := zc4 BK133) | ((with_reducible refine gate_callee (f := 33) rfl ?_); refine gl 14 Try.func33 #[.agg #[.int .i64 a0_0, .int .i64 a0_1, .int .i64 a0_2, .int .i64 a0_3], .int .i64 a1_0] ?_; (with_reducible refine (spec_l2But.calls k a0_0 a0_1 a0_2 a0_3 a1_0 t136 t137 t138 t139 t140 _ A4.out).mono ?_); rintro e w13 ⟨rfl, hb⟩; refine ⟨_, rfl, ?_⟩; replace BK133 := zb BK133 hb rfl; replace BK134 := zb BK134 hb rfl; replace BK135 := zb BK135 hb rfl; replace HB := zS hb; try clear hb; obtain ⟨hcz14_0, hcz14_1, hcz14_2, hcz14_3, hfz14_0, hfz14_1, hfz14_2, hfz14_3⟩ := zc4 BK135))
  refine bodyPost_ret (results_ct rfl _ _ gb135 24 #[.int .i64 t136, .int .i64 t137, .int .i64 t138, .int .i64 t139] (0, 0) _ rfl (by refine bq ?_; refine blk_put (cs := #[.int .i64 t136, .int .i64 t137, .int .i64 t138, .int .i64 0]) ?_ 3 _ rfl; refine bq ?_; refine blk_put (cs := #[.int .i64 t136, .int .i64 t137, .int .i64 0, .int .i64 0]) ?_ 2 _ rfl; refine bq ?_; refine blk_put (cs := #[.int .i64 t136, .int .i64 0, .int .i64 0, .int .i64 0]) ?_ 1 _ rfl; refine bq ?_; refine blk_put (cs := #[.int .i64 0, .int .i64 0, .int .i64 0, .int .i64 0]) ?_ 0 _ rfl; exact bq BK135.out) Try.underlying24 rfl (by kernel_rfl)) rfl ?_
  exact ⟨zR, zB⟩
 ·rw [if_neg c3] at H
  have c3b0 : (a1_0 == a1_1) = false := beq_eq_false_iff_ne.mpr c3
  have c3b1 : (a1_0 != a1_1) = true := bne_iff_ne.mpr c3
  simp only [Option.some.injEq, Prod.mk.injEq] at H
  obtain ⟨rfl, rfl, rfl, rfl, rfl⟩ := H
  go_enter Try.func21, Try.ntmps21
  go_wp2_with (first | ((with_reducible refine gate_dst (N := 2) rfl ?_); refine be 2 #[.int .i64 a0_0, .int .i64 a0_1, .int .i64 a0_2, .int .i64 a0_3] 24 ?_; intro gb133 hg w15 hbox hb; have BK133 := Aside0.mk hbox; have GW133 := zW hg; replace HB := zS hb; have GE133 := GW133; clear hb hbox hg) | ((with_reducible refine gate_dst (N := 3) rfl ?_); refine be 3 #[.int .i64 a1_0, .int .i64 a1_1, .int .i64 a1_2, .int .i64 a1_3] 24 ?_; intro gb134 hg w16 hbox hb; have BK134 := Aside0.mk hbox; have GW134 := zW hg; replace HB := zS hb; have GE134 := GW134; have NB133_134 := zl BK133 hg rfl; have NB134_133 := zg BK133 hg rfl; replace BK133 := zb BK133 hb rfl; clear hb hbox hg) | ((with_reducible refine gate_dst (N := 4) rfl ?_); refine be 4 #[.int .i64 0, .int .i64 0, .int .i64 0, .int .i64 0] 24 ?_; intro gb135 hg w17 hbox hb; have BK135 := Aside0.mk hbox; have GW135 := zW hg; replace HB := zS hb; have GE135 := GW135; have NB133_135 := zl BK133 hg rfl; have NB135_133 := zg BK133 hg rfl; replace BK133 := zb BK133 hb rfl; have NB134_135 := zl BK134 hg rfl; have NB135_134 := zg BK134 hg rfl; replace BK134 := zb BK134 hb rfl; clear hb hbox hg; have hnb18 := NB134_133.out; have hnc18 := NB133_134.out; have hnb19 := NB134_135.out; have hnc19 := NB135_134.out; obtain ⟨hcz20_0, hcz20_1, hcz20_2, hcz20_3, hfz20_0, hfz20_1, hfz20_2, hfz20_3⟩ := zc4 BK134; have hnb21 := NB133_135.out; have hnc21 := NB135_133.out; obtain ⟨hcz22_0, hcz22_1, hcz22_2, hcz22_3, hfz22_0, hfz22_1, hfz22_2, hfz22_3⟩ := zc4 BK133; obtain ⟨hcz23_0, hcz23_1, hcz23_2, hcz23_3, hfz23_0, hfz23_1, hfz23_2, hfz23_3⟩ := zc4 BK135))
  refine bodyPost_ret (results_ct rfl _ _ gb135 24 #[.int .i64 a0_0, .int .i64 a0_1, .int .i64 a0_2, .int .i64 a0_3] (0, 0) _ rfl (by refine bq ?_; refine blk_put (cs := #[.int .i64 a0_0, .int .i64 a0_1, .int .i64 a0_2, .int .i64 0]) ?_ 3 _ rfl; refine bq ?_; refine blk_put (cs := #[.int .i64 a0_0, .int .i64 a0_1, .int .i64 0, .int .i64 0]) ?_ 2 _ rfl; refine bq ?_; refine blk_put (cs := #[.int .i64 a0_0, .int .i64 0, .int .i64 0, .int .i64 0]) ?_ 1 _ rfl; refine bq ?_; refine blk_put (cs := #[.int .i64 0, .int .i64 0, .int .i64 0, .int .i64 0]) ?_ 0 _ rfl; exact bq BK135.out) Try.underlying24 rfl (by kernel_rfl)) rfl ?_
  exact ⟨zR, zB⟩

/-! ### spec_l2Below: function 22 -/
mutual
def spec_l2Below.j0 : Nat → Int → Int → Int → Int → Int → Int → Int → Int → Int → Option (Int × Int × Int × Int × Int × Int × Int × Int × Bool)
 | 0, _, _, _, _, _, _, _, _, _ => none
 | k + 1, x2, x142000, x142001, x142002, x142003, x143000, x143001, x143002, x143003 => if x143000 < (wrap64 (x142000 + x2)) then (spec_l2Below.j1 k x142000 x142001 x142002 x142003 (wrap64 (x142000 + x2)) x143001 x143002 x143003) else (spec_l2Below.j1 k x142000 x142001 x142002 x142003 x143000 x143001 x143002 x143003)
def spec_l2Below.j1 : Nat → Int → Int → Int → Int → Int → Int → Int → Int → Option (Int × Int × Int × Int × Int × Int × Int × Int × Bool)
 | 0, _, _, _, _, _, _, _, _ => none
 | k + 1, x142000, x142001, x142002, x142003, x143000, x143001, x143002, x143003 => if x142000 > x142001 then (spec_l2Below.j2 k true x142000 x142001 x142002 x142003 x143000 x143001 x143002 x143003) else (if x143000 > x143001 then (spec_l2Below.j2 k true x142000 x142001 x142002 x142003 x143000 x143001 x143002 x143003) else ((spec_l2Some.f k x142000 x142001 x142002 x142003).bind fun t145 => (if t145 = true then ((spec_l2Some.f k x143000 x143001 x143002 x143003).bind fun t146 => (spec_l2Below.j2 k (!t146) x142000 x142001 x142002 x142003 x143000 x143001 x143002 x143003)) else (spec_l2Below.j2 k true x142000 x142001 x142002 x142003 x143000 x143001 x143002 x143003))))
def spec_l2Below.j2 : Nat → Bool → Int → Int → Int → Int → Int → Int → Int → Int → Option (Int × Int × Int × Int × Int × Int × Int × Int × Bool)
 | 0, _, _, _, _, _, _, _, _, _ => none
 | k + 1, x54, x142000, x142001, x142002, x142003, x143000, x143001, x143002, x143003 => if x54 = true then (some (1, 0, 0, 0, 1, 0, 0, 0, false)) else ((spec_l2Tidy.f k x142000 x142001 x142002 x142003).bind fun bt147 => ((spec_l2Tidy.f k x143000 x143001 x143002 x143003).bind fun bt151 => (some (bt147.1, bt147.2.1, bt147.2.2.1, bt147.2.2.2, bt151.1, bt151.2.1, bt151.2.2.1, bt151.2.2.2, true))))
end
def spec_l2Below.f (k : Nat) (a0_0 : Int) (a0_1 : Int) (a0_2 : Int) (a0_3 : Int) (a1_0 : Int) (a1_1 : Int) (a1_2 : Int) (a1_3 : Int) (a2 : Int) : Option (Int × Int × Int × Int × Int × Int × Int × Int × Bool) := if a0_1 > (wrap64 (a1_1 - a2)) then (spec_l2Below.j0 k a2 a0_0 (wrap64 (a1_1 - a2)) a0_2 a0_3 a1_0 a1_1 a1_2 a1_3) else (spec_l2Below.j0 k a2 a0_0 a0_1 a0_2 a0_3 a1_0 a1_1 a1_2 a1_3)


set_option maxHeartbeats 8000000 in
set_option maxRecDepth 100000 in
theorem spec_l2Below.calls (k : Nat) (a0_0 : Int) (a0_1 : Int) (a0_2 : Int) (a0_3 : Int) (a1_0 : Int) (a1_1 : Int) (a1_2 : Int) (a1_3 : Int) (a2 : Int) (r1 : Int) (r2 : Int) (r3 : Int) (r4 : Int) (r5 : Int) (r6 : Int) (r7 : Int) (r8 : Int) (r9 : Bool) (w : World) (h : spec_l2Below.f k a0_0 a0_1 a0_2 a0_3 a1_0 a1_1 a1_2 a1_3 a2 = some (r1, r2, r3, r4, r5, r6, r7, r8, r9)) :
  Calls Try.prog 22 #[.agg #[.int .i64 a0_0, .int .i64 a0_1, .int .i64 a0_2, .int .i64 a0_3], .agg #[.int .i64 a1_0, .int .i64 a1_1, .int .i64 a1_2, .int .i64 a1_3], .int .i64 a2] w fun e w' => e = .returned (.tuple #[.agg #[.int .i64 r1, .int .i64 r2, .int .i64 r3, .int .i64 r4], .agg #[.int .i64 r5, .int .i64 r6, .int .i64 r7, .int .i64 r8], .bool r9]) ∧ Below w.heap.size w w' := by
 have hu24 := Try.underlying24
 have HB := Aside0.mk (Below.refl w.heap.size w)
 have H : (if a0_1 > (wrap64 (a1_1 - a2)) then (spec_l2Below.j0 k a2 a0_0 (wrap64 (a1_1 - a2)) a0_2 a0_3 a1_0 a1_1 a1_2 a1_3) else (spec_l2Below.j0 k a2 a0_0 a0_1 a0_2 a0_3 a1_0 a1_1 a1_2 a1_3)) = some (r1, r2, r3, r4, r5, r6, r7, r8, r9) := h
 clear h
 have HC4 := Aside0.mk H
 clear H
 go_enter Try.func22, Try.ntmps22
 go_upto_if 15 with (first | ((with_reducible refine gate_dst (N := 3) rfl ?_); refine be 3 #[.int .i64 a0_0, .int .i64 a0_1, .int .i64 a0_2, .int .i64 a0_3] 24 ?_; intro gb141 hg w5 hbox hb; have BK141 := Aside0.mk hbox; have GW141 := zW hg; replace HB := zS hb; have GE141 := GW141; clear hb hbox hg) | ((with_reducible refine gate_dst (N := 4) rfl ?_); refine be 4 #[.int .i64 a1_0, .int .i64 a1_1, .int .i64 a1_2, .int .i64 a1_3] 24 ?_; intro gb142 hg w6 hbox hb; have BK142 := Aside0.mk hbox; have GW142 := zW hg; replace HB := zS hb; have GE142 := GW142; have NB141_142 := zl BK141 hg rfl; have NB142_141 := zg BK141 hg rfl; replace BK141 := zb BK141 hb rfl; clear hb hbox hg) | ((with_reducible refine gate_dst (N := 6) rfl ?_); refine be 6 #[.int .i64 0, .int .i64 0, .int .i64 0, .int .i64 0] 24 ?_; intro gb143 hg w7 hbox hb; have BK143 := Aside0.mk hbox; have GW143 := zW hg; replace HB := zS hb; have GE143 := GW143; have NB141_143 := zl BK141 hg rfl; have NB143_141 := zg BK141 hg rfl; replace BK141 := zb BK141 hb rfl; have NB142_143 := zl BK142 hg rfl; have NB143_142 := zg BK142 hg rfl; replace BK142 := zb BK142 hb rfl; clear hb hbox hg) | ((with_reducible refine gate_dst (N := 7) rfl ?_); refine be 7 #[.int .i64 0, .int .i64 0, .int .i64 0, .int .i64 0] 24 ?_; intro gb144 hg w8 hbox hb; have BK144 := Aside0.mk hbox; have GW144 := zW hg; replace HB := zS hb; have GE144 := GW144; have NB141_144 := zl BK141 hg rfl; have NB144_141 := zg BK141 hg rfl; replace BK141 := zb BK141 hb rfl; have NB142_144 := zl BK142 hg rfl; have NB144_142 := zg BK142 hg rfl; replace BK142 := zb BK142 hb rfl; have NB143_144 := zl BK143 hg rfl; have NB144_143 := zg BK143 hg rfl; replace BK143 := zb BK143 hb rfl; clear hb hbox hg; have hnb9 := NB141_142.out; have hnc9 := NB142_141.out; have hnb10 := NB141_143.out; have hnc10 := NB143_141.out; have hnb11 := NB141_144.out; have hnc11 := NB144_141.out; obtain ⟨hcz12_0, hcz12_1, hcz12_2, hcz12_3, hfz12_0, hfz12_1, hfz12_2, hfz12_3⟩ := zc4 BK141; have hnb13 := NB142_143.out; have hnc13 := NB143_142.out; have hnb14 := NB142_144.out; have hnc14 := NB144_142.out; obtain ⟨hcz15_0, hcz15_1, hcz15_2, hcz15_3, hfz15_0, hfz15_1, hfz15_2, hfz15_3⟩ := zc4 BK142))
 (try simp only [Act.put, List.setIfInBounds_toArray, List.set_cons_zero, List.set_cons_succ])
 go_cut [] (fun wc => ∃ (kq : Nat) (x142001_3 : Int), Aside0 (spec_l2Below.j0 kq a2 a0_0 x142001_3 a0_2 a0_3 a1_0 a1_1 a1_2 a1_3 = some (r1, r2, r3, r4, r5, r6, r7, r8, r9)) ∧ Aside0 (kq ≤ k) ∧ Aside0 (wc.heap[gb141]? = some (.cells #[.int .i64 a0_0, .int .i64 x142001_3, .int .i64 a0_2, .int .i64 a0_3] 24 (0, 0))) ∧ Aside0 (wc.heap[gb142]? = some (.cells #[.int .i64 a1_0, .int .i64 a1_1, .int .i64 a1_2, .int .i64 a1_3] 24 (0, 0))) ∧ Aside0 (wc.heap[gb143]? = some (.cells #[.int .i64 0, .int .i64 0, .int .i64 0, .int .i64 0] 24 (0, 0))) ∧ Aside0 (wc.heap[gb144]? = some (.cells #[.int .i64 0, .int .i64 0, .int .i64 0, .int .i64 0] 24 (0, 0))) ∧ Aside0 (Below w.heap.size w wc))
 case first =>
  have H := HC4.out
  clear HC4
  by_cases c16 : a0_1 > (wrap64 (a1_1 - a2))
  ·rw [if_pos c16] at H
   have c16b0 : decide ((wrap64 (a1_1 - a2)) < a0_1) = true := decide_eq_true c16
   clear c16
   (first | rw [c16b0] | (simp only [i64_w, i32_w]; rw [c16b0]) | skip)
   have H' := Aside0.mk H
   clear H
   have hnb17 := NB142_141.out
   have hnc17 := NB141_142.out
   have hnb18 := NB142_143.out
   have hnc18 := NB143_142.out
   have hnb19 := NB142_144.out
   have hnc19 := NB144_142.out
   obtain ⟨hcz20_0, hcz20_1, hcz20_2, hcz20_3, hfz20_0, hfz20_1, hfz20_2, hfz20_3⟩ := zc4 BK142
   have hnb21 := NB141_143.out
   have hnc21 := NB143_141.out
   have hnb22 := NB141_144.out
   have hnc22 := NB144_141.out
   obtain ⟨hcz23_0, hcz23_1, hcz23_2, hcz23_3, hfz23_0, hfz23_1, hfz23_2, hfz23_3⟩ := zc4 BK141
   go_wp2
   go_meet
   case rel => exact ⟨_, (wrap64 (a1_1 - a2)), H', ⟨by first | omega | exact Nat.le_refl _⟩, ⟨by refine bq ?_; refine blk_put (cs := #[.int .i64 a0_0, .int .i64 a0_1, .int .i64 a0_2, .int .i64 a0_3]) ?_ 1 _ rfl; exact bq BK141.out⟩, ⟨by refine fq ?_ NB142_141.out; exact bq BK142.out⟩, ⟨by refine fq ?_ NB143_141.out; exact bq BK143.out⟩, ⟨by refine fq ?_ NB144_141.out; exact bq BK144.out⟩, ⟨zB⟩⟩
  ·rw [if_neg c16] at H
   have c16b0 : decide ((wrap64 (a1_1 - a2)) < a0_1) = false := decide_eq_false c16
   clear c16
   (first | rw [c16b0] | (simp only [i64_w, i32_w]; rw [c16b0]) | skip)
   have H' := Aside0.mk H
   clear H
   go_wp2
   go_meet
   case rel => exact ⟨_, (a0_1), H', ⟨by first | omega | exact Nat.le_refl _⟩, ⟨by exact bq BK141.out⟩, ⟨by exact bq BK142.out⟩, ⟨by exact bq BK143.out⟩, ⟨by exact bq BK144.out⟩, ⟨zB⟩⟩
 case rest =>
  clear HC4
  try clear c1
  try clear c2
  try clear p2
  try clear p6
  try clear c9
  try clear c10
  try clear c11
  try clear c13
  try clear c14
  try clear c16
  try clear c16b0
  try clear c17
  try clear c18
  try clear c19
  try clear c21
  try clear c22
  try clear hcz12_0 hcz12_1 hcz12_2 hcz12_3 hfz12_0 hfz12_1 hfz12_2 hfz12_3
  try clear hcz15_0 hcz15_1 hcz15_2 hcz15_3 hfz15_0 hfz15_1 hfz15_2 hfz15_3
  try clear hcz20_0 hcz20_1 hcz20_2 hcz20_3 hfz20_0 hfz20_1 hfz20_2 hfz20_3
  try clear hcz23_0 hcz23_1 hcz23_2 hcz23_3 hfz23_0 hfz23_1 hfz23_2 hfz23_3
  obtain ⟨kq, x142001_3, HA, HJ3, BK141, BK142, BK143, BK144, HB⟩ := hcut
  cases kq with
  | zero => exact absurd HA.out (by simp [spec_l2Below.j0])
  | succ kj3 =>
   have H := HA.out
   clear HA
   simp only [spec_l2Below.j0] at H
   have HC24 := Aside0.mk H
   clear H
   have hnb25 := NB142_141.out
   have hnc25 := NB141_142.out
   have hnb26 := NB142_143.out
   have hnc26 := NB143_142.out
   have hnb27 := NB142_144.out
   have hnc27 := NB144_142.out
   obtain ⟨hcz28_0, hcz28_1, hcz28_2, hcz28_3, hfz28_0, hfz28_1, hfz28_2, hfz28_3⟩ := zc4 BK142
   have hnb29 := NB141_143.out
   have hnc29 := NB143_141.out
   have hnb30 := NB141_144.out
   have hnc30 := NB144_141.out
   obtain ⟨hcz31_0, hcz31_1, hcz31_2, hcz31_3, hfz31_0, hfz31_1, hfz31_2, hfz31_3⟩ := zc4 BK141
   go_upto_if 27 with (fail)
   go_cut [] (fun wc => ∃ (kq : Nat) (x143000_23 : Int), Aside0 (spec_l2Below.j1 kq a0_0 x142001_3 a0_2 a0_3 x143000_23 a1_1 a1_2 a1_3 = some (r1, r2, r3, r4, r5, r6, r7, r8, r9)) ∧ Aside0 (kq ≤ kj3) ∧ Aside0 (wc.heap[gb141]? = some (.cells #[.int .i64 a0_0, .int .i64 x142001_3, .int .i64 a0_2, .int .i64 a0_3] 24 (0, 0))) ∧ Aside0 (wc.heap[gb142]? = some (.cells #[.int .i64 x143000_23, .int .i64 a1_1, .int .i64 a1_2, .int .i64 a1_3] 24 (0, 0))) ∧ Aside0 (wc.heap[gb143]? = some (.cells #[.int .i64 0, .int .i64 0, .int .i64 0, .int .i64 0] 24 (0, 0))) ∧ Aside0 (wc.heap[gb144]? = some (.cells #[.int .i64 0, .int .i64 0, .int .i64 0, .int .i64 0] 24 (0, 0))) ∧ Aside0 (Below w.heap.size w wc))
   case first =>
    have H := HC24.out
    clear HC24
    by_cases c32 : a1_0 < (wrap64 (a0_0 + a2))
    ·rw [if_pos c32] at H
     have c32b0 : decide (a1_0 < (wrap64 (a0_0 + a2))) = true := decide_eq_true c32
     clear c32
     (first | rw [c32b0] | (simp only [i64_w, i32_w]; rw [c32b0]) | skip)
     have H' := Aside0.mk H
     clear H
     have hnb33 := NB141_142.out
     have hnc33 := NB142_141.out
     have hnb34 := NB141_143.out
     have hnc34 := NB143_141.out
     have hnb35 := NB141_144.out
     have hnc35 := NB144_141.out
     obtain ⟨hcz36_0, hcz36_1, hcz36_2, hcz36_3, hfz36_0, hfz36_1, hfz36_2, hfz36_3⟩ := zc4 BK141
     have hnb37 := NB142_143.out
     have hnc37 := NB143_142.out
     have hnb38 := NB142_144.out
     have hnc38 := NB144_142.out
     obtain ⟨hcz39_0, hcz39_1, hcz39_2, hcz39_3, hfz39_0, hfz39_1, hfz39_2, hfz39_3⟩ := zc4 BK142
     go_wp2
     go_meet
     case rel => exact ⟨_, (wrap64 (a0_0 + a2)), H', ⟨by have := HJ3.out; first | omega | exact Nat.le_refl _⟩, ⟨by refine fq ?_ NB141_142.out; exact bq BK141.out⟩, ⟨by refine bq ?_; refine blk_put (cs := #[.int .i64 a1_0, .int .i64 a1_1, .int .i64 a1_2, .int .i64 a1_3]) ?_ 0 _ rfl; exact bq BK142.out⟩, ⟨by refine fq ?_ NB143_142.out; exact bq BK143.out⟩, ⟨by refine fq ?_ NB144_142.out; exact bq BK144.out⟩, ⟨zB⟩⟩
    ·rw [if_neg c32] at H
     have c32b0 : decide (a1_0 < (wrap64 (a0_0 + a2))) = false := decide_eq_false c32
     clear c32
     (first | rw [c32b0] | (simp only [i64_w, i32_w]; rw [c32b0]) | skip)
     have H' := Aside0.mk H
     clear H
     go_wp2
     go_meet
     case rel => exact ⟨_, (a1_0), H', ⟨by have := HJ3.out; first | omega | exact Nat.le_refl _⟩, ⟨by exact bq BK141.out⟩, ⟨by exact bq BK142.out⟩, ⟨by exact bq BK143.out⟩, ⟨by exact bq BK144.out⟩, ⟨zB⟩⟩
   case rest =>
    clear HC24
    try clear c1
    try clear c2
    try clear p2 p2
    try clear c3
    try clear p6 p6
    try clear c9
    try clear c10
    try clear c11
    try clear c13
    try clear c14
    try clear c16
    try clear c16b0
    try clear c17
    try clear c18
    try clear c19
    try clear c21
    try clear c22
    try clear c25
    try clear c26
    try clear c27
    try clear c29
    try clear c30
    try clear c32
    try clear c32b0
    try clear c33
    try clear c34
    try clear c35
    try clear c37
    try clear c38
    try clear hcz12_0 hcz12_1 hcz12_2 hcz12_3 hfz12_0 hfz12_1 hfz12_2 hfz12_3
    try clear hcz15_0 hcz15_1 hcz15_2 hcz15_3 hfz15_0 hfz15_1 hfz15_2 hfz15_3
    try clear hcz20_0 hcz20_1 hcz20_2 hcz20_3 hfz20_0 hfz20_1 hfz20_2 hfz20_3
    try clear hcz23_0 hcz23_1 hcz23_2 hcz23_3 hfz23_0 hfz23_1 hfz23_2 hfz23_3
    try clear hcz28_0 hcz28_1 hcz28_2 hcz28_3 hfz28_0 hfz28_1 hfz28_2 hfz28_3
    try clear hcz31_0 hcz31_1 hcz31_2 hcz31_3 hfz31_0 hfz31_1 hfz31_2 hfz31_3
    try clear hcz36_0 hcz36_1 hcz36_2 hcz36_3 hfz36_0 hfz36_1 hfz36_2 hfz36_3
    try clear hcz39_0 hcz39_1 hcz39_2 hcz39_3 hfz39_0 hfz39_1 hfz39_2 hfz39_3
    obtain ⟨kq, x143000_23, HA, HJ23, BK141, BK142, BK143, BK144, HB⟩ := hcut
    cases kq with
    | zero => exact absurd HA.out (by simp [spec_l2Below.j1])
    | succ kj23 =>
     have H := HA.out
     clear HA
     simp only [spec_l2Below.j1] at H
     have HC40 := Aside0.mk H
     clear H
     go_upto_region 5 with (fail)
     go_cut [54] (fun v54 wc => ∃ (kq : Nat) (x54_39 : Bool), v54 = .bool x54_39 ∧ Aside0 (spec_l2Below.j2 kq x54_39 a0_0 x142001_3 a0_2 a0_3 x143000_23 a1_1 a1_2 a1_3 = some (r1, r2, r3, r4, r5, r6, r7, r8, r9)) ∧ Aside0 (kq ≤ kj23) ∧ Aside0 (wc.heap[gb141]? = some (.cells #[.int .i64 a0_0, .int .i64 x142001_3, .int .i64 a0_2, .int .i64 a0_3] 24 (0, 0))) ∧ Aside0 (wc.heap[gb142]? = some (.cells #[.int .i64 x143000_23, .int .i64 a1_1, .int .i64 a1_2, .int .i64 a1_3] 24 (0, 0))) ∧ Aside0 (wc.heap[gb143]? = some (.cells #[.int .i64 0, .int .i64 0, .int .i64 0, .int .i64 0] 24 (0, 0))) ∧ Aside0 (wc.heap[gb144]? = some (.cells #[.int .i64 0, .int .i64 0, .int .i64 0, .int .i64 0] 24 (0, 0))) ∧ Aside0 (Below w.heap.size w wc))
     case first =>
      have H := HC40.out
      clear HC40
      by_cases c41 : a0_0 > x142001_3
      ·rw [if_pos c41] at H
       have c41b0 : decide (x142001_3 < a0_0) = true := decide_eq_true c41
       clear c41
       (first | rw [c41b0] | (simp only [i64_w, i32_w]; rw [c41b0]) | skip)
       have H' := Aside0.mk H
       clear H
       have hnb42 := NB141_142.out
       have hnc42 := NB142_141.out
       have hnb43 := NB141_143.out
       have hnc43 := NB143_141.out
       have hnb44 := NB141_144.out
       have hnc44 := NB144_141.out
       obtain ⟨hcz45_0, hcz45_1, hcz45_2, hcz45_3, hfz45_0, hfz45_1, hfz45_2, hfz45_3⟩ := zc4 BK141
       go_wp2
       go_meet
       case rel => exact ⟨_, (true), (by first | rfl | (simp; done) | (simp [*]; done)), H', ⟨by have := HJ3.out; have := HJ23.out; first | omega | exact Nat.le_refl _⟩, ⟨by exact bq BK141.out⟩, ⟨by exact bq BK142.out⟩, ⟨by exact bq BK143.out⟩, ⟨by exact bq BK144.out⟩, ⟨zB⟩⟩
      ·rw [if_neg c41] at H
       have c41b0 : decide (x142001_3 < a0_0) = false := decide_eq_false c41
       clear c41
       (first | rw [c41b0] | (simp only [i64_w, i32_w]; rw [c41b0]) | skip)
       by_cases c46 : x143000_23 > a1_1
       ·rw [if_pos c46] at H
        have c46b0 : decide (a1_1 < x143000_23) = true := decide_eq_true c46
        clear c46
        have H' := Aside0.mk H
        clear H
        have hnb47 := NB141_142.out
        have hnc47 := NB142_141.out
        have hnb48 := NB141_143.out
        have hnc48 := NB143_141.out
        have hnb49 := NB141_144.out
        have hnc49 := NB144_141.out
        obtain ⟨hcz50_0, hcz50_1, hcz50_2, hcz50_3, hfz50_0, hfz50_1, hfz50_2, hfz50_3⟩ := zc4 BK141
        have hnb51 := NB142_143.out
        have hnc51 := NB143_142.out
        have hnb52 := NB142_144.out
        have hnc52 := NB144_142.out
        obtain ⟨hcz53_0, hcz53_1, hcz53_2, hcz53_3, hfz53_0, hfz53_1, hfz53_2, hfz53_3⟩ := zc4 BK142
        go_wp2
        go_meet
        case rel => exact ⟨_, (true), (by first | rfl | (simp; done) | (simp [*]; done)), H', ⟨by have := HJ3.out; have := HJ23.out; first | omega | exact Nat.le_refl _⟩, ⟨by exact bq BK141.out⟩, ⟨by exact bq BK142.out⟩, ⟨by exact bq BK143.out⟩, ⟨by exact bq BK144.out⟩, ⟨zB⟩⟩
       ·rw [if_neg c46] at H
        have c46b0 : decide (a1_1 < x143000_23) = false := decide_eq_false c46
        clear c46
        replace H := Option.bind_eq_some_iff.mp H
        obtain ⟨t145, A540, H⟩ := H
        try dsimp only at H
        have A54 := Aside0.mk A540
        clear A540
        by_cases c55 : t145 = true
        ·subst c55
         rw [if_pos rfl] at H
         replace H := Option.bind_eq_some_iff.mp H
         obtain ⟨t146, A560, H⟩ := H
         try dsimp only at H
         have A56 := Aside0.mk A560
         clear A560
         have H' := Aside0.mk H
         clear H
         have hnb57 := NB141_142.out
         have hnc57 := NB142_141.out
         have hnb58 := NB141_143.out
         have hnc58 := NB143_141.out
         have hnb59 := NB141_144.out
         have hnc59 := NB144_141.out
         obtain ⟨hcz60_0, hcz60_1, hcz60_2, hcz60_3, hfz60_0, hfz60_1, hfz60_2, hfz60_3⟩ := zc4 BK141
         have hnb61 := NB142_143.out
         have hnc61 := NB143_142.out
         have hnb62 := NB142_144.out
         have hnc62 := NB144_142.out
         obtain ⟨hcz63_0, hcz63_1, hcz63_2, hcz63_3, hfz63_0, hfz63_1, hfz63_2, hfz63_3⟩ := zc4 BK142
         go_wp2_with (first | (go_at_call 10; (with_reducible refine (spec_l2Some.calls kj23 a0_0 x142001_3 a0_2 a0_3 true _ A54.out).mono ?_); rintro e w64 ⟨rfl, hb⟩; replace BK141 := zb BK141 hb rfl; replace BK142 := zb BK142 hb rfl; replace BK143 := zb BK143 hb rfl; replace BK144 := zb BK144 hb rfl; replace HB := zS hb; try clear hb; obtain ⟨hcz65_0, hcz65_1, hcz65_2, hcz65_3, hfz65_0, hfz65_1, hfz65_2, hfz65_3⟩ := zc4 BK142) | (go_at_call 10; (with_reducible refine (spec_l2Some.calls kj23 x143000_23 a1_1 a1_2 a1_3 t146 _ A56.out).mono ?_); rintro e w66 ⟨rfl, hb⟩; replace BK141 := zb BK141 hb rfl; replace BK142 := zb BK142 hb rfl; replace BK143 := zb BK143 hb rfl; replace BK144 := zb BK144 hb rfl; replace HB := zS hb; try clear hb))
         go_meet
         case rel => exact ⟨_, (!t146), (by first | rfl | (simp; done) | (simp [*]; done)), H', ⟨by have := HJ3.out; have := HJ23.out; first | omega | exact Nat.le_refl _⟩, ⟨by exact bq BK141.out⟩, ⟨by exact bq BK142.out⟩, ⟨by exact bq BK143.out⟩, ⟨by exact bq BK144.out⟩, ⟨zB⟩⟩
        ·replace c55 := Bool.eq_false_iff.mpr c55
         subst c55
         rw [if_neg (show ¬ (false = true) by decide)] at H
         have H' := Aside0.mk H
         clear H
         have hnb67 := NB141_142.out
         have hnc67 := NB142_141.out
         have hnb68 := NB141_143.out
         have hnc68 := NB143_141.out
         have hnb69 := NB141_144.out
         have hnc69 := NB144_141.out
         obtain ⟨hcz70_0, hcz70_1, hcz70_2, hcz70_3, hfz70_0, hfz70_1, hfz70_2, hfz70_3⟩ := zc4 BK141
         have hnb71 := NB142_143.out
         have hnc71 := NB143_142.out
         have hnb72 := NB142_144.out
         have hnc72 := NB144_142.out
         obtain ⟨hcz73_0, hcz73_1, hcz73_2, hcz73_3, hfz73_0, hfz73_1, hfz73_2, hfz73_3⟩ := zc4 BK142
         go_wp2_with (first | (go_at_call 10; (with_reducible refine (spec_l2Some.calls kj23 a0_0 x142001_3 a0_2 a0_3 false _ A54.out).mono ?_); rintro e w74 ⟨rfl, hb⟩; replace BK141 := zb BK141 hb rfl; replace BK142 := zb BK142 hb rfl; replace BK143 := zb BK143 hb rfl; replace BK144 := zb BK144 hb rfl; replace HB := zS hb; try clear hb))
         go_meet
         case rel => exact ⟨_, (true), (by first | rfl | (simp; done) | (simp [*]; done)), H', ⟨by have := HJ3.out; have := HJ23.out; first | omega | exact Nat.le_refl _⟩, ⟨by exact bq BK141.out⟩, ⟨by exact bq BK142.out⟩, ⟨by exact bq BK143.out⟩, ⟨by exact bq BK144.out⟩, ⟨zB⟩⟩
     case rest =>
      clear HC40
      try clear c1
      try clear c2
      try clear p2 p2
      try clear c3
      try clear c4
      try clear c5
      try clear c6
      try clear p6 p6
      try clear c7
      try clear c9
      try clear c10
      try clear c11
      try clear c13
      try clear c14
      try clear c16
      try clear c16b0
      try clear c17
      try clear c18
      try clear c19
      try clear c21
      try clear c22
      try clear c25
      try clear c26
      try clear c27
      try clear c29
      try clear c30
      try clear c32
      try clear c32b0
      try clear c33
      try clear c34
      try clear c35
      try clear c37
      try clear c38
      try clear c41
      try clear c41b0
      try clear c42
      try clear c43
      try clear c44
      try clear c46
      try clear c46b0
      try clear c47
      try clear c48
      try clear c49
      try clear c51
      try clear c52
      try clear c55
      try clear c57
      try clear c58
      try clear c59
      try clear c61
      try clear c62
      try clear p64
      try clear c67
      try clear c68
      try clear c69
      try clear c71
      try clear c72
      try clear hcz12_0 hcz12_1 hcz12_2 hcz12_3 hfz12_0 hfz12_1 hfz12_2 hfz12_3
      try clear hcz15_0 hcz15_1 hcz15_2 hcz15_3 hfz15_0 hfz15_1 hfz15_2 hfz15_3
      try clear hcz20_0 hcz20_1 hcz20_2 hcz20_3 hfz20_0 hfz20_1 hfz20_2 hfz20_3
      try clear hcz23_0 hcz23_1 hcz23_2 hcz23_3 hfz23_0 hfz23_1 hfz23_2 hfz23_3
      try clear hcz28_0 hcz28_1 hcz28_2 hcz28_3 hfz28_0 hfz28_1 hfz28_2 hfz28_3
      try clear hcz31_0 hcz31_1 hcz31_2 hcz31_3 hfz31_0 hfz31_1 hfz31_2 hfz31_3
      try clear hcz36_0 hcz36_1 hcz36_2 hcz36_3 hfz36_0 hfz36_1 hfz36_2 hfz36_3
      try clear hcz39_0 hcz39_1 hcz39_2 hcz39_3 hfz39_0 hfz39_1 hfz39_2 hfz39_3
      try clear hcz45_0 hcz45_1 hcz45_2 hcz45_3 hfz45_0 hfz45_1 hfz45_2 hfz45_3
      try clear hcz50_0 hcz50_1 hcz50_2 hcz50_3 hfz50_0 hfz50_1 hfz50_2 hfz50_3
      try clear hcz53_0 hcz53_1 hcz53_2 hcz53_3 hfz53_0 hfz53_1 hfz53_2 hfz53_3
      try clear hcz60_0 hcz60_1 hcz60_2 hcz60_3 hfz60_0 hfz60_1 hfz60_2 hfz60_3
      try clear hcz63_0 hcz63_1 hcz63_2 hcz63_3 hfz63_0 hfz63_1 hfz63_2 hfz63_3
      try clear hcz65_0 hcz65_1 hcz65_2 hcz65_3 hfz65_0 hfz65_1 hfz65_2 hfz65_3
      try clear hcz70_0 hcz70_1 hcz70_2 hcz70_3 hfz70_0 hfz70_1 hfz70_2 hfz70_3
      try clear hcz73_0 hcz73_1 hcz73_2 hcz73_3 hfz73_0 hfz73_1 hfz73_2 hfz73_3
      obtain ⟨kq, x54_39, rfl, HA, HJ39, BK141, BK142, BK143, BK144, HB⟩ := hcut
      cases kq with
      | zero => exact absurd HA.out (by simp [spec_l2Below.j2])
      | succ kj39 =>
       have H := HA.out
       clear HA
       simp only [spec_l2Below.j2] at H
       by_cases c75 : x54_39 = true
       ·subst c75
        rw [if_pos rfl] at H
        simp only [Option.some.injEq, Prod.mk.injEq] at H
        obtain ⟨rfl, rfl, rfl, rfl, rfl, rfl, rfl, rfl, rfl⟩ := H
        have hnb76 := NB143_141.out
        have hnc76 := NB141_143.out
        have hnb77 := NB143_142.out
        have hnc77 := NB142_143.out
        have hnb78 := NB143_144.out
        have hnc78 := NB144_143.out
        obtain ⟨hcz79_0, hcz79_1, hcz79_2, hcz79_3, hfz79_0, hfz79_1, hfz79_2, hfz79_3⟩ := zc4 BK143
        have hnb80 := NB144_141.out
        have hnc80 := NB141_144.out
        have hnb81 := NB144_142.out
        have hnc81 := NB142_144.out
        obtain ⟨hcz82_0, hcz82_1, hcz82_2, hcz82_3, hfz82_0, hfz82_1, hfz82_2, hfz82_3⟩ := zc4 BK144
        go_wp2
        refine bodyPost_ret (results_list (rs := [.cell 6 24, .cell 7 24, .tmp 8]) rfl (by simp) (.cell gb143 24 #[.int .i64 1, .int .i64 0, .int .i64 0, .int .i64 0] (0, 0) _ rfl (by refine fq ?_ NB143_144.out; refine fq ?_ NB143_144.out; refine fq ?_ NB143_144.out; refine fq ?_ NB143_144.out; refine bq ?_; refine blk_put (cs := #[.int .i64 1, .int .i64 0, .int .i64 0, .int .i64 0]) ?_ 3 _ rfl; refine bq ?_; refine blk_put (cs := #[.int .i64 1, .int .i64 0, .int .i64 0, .int .i64 0]) ?_ 2 _ rfl; refine bq ?_; refine blk_put (cs := #[.int .i64 1, .int .i64 0, .int .i64 0, .int .i64 0]) ?_ 1 _ rfl; refine bq ?_; refine blk_put (cs := #[.int .i64 0, .int .i64 0, .int .i64 0, .int .i64 0]) ?_ 0 _ rfl; exact bq BK143.out) Try.underlying24 rfl (by kernel_rfl) (.cell gb144 24 #[.int .i64 1, .int .i64 0, .int .i64 0, .int .i64 0] (0, 0) _ rfl (by refine bq ?_; refine blk_put (cs := #[.int .i64 1, .int .i64 0, .int .i64 0, .int .i64 0]) ?_ 3 _ rfl; refine bq ?_; refine blk_put (cs := #[.int .i64 1, .int .i64 0, .int .i64 0, .int .i64 0]) ?_ 2 _ rfl; refine bq ?_; refine blk_put (cs := #[.int .i64 1, .int .i64 0, .int .i64 0, .int .i64 0]) ?_ 1 _ rfl; refine bq ?_; refine blk_put (cs := #[.int .i64 0, .int .i64 0, .int .i64 0, .int .i64 0]) ?_ 0 _ rfl; refine fq ?_ NB144_143.out; refine fq ?_ NB144_143.out; refine fq ?_ NB144_143.out; refine fq ?_ NB144_143.out; exact bq BK144.out) Try.underlying24 rfl (by kernel_rfl) (.tmp .nil)))) rfl ?_
        exact ⟨zR, zB⟩
       ·replace c75 := Bool.eq_false_iff.mpr c75
        subst c75
        rw [if_neg (show ¬ (false = true) by decide)] at H
        replace H := Option.bind_eq_some_iff.mp H
        obtain ⟨⟨t147, t148, t149, t150⟩, A830, H⟩ := H
        try dsimp only at H
        have A83 := Aside0.mk A830
        clear A830
        replace H := Option.bind_eq_some_iff.mp H
        obtain ⟨⟨t151, t152, t153, t154⟩, A840, H⟩ := H
        try dsimp only at H
        have A84 := Aside0.mk A840
        clear A840
        simp only [Option.some.injEq, Prod.mk.injEq] at H
        obtain ⟨rfl, rfl, rfl, rfl, rfl, rfl, rfl, rfl, rfl⟩ := H
        try go_wp2
        replace BK141 := Aside0.mk (blk_drew BK141.out)
        replace BK142 := Aside0.mk (blk_drew BK142.out)
        replace BK143 := Aside0.mk (blk_drew BK143.out)
        replace BK144 := Aside0.mk (blk_drew BK144.out)
        replace HB := Aside0.mk (below_drew1 HB.out)
        refine start_ (n := 7) (S := fun w' => w'.cell? ⟨gb141, 0, none⟩ = some (.int .i64 a0_0) ∧ w'.cell? ⟨gb141, 1, none⟩ = some (.int .i64 x142001_3) ∧ w'.cell? ⟨gb141, 2, none⟩ = some (.int .i64 a0_2) ∧ w'.cell? ⟨gb141, 3, none⟩ = some (.int .i64 a0_3) ∧ w'.cell? ⟨gb142, 0, none⟩ = some (.int .i64 x143000_23) ∧ w'.cell? ⟨gb142, 1, none⟩ = some (.int .i64 a1_1) ∧ w'.cell? ⟨gb142, 2, none⟩ = some (.int .i64 a1_2) ∧ w'.cell? ⟨gb142, 3, none⟩ = some (.int .i64 a1_3)) (ds := []) #[false, false, false, false, false, false, false] (by kernel_rfl) rfl rfl ⟨(blk_cell BK141.out 0).trans rfl, (blk_cell BK141.out 1).trans rfl, (blk_cell BK141.out 2).trans rfl, (blk_cell BK141.out 3).trans rfl, (blk_cell BK142.out 0).trans rfl, (blk_cell BK142.out 1).trans rfl, (blk_cell BK142.out 2).trans rfl, (blk_cell BK142.out 3).trans rfl⟩ (fun hHeld => ?_)
        generalize wc.drew = w85 at BK141 BK142 BK143 BK144 HB hHeld ⊢
        refine tz 0 57 ?_
        refine tz 2 59 ?_
        refine oz 1 58 fun K hK => ?_
        refine gz Try.func12 #[.agg #[.int .i64 a0_0, .int .i64 x142001_3, .int .i64 a0_2, .int .i64 a0_3]] ?_
        with_reducible refine (spec_l2Tidy.calls kj39 a0_0 x142001_3 a0_2 a0_3 t147 t148 t149 t150 _ A83.out).mono ?_
        rintro e w86 ⟨rfl, hb⟩
        refine ⟨_, rfl, ?_⟩
        replace BK141 := zb BK141 hb rfl
        replace BK142 := zb BK142 hb rfl
        replace BK143 := zb BK143 hb rfl
        replace BK144 := zb BK144 hb rfl
        replace HB := zS hb
        try clear hb
        refine hK.out _ _ ⟨(blk_cell BK141.out 0).trans rfl, (blk_cell BK141.out 1).trans rfl, (blk_cell BK141.out 2).trans rfl, (blk_cell BK141.out 3).trans rfl, (blk_cell BK142.out 0).trans rfl, (blk_cell BK142.out 1).trans rfl, (blk_cell BK142.out 2).trans rfl, (blk_cell BK142.out 3).trans rfl⟩ (fun hHeld => ?_)
        clear hK K
        refine nz ?_
        refine oz 3 60 fun K hK => ?_
        refine gz Try.func12 #[.agg #[.int .i64 x143000_23, .int .i64 a1_1, .int .i64 a1_2, .int .i64 a1_3]] ?_
        with_reducible refine (spec_l2Tidy.calls kj39 x143000_23 a1_1 a1_2 a1_3 t151 t152 t153 t154 _ A84.out).mono ?_
        rintro e w87 ⟨rfl, hb⟩
        refine ⟨_, rfl, ?_⟩
        replace BK141 := zb BK141 hb rfl
        replace BK142 := zb BK142 hb rfl
        replace BK143 := zb BK143 hb rfl
        replace BK144 := zb BK144 hb rfl
        replace HB := zS hb
        try clear hb
        refine hK.out _ _ ⟨(blk_cell BK141.out 0).trans rfl, (blk_cell BK141.out 1).trans rfl, (blk_cell BK141.out 2).trans rfl, (blk_cell BK141.out 3).trans rfl, (blk_cell BK142.out 0).trans rfl, (blk_cell BK142.out 1).trans rfl, (blk_cell BK142.out 2).trans rfl, (blk_cell BK142.out 3).trans rfl⟩ (fun hHeld => ?_)
        clear hK K
        refine nz ?_
        refine oN 4 fun K hK => ?_
        have hs88 : w87.cell? ⟨gb143, 0, none⟩ = some (.int .i64 0) := (blk_cell BK143.out 0).trans rfl
        have hfs88 := blk_frozen BK143.out 0
        have hns88_0 := NB141_143.out
        have hns88_1 := NB142_143.out
        have hns88_3 := NB144_143.out
        have hms88_0 := NB143_141.out
        have hms88_1 := NB143_142.out
        have hms88_3 := NB143_144.out
        have hs89 : w87.cell? ⟨gb143, 1, none⟩ = some (.int .i64 0) := (blk_cell BK143.out 1).trans rfl
        have hfs89 := blk_frozen BK143.out 1
        have hns89_0 := NB141_143.out
        have hns89_1 := NB142_143.out
        have hns89_3 := NB144_143.out
        have hms89_0 := NB143_141.out
        have hms89_1 := NB143_142.out
        have hms89_3 := NB143_144.out
        have hs90 : w87.cell? ⟨gb143, 2, none⟩ = some (.int .i64 0) := (blk_cell BK143.out 2).trans rfl
        have hfs90 := blk_frozen BK143.out 2
        have hns90_0 := NB141_143.out
        have hns90_1 := NB142_143.out
        have hns90_3 := NB144_143.out
        have hms90_0 := NB143_141.out
        have hms90_1 := NB143_142.out
        have hms90_3 := NB143_144.out
        have hs91 : w87.cell? ⟨gb143, 3, none⟩ = some (.int .i64 0) := (blk_cell BK143.out 3).trans rfl
        have hfs91 := blk_frozen BK143.out 3
        have hns91_0 := NB141_143.out
        have hns91_1 := NB142_143.out
        have hns91_3 := NB144_143.out
        have hms91_0 := NB143_141.out
        have hms91_1 := NB143_142.out
        have hms91_3 := NB143_144.out
        refine skip_ (w1 := ?_) (by rfl) rfl ?_ ?_
        rotate_left
        ·go_simp
         rfl
        refine hK.out _ _ ⟨((cell_far (p := ⟨gb143, _, none⟩) NB141_143.out _).trans (((cell_far (p := ⟨gb143, _, none⟩) NB141_143.out _).trans (((cell_far (p := ⟨gb143, _, none⟩) NB141_143.out _).trans (((cell_far (p := ⟨gb143, _, none⟩) NB141_143.out _).trans (hHeld.1)))))))), ((cell_far (p := ⟨gb143, _, none⟩) NB141_143.out _).trans (((cell_far (p := ⟨gb143, _, none⟩) NB141_143.out _).trans (((cell_far (p := ⟨gb143, _, none⟩) NB141_143.out _).trans (((cell_far (p := ⟨gb143, _, none⟩) NB141_143.out _).trans (hHeld.2.1)))))))), ((cell_far (p := ⟨gb143, _, none⟩) NB141_143.out _).trans (((cell_far (p := ⟨gb143, _, none⟩) NB141_143.out _).trans (((cell_far (p := ⟨gb143, _, none⟩) NB141_143.out _).trans (((cell_far (p := ⟨gb143, _, none⟩) NB141_143.out _).trans (hHeld.2.2.1)))))))), ((cell_far (p := ⟨gb143, _, none⟩) NB141_143.out _).trans (((cell_far (p := ⟨gb143, _, none⟩) NB141_143.out _).trans (((cell_far (p := ⟨gb143, _, none⟩) NB141_143.out _).trans (((cell_far (p := ⟨gb143, _, none⟩) NB141_143.out _).trans (hHeld.2.2.2.1)))))))), ((cell_far (p := ⟨gb143, _, none⟩) NB142_143.out _).trans (((cell_far (p := ⟨gb143, _, none⟩) NB142_143.out _).trans (((cell_far (p := ⟨gb143, _, none⟩) NB142_143.out _).trans (((cell_far (p := ⟨gb143, _, none⟩) NB142_143.out _).trans (hHeld.2.2.2.2.1)))))))), ((cell_far (p := ⟨gb143, _, none⟩) NB142_143.out _).trans (((cell_far (p := ⟨gb143, _, none⟩) NB142_143.out _).trans (((cell_far (p := ⟨gb143, _, none⟩) NB142_143.out _).trans (((cell_far (p := ⟨gb143, _, none⟩) NB142_143.out _).trans (hHeld.2.2.2.2.2.1)))))))), ((cell_far (p := ⟨gb143, _, none⟩) NB142_143.out _).trans (((cell_far (p := ⟨gb143, _, none⟩) NB142_143.out _).trans (((cell_far (p := ⟨gb143, _, none⟩) NB142_143.out _).trans (((cell_far (p := ⟨gb143, _, none⟩) NB142_143.out _).trans (hHeld.2.2.2.2.2.2.1)))))))), ((cell_far (p := ⟨gb143, _, none⟩) NB142_143.out _).trans (((cell_far (p := ⟨gb143, _, none⟩) NB142_143.out _).trans (((cell_far (p := ⟨gb143, _, none⟩) NB142_143.out _).trans (((cell_far (p := ⟨gb143, _, none⟩) NB142_143.out _).trans (hHeld.2.2.2.2.2.2.2))))))))⟩ (fun hHeld => ?_)
        clear hK K
        refine oN 5 fun K hK => ?_
        have hs92 : w87.cell? ⟨gb144, 0, none⟩ = some (.int .i64 0) := (blk_cell BK144.out 0).trans rfl
        have hfs92 := blk_frozen BK144.out 0
        have hns92_0 := NB141_144.out
        have hns92_1 := NB142_144.out
        have hns92_2 := NB143_144.out
        have hms92_0 := NB144_141.out
        have hms92_1 := NB144_142.out
        have hms92_2 := NB144_143.out
        have hs93 : w87.cell? ⟨gb144, 1, none⟩ = some (.int .i64 0) := (blk_cell BK144.out 1).trans rfl
        have hfs93 := blk_frozen BK144.out 1
        have hns93_0 := NB141_144.out
        have hns93_1 := NB142_144.out
        have hns93_2 := NB143_144.out
        have hms93_0 := NB144_141.out
        have hms93_1 := NB144_142.out
        have hms93_2 := NB144_143.out
        have hs94 : w87.cell? ⟨gb144, 2, none⟩ = some (.int .i64 0) := (blk_cell BK144.out 2).trans rfl
        have hfs94 := blk_frozen BK144.out 2
        have hns94_0 := NB141_144.out
        have hns94_1 := NB142_144.out
        have hns94_2 := NB143_144.out
        have hms94_0 := NB144_141.out
        have hms94_1 := NB144_142.out
        have hms94_2 := NB144_143.out
        have hs95 : w87.cell? ⟨gb144, 3, none⟩ = some (.int .i64 0) := (blk_cell BK144.out 3).trans rfl
        have hfs95 := blk_frozen BK144.out 3
        have hns95_0 := NB141_144.out
        have hns95_1 := NB142_144.out
        have hns95_2 := NB143_144.out
        have hms95_0 := NB144_141.out
        have hms95_1 := NB144_142.out
        have hms95_2 := NB144_143.out
        refine skip_ (w1 := ?_) (by rfl) rfl ?_ ?_
        rotate_left
        ·go_simp
         rfl
        refine hK.out _ _ ⟨((cell_far (p := ⟨gb144, _, none⟩) NB141_144.out _).trans (((cell_far (p := ⟨gb144, _, none⟩) NB141_144.out _).trans (((cell_far (p := ⟨gb144, _, none⟩) NB141_144.out _).trans (((cell_far (p := ⟨gb144, _, none⟩) NB141_144.out _).trans (hHeld.1)))))))), ((cell_far (p := ⟨gb144, _, none⟩) NB141_144.out _).trans (((cell_far (p := ⟨gb144, _, none⟩) NB141_144.out _).trans (((cell_far (p := ⟨gb144, _, none⟩) NB141_144.out _).trans (((cell_far (p := ⟨gb144, _, none⟩) NB141_144.out _).trans (hHeld.2.1)))))))), ((cell_far (p := ⟨gb144, _, none⟩) NB141_144.out _).trans (((cell_far (p := ⟨gb144, _, none⟩) NB141_144.out _).trans (((cell_far (p := ⟨gb144, _, none⟩) NB141_144.out _).trans (((cell_far (p := ⟨gb144, _, none⟩) NB141_144.out _).trans (hHeld.2.2.1)))))))), ((cell_far (p := ⟨gb144, _, none⟩) NB141_144.out _).trans (((cell_far (p := ⟨gb144, _, none⟩) NB141_144.out _).trans (((cell_far (p := ⟨gb144, _, none⟩) NB141_144.out _).trans (((cell_far (p := ⟨gb144, _, none⟩) NB141_144.out _).trans (hHeld.2.2.2.1)))))))), ((cell_far (p := ⟨gb144, _, none⟩) NB142_144.out _).trans (((cell_far (p := ⟨gb144, _, none⟩) NB142_144.out _).trans (((cell_far (p := ⟨gb144, _, none⟩) NB142_144.out _).trans (((cell_far (p := ⟨gb144, _, none⟩) NB142_144.out _).trans (hHeld.2.2.2.2.1)))))))), ((cell_far (p := ⟨gb144, _, none⟩) NB142_144.out _).trans (((cell_far (p := ⟨gb144, _, none⟩) NB142_144.out _).trans (((cell_far (p := ⟨gb144, _, none⟩) NB142_144.out _).trans (((cell_far (p := ⟨gb144, _, none⟩) NB142_144.out _).trans (hHeld.2.2.2.2.2.1)))))))), ((cell_far (p := ⟨gb144, _, none⟩) NB142_144.out _).trans (((cell_far (p := ⟨gb144, _, none⟩) NB142_144.out _).trans (((cell_far (p := ⟨gb144, _, none⟩) NB142_144.out _).trans (((cell_far (p := ⟨gb144, _, none⟩) NB142_144.out _).trans (hHeld.2.2.2.2.2.2.1)))))))), ((cell_far (p := ⟨gb144, _, none⟩) NB142_144.out _).trans (((cell_far (p := ⟨gb144, _, none⟩) NB142_144.out _).trans (((cell_far (p := ⟨gb144, _, none⟩) NB142_144.out _).trans (((cell_far (p := ⟨gb144, _, none⟩) NB142_144.out _).trans (hHeld.2.2.2.2.2.2.2))))))))⟩ (fun hHeld => ?_)
        clear hK K
        refine pz 6 8 ?_
        refine done_ (by kernel_rfl) ?_
        try go_wp2
        refine bodyPost_ret (results_list (rs := [.cell 6 24, .cell 7 24, .tmp 8]) rfl (by simp) (.cell gb143 24 #[.int .i64 t147, .int .i64 t148, .int .i64 t149, .int .i64 t150] (0, 0) _ rfl (by refine fq ?_ NB143_144.out; refine fq ?_ NB143_144.out; refine fq ?_ NB143_144.out; refine fq ?_ NB143_144.out; refine bq ?_; refine blk_put (cs := #[.int .i64 t147, .int .i64 t148, .int .i64 t149, .int .i64 0]) ?_ 3 _ rfl; refine bq ?_; refine blk_put (cs := #[.int .i64 t147, .int .i64 t148, .int .i64 0, .int .i64 0]) ?_ 2 _ rfl; refine bq ?_; refine blk_put (cs := #[.int .i64 t147, .int .i64 0, .int .i64 0, .int .i64 0]) ?_ 1 _ rfl; refine bq ?_; refine blk_put (cs := #[.int .i64 0, .int .i64 0, .int .i64 0, .int .i64 0]) ?_ 0 _ rfl; exact bq BK143.out) Try.underlying24 rfl (by kernel_rfl) (.cell gb144 24 #[.int .i64 t151, .int .i64 t152, .int .i64 t153, .int .i64 t154] (0, 0) _ rfl (by refine bq ?_; refine blk_put (cs := #[.int .i64 t151, .int .i64 t152, .int .i64 t153, .int .i64 0]) ?_ 3 _ rfl; refine bq ?_; refine blk_put (cs := #[.int .i64 t151, .int .i64 t152, .int .i64 0, .int .i64 0]) ?_ 2 _ rfl; refine bq ?_; refine blk_put (cs := #[.int .i64 t151, .int .i64 0, .int .i64 0, .int .i64 0]) ?_ 1 _ rfl; refine bq ?_; refine blk_put (cs := #[.int .i64 0, .int .i64 0, .int .i64 0, .int .i64 0]) ?_ 0 _ rfl; refine fq ?_ NB144_143.out; refine fq ?_ NB144_143.out; refine fq ?_ NB144_143.out; refine fq ?_ NB144_143.out; exact bq BK144.out) Try.underlying24 rfl (by kernel_rfl) (.tmp .nil)))) rfl ?_
        exact ⟨zR, zB⟩

end Go.Proofs.Ytjengfiaphgjbaa.Q
