/- The machine's side of this seat's laws: Go functions as Lean functions, and their contracts. By a program of this work over the kit's print. -/
import Derived.Test.YtjengfiaphgjbaaQ0
import Derived.Test.YtjengfiaphgjbaaQ4
import Derived.Test.YtjengfiaphgjbaaQ5
namespace Go.Proofs.Ytjengfiaphgjbaa.Q
open Go.RowKit Go.Proofs.YtjengfiaphgjbaaW.PrintWords Go.Proofs.YtjengfiaphgjbaaW.PrintLast Go.Proofs.YtjengfiaphgjbaaW.PrintMore
attribute [local go_sem] max2_int min2_int max_two min_two max_three min_three max_four min_four Go.Proofs.YtjengfiaphgjbaaN.not_i64 Go.Proofs.YtjengfiaphgjbaaN.isSome_setCell   -- for this text's walks alone
set_option linter.unusedVariables false
set_option linter.unusedSimpArgs false

/-! ### spec_l2Branch: function 11 -/
mutual
def spec_l2Branch.j0 : Nat → Int → Bool → Bool → Int → Int → Int → Int → Int → Int → Int → Int → Option (Int × Int × Int × Int × Int × Int × Int × Int × Bool)
 | 0, _, _, _, _, _, _, _, _, _, _, _ => none
 | k + 1, x0, x3, x23, x156000, x156001, x156002, x156003, x157000, x157001, x157002, x157003 => if x23 = true then ((spec_l2Meet.f k x156000 x156001 x156002 x156003 x157000 x157001 x157002 x157003).bind fun bt159 => (some (bt159.1, bt159.2.1, bt159.2.2.1, bt159.2.2.2.1, bt159.1, bt159.2.1, bt159.2.2.1, bt159.2.2.2.1, bt159.2.2.2.2))) else (if x0 ≤ 13 then ((spec_l2Apart.f k x156000 x156001 x156002 x156003 x157000 x157001 x157002 x157003).bind fun bt165 => ((spec_l2Apart.f k x157000 x157001 x157002 x157003 x156000 x156001 x156002 x156003).bind fun bt171 => (if bt165.2.2.2.2 = true then (if bt171.2.2.2.2 = true then (some (bt165.1, bt165.2.1, bt165.2.2.1, bt165.2.2.2.1, bt171.1, bt171.2.1, bt171.2.2.1, bt171.2.2.2.1, true)) else (some (1, 0, 0, 0, 1, 0, 0, 0, false))) else (some (1, 0, 0, 0, 1, 0, 0, 0, false))))) else (if x0 = 14 then (spec_l2Branch.j1 k x0 x3 x3 x156000 x156001 x156002 x156003 x157000 x157001 x157002 x157003) else (spec_l2Branch.j1 k x0 x3 false x156000 x156001 x156002 x156003 x157000 x157001 x157002 x157003)))
def spec_l2Branch.j1 : Nat → Int → Bool → Bool → Int → Int → Int → Int → Int → Int → Int → Int → Option (Int × Int × Int × Int × Int × Int × Int × Int × Bool)
 | 0, _, _, _, _, _, _, _, _, _, _, _ => none
 | k + 1, x0, x3, x66, x156000, x156001, x156002, x156003, x157000, x157001, x157002, x157003 => if x66 = true then ((spec_l2Below.f k x156000 x156001 x156002 x156003 x157000 x157001 x157002 x157003 1).bind fun bt177 => (some (bt177.1, bt177.2.1, bt177.2.2.1, bt177.2.2.2.1, bt177.2.2.2.2.1, bt177.2.2.2.2.2.1, bt177.2.2.2.2.2.2.1, bt177.2.2.2.2.2.2.2.1, bt177.2.2.2.2.2.2.2.2))) else (if x0 = 15 then (spec_l2Branch.j2 k x0 (!x3) x156000 x156001 x156002 x156003 x157000 x157001 x157002 x157003) else (spec_l2Branch.j2 k x0 false x156000 x156001 x156002 x156003 x157000 x157001 x157002 x157003))
def spec_l2Branch.j2 : Nat → Int → Bool → Int → Int → Int → Int → Int → Int → Int → Int → Option (Int × Int × Int × Int × Int × Int × Int × Int × Bool)
 | 0, _, _, _, _, _, _, _, _, _, _ => none
 | k + 1, x0, x78, x156000, x156001, x156002, x156003, x157000, x157001, x157002, x157003 => if x78 = true then ((spec_l2Below.f k x156000 x156001 x156002 x156003 x157000 x157001 x157002 x157003 0).bind fun bt186 => (some (bt186.1, bt186.2.1, bt186.2.2.1, bt186.2.2.2.1, bt186.2.2.2.2.1, bt186.2.2.2.2.2.1, bt186.2.2.2.2.2.2.1, bt186.2.2.2.2.2.2.2.1, bt186.2.2.2.2.2.2.2.2))) else (if x0 = 14 then ((spec_l2Below.f k x157000 x157001 x157002 x157003 x156000 x156001 x156002 x156003 0).bind fun bt195 => (some (bt195.2.2.2.2.1, bt195.2.2.2.2.2.1, bt195.2.2.2.2.2.2.1, bt195.2.2.2.2.2.2.2.1, bt195.1, bt195.2.1, bt195.2.2.1, bt195.2.2.2.1, bt195.2.2.2.2.2.2.2.2))) else ((spec_l2Below.f k x157000 x157001 x157002 x157003 x156000 x156001 x156002 x156003 1).bind fun bt206 => (some (bt206.2.2.2.2.1, bt206.2.2.2.2.2.1, bt206.2.2.2.2.2.2.1, bt206.2.2.2.2.2.2.2.1, bt206.1, bt206.2.1, bt206.2.2.1, bt206.2.2.2.1, bt206.2.2.2.2.2.2.2.2))))
end
def spec_l2Branch.f (k : Nat) (a0 : Int) (a1_0 : Int) (a1_1 : Int) (a1_2 : Int) (a1_3 : Int) (a2_0 : Int) (a2_1 : Int) (a2_2 : Int) (a2_3 : Int) (a3 : Bool) : Option (Int × Int × Int × Int × Int × Int × Int × Int × Bool) := if ((a0 == 12) == a3) = true then (spec_l2Branch.j0 k a0 a3 (decide (a0 ≤ 13)) a1_0 a1_1 a1_2 a1_3 a2_0 a2_1 a2_2 a2_3) else (spec_l2Branch.j0 k a0 a3 false a1_0 a1_1 a1_2 a1_3 a2_0 a2_1 a2_2 a2_3)


set_option maxHeartbeats 8000000 in
set_option maxRecDepth 100000 in
theorem spec_l2Branch.calls (k : Nat) (a0 : Int) (a1_0 : Int) (a1_1 : Int) (a1_2 : Int) (a1_3 : Int) (a2_0 : Int) (a2_1 : Int) (a2_2 : Int) (a2_3 : Int) (a3 : Bool) (r1 : Int) (r2 : Int) (r3 : Int) (r4 : Int) (r5 : Int) (r6 : Int) (r7 : Int) (r8 : Int) (r9 : Bool) (w : World) (h : spec_l2Branch.f k a0 a1_0 a1_1 a1_2 a1_3 a2_0 a2_1 a2_2 a2_3 a3 = some (r1, r2, r3, r4, r5, r6, r7, r8, r9)) :
  Calls Try.prog 11 #[.int .i64 a0, .agg #[.int .i64 a1_0, .int .i64 a1_1, .int .i64 a1_2, .int .i64 a1_3], .agg #[.int .i64 a2_0, .int .i64 a2_1, .int .i64 a2_2, .int .i64 a2_3], .bool a3] w fun e w' => e = .returned (.tuple #[.agg #[.int .i64 r1, .int .i64 r2, .int .i64 r3, .int .i64 r4], .agg #[.int .i64 r5, .int .i64 r6, .int .i64 r7, .int .i64 r8], .bool r9]) ∧ Below w.heap.size w w' := by
 have hu24 := Try.underlying24
 have HB := Aside0.mk (Below.refl w.heap.size w)
 have H : (if ((a0 == 12) == a3) = true then (spec_l2Branch.j0 k a0 a3 (decide (a0 ≤ 13)) a1_0 a1_1 a1_2 a1_3 a2_0 a2_1 a2_2 a2_3) else (spec_l2Branch.j0 k a0 a3 false a1_0 a1_1 a1_2 a1_3 a2_0 a2_1 a2_2 a2_3)) = some (r1, r2, r3, r4, r5, r6, r7, r8, r9) := h
 clear h
 have HC5 := Aside0.mk H
 clear H
 go_enter Try.func11, Try.ntmps11
 go_upto_region 1 with (first | ((with_reducible refine gate_dst (N := 5) rfl ?_); refine be 5 #[.int .i64 a1_0, .int .i64 a1_1, .int .i64 a1_2, .int .i64 a1_3] 24 ?_; intro gb155 hg w6 hbox hb; have BK155 := Aside0.mk hbox; have GW155 := zW hg; replace HB := zS hb; have GE155 := GW155; clear hb hbox hg) | ((with_reducible refine gate_dst (N := 6) rfl ?_); refine be 6 #[.int .i64 a2_0, .int .i64 a2_1, .int .i64 a2_2, .int .i64 a2_3] 24 ?_; intro gb156 hg w7 hbox hb; have BK156 := Aside0.mk hbox; have GW156 := zW hg; replace HB := zS hb; have GE156 := GW156; have NB155_156 := zl BK155 hg rfl; have NB156_155 := zg BK155 hg rfl; replace BK155 := zb BK155 hb rfl; clear hb hbox hg) | ((with_reducible refine gate_dst (N := 8) rfl ?_); refine be 8 #[.int .i64 0, .int .i64 0, .int .i64 0, .int .i64 0] 24 ?_; intro gb157 hg w8 hbox hb; have BK157 := Aside0.mk hbox; have GW157 := zW hg; replace HB := zS hb; have GE157 := GW157; have NB155_157 := zl BK155 hg rfl; have NB157_155 := zg BK155 hg rfl; replace BK155 := zb BK155 hb rfl; have NB156_157 := zl BK156 hg rfl; have NB157_156 := zg BK156 hg rfl; replace BK156 := zb BK156 hb rfl; clear hb hbox hg) | ((with_reducible refine gate_dst (N := 9) rfl ?_); refine be 9 #[.int .i64 0, .int .i64 0, .int .i64 0, .int .i64 0] 24 ?_; intro gb158 hg w9 hbox hb; have BK158 := Aside0.mk hbox; have GW158 := zW hg; replace HB := zS hb; have GE158 := GW158; have NB155_158 := zl BK155 hg rfl; have NB158_155 := zg BK155 hg rfl; replace BK155 := zb BK155 hb rfl; have NB156_158 := zl BK156 hg rfl; have NB158_156 := zg BK156 hg rfl; replace BK156 := zb BK156 hb rfl; have NB157_158 := zl BK157 hg rfl; have NB158_157 := zg BK157 hg rfl; replace BK157 := zb BK157 hb rfl; clear hb hbox hg))
 (try simp only [Act.put, List.setIfInBounds_toArray, List.set_cons_zero, List.set_cons_succ])
 go_cut [23] (fun v23 wc => ∃ (kq : Nat) (x23_4 : Bool), v23 = .bool x23_4 ∧ Aside0 (spec_l2Branch.j0 kq a0 a3 x23_4 a1_0 a1_1 a1_2 a1_3 a2_0 a2_1 a2_2 a2_3 = some (r1, r2, r3, r4, r5, r6, r7, r8, r9)) ∧ Aside0 (kq ≤ k) ∧ Aside0 (wc.heap[gb155]? = some (.cells #[.int .i64 a1_0, .int .i64 a1_1, .int .i64 a1_2, .int .i64 a1_3] 24 (0, 0))) ∧ Aside0 (wc.heap[gb156]? = some (.cells #[.int .i64 a2_0, .int .i64 a2_1, .int .i64 a2_2, .int .i64 a2_3] 24 (0, 0))) ∧ Aside0 (wc.heap[gb157]? = some (.cells #[.int .i64 0, .int .i64 0, .int .i64 0, .int .i64 0] 24 (0, 0))) ∧ Aside0 (wc.heap[gb158]? = some (.cells #[.int .i64 0, .int .i64 0, .int .i64 0, .int .i64 0] 24 (0, 0))) ∧ Aside0 (Below w.heap.size w wc))
 case first =>
  have H := HC5.out
  clear HC5
  by_cases c10 : ((a0 == 12) == a3) = true
  ·rw [if_pos c10] at H
   have c10b0 : ((a0 == 12) == a3) = true := c10
   (try (have c10b1 : decide ((a0 == 12) = a3) = true := by simpa using c10))
   (try (have c10b2 : ((a0 == 12) == a3) = true := by simpa using c10))
   clear c10
   (first | rw [c10b0] | (simp only [i64_w, i32_w]; rw [c10b0]) | skip)
   have H' := Aside0.mk H
   clear H
   go_wp2
   go_meet
   case rel => exact ⟨_, (decide (a0 ≤ 13)), (by first | rfl | (simp; done) | (simp [*]; done)), H', ⟨by first | omega | exact Nat.le_refl _⟩, ⟨by exact bq BK155.out⟩, ⟨by exact bq BK156.out⟩, ⟨by exact bq BK157.out⟩, ⟨by exact bq BK158.out⟩, ⟨zB⟩⟩
  ·rw [if_neg c10] at H
   have c10b0 : ((a0 == 12) == a3) = false := by simpa using c10
   (try (have c10b1 : decide ((a0 == 12) = a3) = false := by simpa using c10))
   (try (have c10b2 : ((a0 == 12) == a3) = false := by simpa using c10))
   (try (have c10b3 : ¬ ((a0 == 12) = a3) := by simpa using c10))
   clear c10
   (first | rw [c10b0] | (simp only [i64_w, i32_w]; rw [c10b0]) | skip)
   have H' := Aside0.mk H
   clear H
   go_wp2
   go_meet
   case rel => exact ⟨_, (false), (by first | rfl | (simp; done) | (simp [*]; done)), H', ⟨by first | omega | exact Nat.le_refl _⟩, ⟨by exact bq BK155.out⟩, ⟨by exact bq BK156.out⟩, ⟨by exact bq BK157.out⟩, ⟨by exact bq BK158.out⟩, ⟨zB⟩⟩
 case rest =>
  clear HC5
  try clear c1
  try clear p2
  try clear c10
  try clear c10b0
  try clear c10b1
  try clear c10b2
  obtain ⟨kq, x23_4, rfl, HA, HJ4, BK155, BK156, BK157, BK158, HB⟩ := hcut
  cases kq with
  | zero => exact absurd HA.out (by simp [spec_l2Branch.j0])
  | succ kj4 =>
   have H := HA.out
   clear HA
   simp only [spec_l2Branch.j0] at H
   by_cases c11 : x23_4 = true
   ·subst c11
    rw [if_pos rfl] at H
    replace H := Option.bind_eq_some_iff.mp H
    obtain ⟨⟨t159, t160, t161, t162, t163⟩, A120, H⟩ := H
    try dsimp only at H
    have A12 := Aside0.mk A120
    clear A120
    simp only [Option.some.injEq, Prod.mk.injEq] at H
    obtain ⟨rfl, rfl, rfl, rfl, rfl, rfl, rfl, rfl, rfl⟩ := H
    have hnb13 := NB155_156.out
    have hnc13 := NB156_155.out
    have hnb14 := NB155_157.out
    have hnc14 := NB157_155.out
    have hnb15 := NB155_158.out
    have hnc15 := NB158_155.out
    obtain ⟨hcz16_0, hcz16_1, hcz16_2, hcz16_3, hfz16_0, hfz16_1, hfz16_2, hfz16_3⟩ := zc4 BK155
    have hnb17 := NB156_157.out
    have hnc17 := NB157_156.out
    have hnb18 := NB156_158.out
    have hnc18 := NB158_156.out
    obtain ⟨hcz19_0, hcz19_1, hcz19_2, hcz19_3, hfz19_0, hfz19_1, hfz19_2, hfz19_3⟩ := zc4 BK156
    try go_wp2_with (first | ((with_reducible refine gate_callee (f := 20) rfl ?_); refine gl 35 Try.func20 #[.agg #[.int .i64 a1_0, .int .i64 a1_1, .int .i64 a1_2, .int .i64 a1_3], .agg #[.int .i64 a2_0, .int .i64 a2_1, .int .i64 a2_2, .int .i64 a2_3]] ?_; (with_reducible refine (spec_l2Meet.calls kj4 a1_0 a1_1 a1_2 a1_3 a2_0 a2_1 a2_2 a2_3 t159 t160 t161 t162 t163 _ A12.out).mono ?_); rintro e w20 ⟨rfl, hb⟩; refine ⟨_, rfl, ?_⟩; replace BK155 := zb BK155 hb rfl; replace BK156 := zb BK156 hb rfl; replace BK157 := zb BK157 hb rfl; replace BK158 := zb BK158 hb rfl; replace HB := zS hb; try clear hb) | ((with_reducible refine gate_dst (N := 11) rfl ?_); refine be 11 #[.int .i64 0, .int .i64 0, .int .i64 0, .int .i64 0] 24 ?_; intro gb164 hg w21 hbox hb; have BK164 := Aside0.mk hbox; have GW164 := zW hg; replace HB := zS hb; have GE164 := GW164; have NB155_164 := zl BK155 hg rfl; have NB164_155 := zg BK155 hg rfl; replace BK155 := zb BK155 hb rfl; have NB156_164 := zl BK156 hg rfl; have NB164_156 := zg BK156 hg rfl; replace BK156 := zb BK156 hb rfl; have NB157_164 := zl BK157 hg rfl; have NB164_157 := zg BK157 hg rfl; replace BK157 := zb BK157 hb rfl; have NB158_164 := zl BK158 hg rfl; have NB164_158 := zg BK158 hg rfl; replace BK158 := zb BK158 hb rfl; clear hb hbox hg; have hnb22 := NB164_155.out; have hnc22 := NB155_164.out; have hnb23 := NB164_156.out; have hnc23 := NB156_164.out; have hnb24 := NB164_157.out; have hnc24 := NB157_164.out; have hnb25 := NB164_158.out; have hnc25 := NB158_164.out; obtain ⟨hcz26_0, hcz26_1, hcz26_2, hcz26_3, hfz26_0, hfz26_1, hfz26_2, hfz26_3⟩ := zc4 BK164))
    have n0_ : Aside0 (((((w21.setCell ⟨gb164, 0, none⟩ (.int .i64 t159)).setCell ⟨gb164, 1, none⟩ (.int .i64 t160)).setCell ⟨gb164, 2, none⟩ (.int .i64 t161)).setCell ⟨gb164, 3, none⟩ (.int .i64 t162)).heap[gb155]? = some (.cells #[.int .i64 a1_0, .int .i64 a1_1, .int .i64 a1_2, .int .i64 a1_3] 24 (0, 0))) := ⟨by refine fq ?_ NB155_164.out; refine fq ?_ NB155_164.out; refine fq ?_ NB155_164.out; refine fq ?_ NB155_164.out; exact bq BK155.out⟩
    have n1_ : Aside0 (((((w21.setCell ⟨gb164, 0, none⟩ (.int .i64 t159)).setCell ⟨gb164, 1, none⟩ (.int .i64 t160)).setCell ⟨gb164, 2, none⟩ (.int .i64 t161)).setCell ⟨gb164, 3, none⟩ (.int .i64 t162)).heap[gb156]? = some (.cells #[.int .i64 a2_0, .int .i64 a2_1, .int .i64 a2_2, .int .i64 a2_3] 24 (0, 0))) := ⟨by refine fq ?_ NB156_164.out; refine fq ?_ NB156_164.out; refine fq ?_ NB156_164.out; refine fq ?_ NB156_164.out; exact bq BK156.out⟩
    have n2_ : Aside0 (((((w21.setCell ⟨gb164, 0, none⟩ (.int .i64 t159)).setCell ⟨gb164, 1, none⟩ (.int .i64 t160)).setCell ⟨gb164, 2, none⟩ (.int .i64 t161)).setCell ⟨gb164, 3, none⟩ (.int .i64 t162)).heap[gb157]? = some (.cells #[.int .i64 0, .int .i64 0, .int .i64 0, .int .i64 0] 24 (0, 0))) := ⟨by refine fq ?_ NB157_164.out; refine fq ?_ NB157_164.out; refine fq ?_ NB157_164.out; refine fq ?_ NB157_164.out; exact bq BK157.out⟩
    have n3_ : Aside0 (((((w21.setCell ⟨gb164, 0, none⟩ (.int .i64 t159)).setCell ⟨gb164, 1, none⟩ (.int .i64 t160)).setCell ⟨gb164, 2, none⟩ (.int .i64 t161)).setCell ⟨gb164, 3, none⟩ (.int .i64 t162)).heap[gb158]? = some (.cells #[.int .i64 0, .int .i64 0, .int .i64 0, .int .i64 0] 24 (0, 0))) := ⟨by refine fq ?_ NB158_164.out; refine fq ?_ NB158_164.out; refine fq ?_ NB158_164.out; refine fq ?_ NB158_164.out; exact bq BK158.out⟩
    have n4_ : Aside0 (((((w21.setCell ⟨gb164, 0, none⟩ (.int .i64 t159)).setCell ⟨gb164, 1, none⟩ (.int .i64 t160)).setCell ⟨gb164, 2, none⟩ (.int .i64 t161)).setCell ⟨gb164, 3, none⟩ (.int .i64 t162)).heap[gb164]? = some (.cells #[.int .i64 t159, .int .i64 t160, .int .i64 t161, .int .i64 t162] 24 (0, 0))) := ⟨by refine bq ?_; refine blk_put (cs := #[.int .i64 t159, .int .i64 t160, .int .i64 t161, .int .i64 0]) ?_ 3 _ rfl; refine bq ?_; refine blk_put (cs := #[.int .i64 t159, .int .i64 t160, .int .i64 0, .int .i64 0]) ?_ 2 _ rfl; refine bq ?_; refine blk_put (cs := #[.int .i64 t159, .int .i64 0, .int .i64 0, .int .i64 0]) ?_ 1 _ rfl; refine bq ?_; refine blk_put (cs := #[.int .i64 0, .int .i64 0, .int .i64 0, .int .i64 0]) ?_ 0 _ rfl; exact bq BK164.out⟩
    have n5_ : Aside0 (Below w.heap.size w ((((w21.setCell ⟨gb164, 0, none⟩ (.int .i64 t159)).setCell ⟨gb164, 1, none⟩ (.int .i64 t160)).setCell ⟨gb164, 2, none⟩ (.int .i64 t161)).setCell ⟨gb164, 3, none⟩ (.int .i64 t162))) := ⟨zB⟩
    (try clear BK155)
    (try clear BK156)
    (try clear BK157)
    (try clear BK158)
    (try clear BK164)
    (try clear HB)
    generalize ((((w21.setCell ⟨gb164, 0, none⟩ (.int .i64 t159)).setCell ⟨gb164, 1, none⟩ (.int .i64 t160)).setCell ⟨gb164, 2, none⟩ (.int .i64 t161)).setCell ⟨gb164, 3, none⟩ (.int .i64 t162)) = w27 at n0_ n1_ n2_ n3_ n4_ n5_ ⊢
    have BK155 := n0_
    have BK156 := n1_
    have BK157 := n2_
    have BK158 := n3_
    have BK164 := n4_
    have HB := n5_
    clear n0_ n1_ n2_ n3_ n4_ n5_
    replace BK155 := Aside0.mk (blk_drew BK155.out)
    replace BK156 := Aside0.mk (blk_drew BK156.out)
    replace BK157 := Aside0.mk (blk_drew BK157.out)
    replace BK158 := Aside0.mk (blk_drew BK158.out)
    replace BK164 := Aside0.mk (blk_drew BK164.out)
    replace HB := Aside0.mk (below_drew1 HB.out)
    refine start_ (n := 6) (S := fun w' => w'.cell? ⟨gb164, 0, none⟩ = some (.int .i64 t159) ∧ w'.cell? ⟨gb164, 1, none⟩ = some (.int .i64 t160) ∧ w'.cell? ⟨gb164, 2, none⟩ = some (.int .i64 t161) ∧ w'.cell? ⟨gb164, 3, none⟩ = some (.int .i64 t162)) (ds := []) #[false, false, false, false, false, false] (by kernel_rfl) rfl rfl ⟨(blk_cell BK164.out 0).trans rfl, (blk_cell BK164.out 1).trans rfl, (blk_cell BK164.out 2).trans rfl, (blk_cell BK164.out 3).trans rfl⟩ (fun hHeld => ?_)
    generalize w27.drew = w28 at BK155 BK156 BK157 BK158 BK164 HB hHeld ⊢
    refine pz 2 40 ?_
    refine tz 0 38 ?_
    refine tz 1 39 ?_
    refine oN 3 fun K hK => ?_
    have hs29 : w28.cell? ⟨gb157, 0, none⟩ = some (.int .i64 0) := (blk_cell BK157.out 0).trans rfl
    have hfs29 := blk_frozen BK157.out 0
    have hns29_0 := NB155_157.out
    have hns29_1 := NB156_157.out
    have hns29_3 := NB158_157.out
    have hns29_4 := NB164_157.out
    have hms29_0 := NB157_155.out
    have hms29_1 := NB157_156.out
    have hms29_3 := NB157_158.out
    have hms29_4 := NB157_164.out
    have hs30 : w28.cell? ⟨gb157, 1, none⟩ = some (.int .i64 0) := (blk_cell BK157.out 1).trans rfl
    have hfs30 := blk_frozen BK157.out 1
    have hns30_0 := NB155_157.out
    have hns30_1 := NB156_157.out
    have hns30_3 := NB158_157.out
    have hns30_4 := NB164_157.out
    have hms30_0 := NB157_155.out
    have hms30_1 := NB157_156.out
    have hms30_3 := NB157_158.out
    have hms30_4 := NB157_164.out
    have hs31 : w28.cell? ⟨gb157, 2, none⟩ = some (.int .i64 0) := (blk_cell BK157.out 2).trans rfl
    have hfs31 := blk_frozen BK157.out 2
    have hns31_0 := NB155_157.out
    have hns31_1 := NB156_157.out
    have hns31_3 := NB158_157.out
    have hns31_4 := NB164_157.out
    have hms31_0 := NB157_155.out
    have hms31_1 := NB157_156.out
    have hms31_3 := NB157_158.out
    have hms31_4 := NB157_164.out
    have hs32 : w28.cell? ⟨gb157, 3, none⟩ = some (.int .i64 0) := (blk_cell BK157.out 3).trans rfl
    have hfs32 := blk_frozen BK157.out 3
    have hns32_0 := NB155_157.out
    have hns32_1 := NB156_157.out
    have hns32_3 := NB158_157.out
    have hns32_4 := NB164_157.out
    have hms32_0 := NB157_155.out
    have hms32_1 := NB157_156.out
    have hms32_3 := NB157_158.out
    have hms32_4 := NB157_164.out
    refine skip_ (w1 := ?_) (by rfl) rfl ?_ ?_
    rotate_left
    ·go_simp
     rfl
    refine hK.out _ _ ⟨((cell_far (p := ⟨gb157, _, none⟩) NB164_157.out _).trans (((cell_far (p := ⟨gb157, _, none⟩) NB164_157.out _).trans (((cell_far (p := ⟨gb157, _, none⟩) NB164_157.out _).trans (((cell_far (p := ⟨gb157, _, none⟩) NB164_157.out _).trans (hHeld.1)))))))), ((cell_far (p := ⟨gb157, _, none⟩) NB164_157.out _).trans (((cell_far (p := ⟨gb157, _, none⟩) NB164_157.out _).trans (((cell_far (p := ⟨gb157, _, none⟩) NB164_157.out _).trans (((cell_far (p := ⟨gb157, _, none⟩) NB164_157.out _).trans (hHeld.2.1)))))))), ((cell_far (p := ⟨gb157, _, none⟩) NB164_157.out _).trans (((cell_far (p := ⟨gb157, _, none⟩) NB164_157.out _).trans (((cell_far (p := ⟨gb157, _, none⟩) NB164_157.out _).trans (((cell_far (p := ⟨gb157, _, none⟩) NB164_157.out _).trans (hHeld.2.2.1)))))))), ((cell_far (p := ⟨gb157, _, none⟩) NB164_157.out _).trans (((cell_far (p := ⟨gb157, _, none⟩) NB164_157.out _).trans (((cell_far (p := ⟨gb157, _, none⟩) NB164_157.out _).trans (((cell_far (p := ⟨gb157, _, none⟩) NB164_157.out _).trans (hHeld.2.2.2))))))))⟩ (fun hHeld => ?_)
    clear hK K
    refine oN 4 fun K hK => ?_
    have hs33 : w28.cell? ⟨gb158, 0, none⟩ = some (.int .i64 0) := (blk_cell BK158.out 0).trans rfl
    have hfs33 := blk_frozen BK158.out 0
    have hns33_0 := NB155_158.out
    have hns33_1 := NB156_158.out
    have hns33_2 := NB157_158.out
    have hns33_4 := NB164_158.out
    have hms33_0 := NB158_155.out
    have hms33_1 := NB158_156.out
    have hms33_2 := NB158_157.out
    have hms33_4 := NB158_164.out
    have hs34 : w28.cell? ⟨gb158, 1, none⟩ = some (.int .i64 0) := (blk_cell BK158.out 1).trans rfl
    have hfs34 := blk_frozen BK158.out 1
    have hns34_0 := NB155_158.out
    have hns34_1 := NB156_158.out
    have hns34_2 := NB157_158.out
    have hns34_4 := NB164_158.out
    have hms34_0 := NB158_155.out
    have hms34_1 := NB158_156.out
    have hms34_2 := NB158_157.out
    have hms34_4 := NB158_164.out
    have hs35 : w28.cell? ⟨gb158, 2, none⟩ = some (.int .i64 0) := (blk_cell BK158.out 2).trans rfl
    have hfs35 := blk_frozen BK158.out 2
    have hns35_0 := NB155_158.out
    have hns35_1 := NB156_158.out
    have hns35_2 := NB157_158.out
    have hns35_4 := NB164_158.out
    have hms35_0 := NB158_155.out
    have hms35_1 := NB158_156.out
    have hms35_2 := NB158_157.out
    have hms35_4 := NB158_164.out
    have hs36 : w28.cell? ⟨gb158, 3, none⟩ = some (.int .i64 0) := (blk_cell BK158.out 3).trans rfl
    have hfs36 := blk_frozen BK158.out 3
    have hns36_0 := NB155_158.out
    have hns36_1 := NB156_158.out
    have hns36_2 := NB157_158.out
    have hns36_4 := NB164_158.out
    have hms36_0 := NB158_155.out
    have hms36_1 := NB158_156.out
    have hms36_2 := NB158_157.out
    have hms36_4 := NB158_164.out
    refine skip_ (w1 := ?_) (by rfl) rfl ?_ ?_
    rotate_left
    ·go_simp
     rfl
    refine hK.out _ _ ⟨((cell_far (p := ⟨gb158, _, none⟩) NB164_158.out _).trans (((cell_far (p := ⟨gb158, _, none⟩) NB164_158.out _).trans (((cell_far (p := ⟨gb158, _, none⟩) NB164_158.out _).trans (((cell_far (p := ⟨gb158, _, none⟩) NB164_158.out _).trans (hHeld.1)))))))), ((cell_far (p := ⟨gb158, _, none⟩) NB164_158.out _).trans (((cell_far (p := ⟨gb158, _, none⟩) NB164_158.out _).trans (((cell_far (p := ⟨gb158, _, none⟩) NB164_158.out _).trans (((cell_far (p := ⟨gb158, _, none⟩) NB164_158.out _).trans (hHeld.2.1)))))))), ((cell_far (p := ⟨gb158, _, none⟩) NB164_158.out _).trans (((cell_far (p := ⟨gb158, _, none⟩) NB164_158.out _).trans (((cell_far (p := ⟨gb158, _, none⟩) NB164_158.out _).trans (((cell_far (p := ⟨gb158, _, none⟩) NB164_158.out _).trans (hHeld.2.2.1)))))))), ((cell_far (p := ⟨gb158, _, none⟩) NB164_158.out _).trans (((cell_far (p := ⟨gb158, _, none⟩) NB164_158.out _).trans (((cell_far (p := ⟨gb158, _, none⟩) NB164_158.out _).trans (((cell_far (p := ⟨gb158, _, none⟩) NB164_158.out _).trans (hHeld.2.2.2))))))))⟩ (fun hHeld => ?_)
    clear hK K
    refine pz 5 10 ?_
    refine done_ (by kernel_rfl) ?_
    try go_wp2
    refine bodyPost_ret (results_list (rs := [.cell 8 24, .cell 9 24, .tmp 10]) rfl (by simp) (.cell gb157 24 #[.int .i64 t159, .int .i64 t160, .int .i64 t161, .int .i64 t162] (0, 0) _ rfl (by refine fq ?_ NB157_158.out; refine fq ?_ NB157_158.out; refine fq ?_ NB157_158.out; refine fq ?_ NB157_158.out; refine bq ?_; refine blk_put (cs := #[.int .i64 t159, .int .i64 t160, .int .i64 t161, .int .i64 0]) ?_ 3 _ rfl; refine bq ?_; refine blk_put (cs := #[.int .i64 t159, .int .i64 t160, .int .i64 0, .int .i64 0]) ?_ 2 _ rfl; refine bq ?_; refine blk_put (cs := #[.int .i64 t159, .int .i64 0, .int .i64 0, .int .i64 0]) ?_ 1 _ rfl; refine bq ?_; refine blk_put (cs := #[.int .i64 0, .int .i64 0, .int .i64 0, .int .i64 0]) ?_ 0 _ rfl; exact bq BK157.out) Try.underlying24 rfl (by kernel_rfl) (.cell gb158 24 #[.int .i64 t159, .int .i64 t160, .int .i64 t161, .int .i64 t162] (0, 0) _ rfl (by refine bq ?_; refine blk_put (cs := #[.int .i64 t159, .int .i64 t160, .int .i64 t161, .int .i64 0]) ?_ 3 _ rfl; refine bq ?_; refine blk_put (cs := #[.int .i64 t159, .int .i64 t160, .int .i64 0, .int .i64 0]) ?_ 2 _ rfl; refine bq ?_; refine blk_put (cs := #[.int .i64 t159, .int .i64 0, .int .i64 0, .int .i64 0]) ?_ 1 _ rfl; refine bq ?_; refine blk_put (cs := #[.int .i64 0, .int .i64 0, .int .i64 0, .int .i64 0]) ?_ 0 _ rfl; refine fq ?_ NB158_157.out; refine fq ?_ NB158_157.out; refine fq ?_ NB158_157.out; refine fq ?_ NB158_157.out; exact bq BK158.out) Try.underlying24 rfl (by kernel_rfl) (.tmp .nil)))) rfl ?_
    exact ⟨zR, zB⟩
   ·replace c11 := Bool.eq_false_iff.mpr c11
    subst c11
    rw [if_neg (show ¬ (false = true) by decide)] at H
    by_cases c37 : a0 ≤ 13
    ·rw [if_pos c37] at H
     have c37b0 : decide (a0 ≤ 13) = true := decide_eq_true c37
     clear c37
     replace H := Option.bind_eq_some_iff.mp H
     obtain ⟨⟨t165, t166, t167, t168, t169⟩, A380, H⟩ := H
     try dsimp only at H
     have A38 := Aside0.mk A380
     clear A380
     replace H := Option.bind_eq_some_iff.mp H
     obtain ⟨⟨t171, t172, t173, t174, t175⟩, A390, H⟩ := H
     try dsimp only at H
     have A39 := Aside0.mk A390
     clear A390
     by_cases c40 : t169 = true
     ·subst c40
      rw [if_pos rfl] at H
      by_cases c41 : t175 = true
      ·subst c41
       rw [if_pos rfl] at H
       simp only [Option.some.injEq, Prod.mk.injEq] at H
       obtain ⟨rfl, rfl, rfl, rfl, rfl, rfl, rfl, rfl, rfl⟩ := H
       have hnb42 := NB155_156.out
       have hnc42 := NB156_155.out
       have hnb43 := NB155_157.out
       have hnc43 := NB157_155.out
       have hnb44 := NB155_158.out
       have hnc44 := NB158_155.out
       obtain ⟨hcz45_0, hcz45_1, hcz45_2, hcz45_3, hfz45_0, hfz45_1, hfz45_2, hfz45_3⟩ := zc4 BK155
       have hnb46 := NB156_157.out
       have hnc46 := NB157_156.out
       have hnb47 := NB156_158.out
       have hnc47 := NB158_156.out
       obtain ⟨hcz48_0, hcz48_1, hcz48_2, hcz48_3, hfz48_0, hfz48_1, hfz48_2, hfz48_3⟩ := zc4 BK156
       try go_wp2_with (first | ((with_reducible refine gate_callee (f := 21) rfl ?_); refine gl 47 Try.func21 #[.agg #[.int .i64 a1_0, .int .i64 a1_1, .int .i64 a1_2, .int .i64 a1_3], .agg #[.int .i64 a2_0, .int .i64 a2_1, .int .i64 a2_2, .int .i64 a2_3]] ?_; (with_reducible refine (spec_l2Apart.calls kj4 a1_0 a1_1 a1_2 a1_3 a2_0 a2_1 a2_2 a2_3 t165 t166 t167 t168 true _ A38.out).mono ?_); rintro e w49 ⟨rfl, hb⟩; refine ⟨_, rfl, ?_⟩; replace BK155 := zb BK155 hb rfl; replace BK156 := zb BK156 hb rfl; replace BK157 := zb BK157 hb rfl; replace BK158 := zb BK158 hb rfl; replace HB := zS hb; try clear hb) | ((with_reducible refine gate_dst (N := 13) rfl ?_); refine be 13 #[.int .i64 0, .int .i64 0, .int .i64 0, .int .i64 0] 24 ?_; intro gb170 hg w50 hbox hb; have BK170 := Aside0.mk hbox; have GW170 := zW hg; replace HB := zS hb; have GE170 := GW170; have NB155_170 := zl BK155 hg rfl; have NB170_155 := zg BK155 hg rfl; replace BK155 := zb BK155 hb rfl; have NB156_170 := zl BK156 hg rfl; have NB170_156 := zg BK156 hg rfl; replace BK156 := zb BK156 hb rfl; have NB157_170 := zl BK157 hg rfl; have NB170_157 := zg BK157 hg rfl; replace BK157 := zb BK157 hb rfl; have NB158_170 := zl BK158 hg rfl; have NB170_158 := zg BK158 hg rfl; replace BK158 := zb BK158 hb rfl; clear hb hbox hg; have hnb51 := NB170_155.out; have hnc51 := NB155_170.out; have hnb52 := NB170_156.out; have hnc52 := NB156_170.out; have hnb53 := NB170_157.out; have hnc53 := NB157_170.out; have hnb54 := NB170_158.out; have hnc54 := NB158_170.out; obtain ⟨hcz55_0, hcz55_1, hcz55_2, hcz55_3, hfz55_0, hfz55_1, hfz55_2, hfz55_3⟩ := zc4 BK170; obtain ⟨hcz56_0, hcz56_1, hcz56_2, hcz56_3, hfz56_0, hfz56_1, hfz56_2, hfz56_3⟩ := zc4 BK156; obtain ⟨hcz57_0, hcz57_1, hcz57_2, hcz57_3, hfz57_0, hfz57_1, hfz57_2, hfz57_3⟩ := zc4 BK155) | ((with_reducible refine gate_callee (f := 21) rfl ?_); refine gl 53 Try.func21 #[.agg #[.int .i64 a2_0, .int .i64 a2_1, .int .i64 a2_2, .int .i64 a2_3], .agg #[.int .i64 a1_0, .int .i64 a1_1, .int .i64 a1_2, .int .i64 a1_3]] ?_; (with_reducible refine (spec_l2Apart.calls kj4 a2_0 a2_1 a2_2 a2_3 a1_0 a1_1 a1_2 a1_3 t171 t172 t173 t174 true _ A39.out).mono ?_); rintro e w58 ⟨rfl, hb⟩; refine ⟨_, rfl, ?_⟩; replace BK155 := Aside0.mk (blk_below (g := gb155) (o := .cells #[.int .i64 a1_0, .int .i64 a1_1, .int .i64 a1_2, .int .i64 a1_3] 24 (0, 0)) (by refine fq ?_ NB155_170.out; refine fq ?_ NB155_170.out; refine fq ?_ NB155_170.out; refine fq ?_ NB155_170.out; exact bq BK155.out) hb); replace BK156 := Aside0.mk (blk_below (g := gb156) (o := .cells #[.int .i64 a2_0, .int .i64 a2_1, .int .i64 a2_2, .int .i64 a2_3] 24 (0, 0)) (by refine fq ?_ NB156_170.out; refine fq ?_ NB156_170.out; refine fq ?_ NB156_170.out; refine fq ?_ NB156_170.out; exact bq BK156.out) hb); replace BK157 := Aside0.mk (blk_below (g := gb157) (o := .cells #[.int .i64 0, .int .i64 0, .int .i64 0, .int .i64 0] 24 (0, 0)) (by refine fq ?_ NB157_170.out; refine fq ?_ NB157_170.out; refine fq ?_ NB157_170.out; refine fq ?_ NB157_170.out; exact bq BK157.out) hb); replace BK158 := Aside0.mk (blk_below (g := gb158) (o := .cells #[.int .i64 0, .int .i64 0, .int .i64 0, .int .i64 0] 24 (0, 0)) (by refine fq ?_ NB158_170.out; refine fq ?_ NB158_170.out; refine fq ?_ NB158_170.out; refine fq ?_ NB158_170.out; exact bq BK158.out) hb); replace BK170 := Aside0.mk (blk_below (g := gb170) (o := .cells #[.int .i64 t165, .int .i64 t166, .int .i64 t167, .int .i64 t168] 24 (0, 0)) (by refine bq ?_; refine blk_put (cs := #[.int .i64 t165, .int .i64 t166, .int .i64 t167, .int .i64 0]) ?_ 3 _ rfl; refine bq ?_; refine blk_put (cs := #[.int .i64 t165, .int .i64 t166, .int .i64 0, .int .i64 0]) ?_ 2 _ rfl; refine bq ?_; refine blk_put (cs := #[.int .i64 t165, .int .i64 0, .int .i64 0, .int .i64 0]) ?_ 1 _ rfl; refine bq ?_; refine blk_put (cs := #[.int .i64 0, .int .i64 0, .int .i64 0, .int .i64 0]) ?_ 0 _ rfl; exact bq BK170.out) hb); replace HB := zS hb; try clear hb) | ((with_reducible refine gate_dst (N := 15) rfl ?_); refine be 15 #[.int .i64 0, .int .i64 0, .int .i64 0, .int .i64 0] 24 ?_; intro gb176 hg w59 hbox hb; have BK176 := Aside0.mk hbox; have GW176 := zW hg; replace HB := zS hb; have GE176 := GW176; have NB155_176 := zl BK155 hg rfl; have NB176_155 := zg BK155 hg rfl; replace BK155 := zb BK155 hb rfl; have NB156_176 := zl BK156 hg rfl; have NB176_156 := zg BK156 hg rfl; replace BK156 := zb BK156 hb rfl; have NB157_176 := zl BK157 hg rfl; have NB176_157 := zg BK157 hg rfl; replace BK157 := zb BK157 hb rfl; have NB158_176 := zl BK158 hg rfl; have NB176_158 := zg BK158 hg rfl; replace BK158 := zb BK158 hb rfl; have NB170_176 := zl BK170 hg rfl; have NB176_170 := zg BK170 hg rfl; replace BK170 := zb BK170 hb rfl; clear hb hbox hg; have hnb60 := NB176_155.out; have hnc60 := NB155_176.out; have hnb61 := NB176_156.out; have hnc61 := NB156_176.out; have hnb62 := NB176_157.out; have hnc62 := NB157_176.out; have hnb63 := NB176_158.out; have hnc63 := NB158_176.out; have hnb64 := NB176_170.out; have hnc64 := NB170_176.out; obtain ⟨hcz65_0, hcz65_1, hcz65_2, hcz65_3, hfz65_0, hfz65_1, hfz65_2, hfz65_3⟩ := zc4 BK176))
       have n0_ : Aside0 (((((w59.setCell ⟨gb176, 0, none⟩ (.int .i64 t171)).setCell ⟨gb176, 1, none⟩ (.int .i64 t172)).setCell ⟨gb176, 2, none⟩ (.int .i64 t173)).setCell ⟨gb176, 3, none⟩ (.int .i64 t174)).heap[gb155]? = some (.cells #[.int .i64 a1_0, .int .i64 a1_1, .int .i64 a1_2, .int .i64 a1_3] 24 (0, 0))) := ⟨by refine fq ?_ NB155_176.out; refine fq ?_ NB155_176.out; refine fq ?_ NB155_176.out; refine fq ?_ NB155_176.out; exact bq BK155.out⟩
       have n1_ : Aside0 (((((w59.setCell ⟨gb176, 0, none⟩ (.int .i64 t171)).setCell ⟨gb176, 1, none⟩ (.int .i64 t172)).setCell ⟨gb176, 2, none⟩ (.int .i64 t173)).setCell ⟨gb176, 3, none⟩ (.int .i64 t174)).heap[gb156]? = some (.cells #[.int .i64 a2_0, .int .i64 a2_1, .int .i64 a2_2, .int .i64 a2_3] 24 (0, 0))) := ⟨by refine fq ?_ NB156_176.out; refine fq ?_ NB156_176.out; refine fq ?_ NB156_176.out; refine fq ?_ NB156_176.out; exact bq BK156.out⟩
       have n2_ : Aside0 (((((w59.setCell ⟨gb176, 0, none⟩ (.int .i64 t171)).setCell ⟨gb176, 1, none⟩ (.int .i64 t172)).setCell ⟨gb176, 2, none⟩ (.int .i64 t173)).setCell ⟨gb176, 3, none⟩ (.int .i64 t174)).heap[gb157]? = some (.cells #[.int .i64 0, .int .i64 0, .int .i64 0, .int .i64 0] 24 (0, 0))) := ⟨by refine fq ?_ NB157_176.out; refine fq ?_ NB157_176.out; refine fq ?_ NB157_176.out; refine fq ?_ NB157_176.out; exact bq BK157.out⟩
       have n3_ : Aside0 (((((w59.setCell ⟨gb176, 0, none⟩ (.int .i64 t171)).setCell ⟨gb176, 1, none⟩ (.int .i64 t172)).setCell ⟨gb176, 2, none⟩ (.int .i64 t173)).setCell ⟨gb176, 3, none⟩ (.int .i64 t174)).heap[gb158]? = some (.cells #[.int .i64 0, .int .i64 0, .int .i64 0, .int .i64 0] 24 (0, 0))) := ⟨by refine fq ?_ NB158_176.out; refine fq ?_ NB158_176.out; refine fq ?_ NB158_176.out; refine fq ?_ NB158_176.out; exact bq BK158.out⟩
       have n4_ : Aside0 (((((w59.setCell ⟨gb176, 0, none⟩ (.int .i64 t171)).setCell ⟨gb176, 1, none⟩ (.int .i64 t172)).setCell ⟨gb176, 2, none⟩ (.int .i64 t173)).setCell ⟨gb176, 3, none⟩ (.int .i64 t174)).heap[gb170]? = some (.cells #[.int .i64 t165, .int .i64 t166, .int .i64 t167, .int .i64 t168] 24 (0, 0))) := ⟨by refine fq ?_ NB170_176.out; refine fq ?_ NB170_176.out; refine fq ?_ NB170_176.out; refine fq ?_ NB170_176.out; exact bq BK170.out⟩
       have n5_ : Aside0 (((((w59.setCell ⟨gb176, 0, none⟩ (.int .i64 t171)).setCell ⟨gb176, 1, none⟩ (.int .i64 t172)).setCell ⟨gb176, 2, none⟩ (.int .i64 t173)).setCell ⟨gb176, 3, none⟩ (.int .i64 t174)).heap[gb176]? = some (.cells #[.int .i64 t171, .int .i64 t172, .int .i64 t173, .int .i64 t174] 24 (0, 0))) := ⟨by refine bq ?_; refine blk_put (cs := #[.int .i64 t171, .int .i64 t172, .int .i64 t173, .int .i64 0]) ?_ 3 _ rfl; refine bq ?_; refine blk_put (cs := #[.int .i64 t171, .int .i64 t172, .int .i64 0, .int .i64 0]) ?_ 2 _ rfl; refine bq ?_; refine blk_put (cs := #[.int .i64 t171, .int .i64 0, .int .i64 0, .int .i64 0]) ?_ 1 _ rfl; refine bq ?_; refine blk_put (cs := #[.int .i64 0, .int .i64 0, .int .i64 0, .int .i64 0]) ?_ 0 _ rfl; exact bq BK176.out⟩
       have n6_ : Aside0 (Below w.heap.size w ((((w59.setCell ⟨gb176, 0, none⟩ (.int .i64 t171)).setCell ⟨gb176, 1, none⟩ (.int .i64 t172)).setCell ⟨gb176, 2, none⟩ (.int .i64 t173)).setCell ⟨gb176, 3, none⟩ (.int .i64 t174))) := ⟨zB⟩
       (try clear BK155)
       (try clear BK156)
       (try clear BK157)
       (try clear BK158)
       (try clear BK170)
       (try clear BK176)
       (try clear HB)
       generalize ((((w59.setCell ⟨gb176, 0, none⟩ (.int .i64 t171)).setCell ⟨gb176, 1, none⟩ (.int .i64 t172)).setCell ⟨gb176, 2, none⟩ (.int .i64 t173)).setCell ⟨gb176, 3, none⟩ (.int .i64 t174)) = w66 at n0_ n1_ n2_ n3_ n4_ n5_ n6_ ⊢
       have BK155 := n0_
       have BK156 := n1_
       have BK157 := n2_
       have BK158 := n3_
       have BK170 := n4_
       have BK176 := n5_
       have HB := n6_
       clear n0_ n1_ n2_ n3_ n4_ n5_ n6_
       replace BK155 := Aside0.mk (blk_drew BK155.out)
       replace BK156 := Aside0.mk (blk_drew BK156.out)
       replace BK157 := Aside0.mk (blk_drew BK157.out)
       replace BK158 := Aside0.mk (blk_drew BK158.out)
       replace BK170 := Aside0.mk (blk_drew BK170.out)
       replace BK176 := Aside0.mk (blk_drew BK176.out)
       replace HB := Aside0.mk (below_drew1 HB.out)
       refine start_ (n := 5) (S := fun w' => w'.cell? ⟨gb170, 0, none⟩ = some (.int .i64 t165) ∧ w'.cell? ⟨gb170, 1, none⟩ = some (.int .i64 t166) ∧ w'.cell? ⟨gb170, 2, none⟩ = some (.int .i64 t167) ∧ w'.cell? ⟨gb170, 3, none⟩ = some (.int .i64 t168) ∧ w'.cell? ⟨gb176, 0, none⟩ = some (.int .i64 t171) ∧ w'.cell? ⟨gb176, 1, none⟩ = some (.int .i64 t172) ∧ w'.cell? ⟨gb176, 2, none⟩ = some (.int .i64 t173) ∧ w'.cell? ⟨gb176, 3, none⟩ = some (.int .i64 t174)) (ds := []) #[false, false, false, false, false] (by kernel_rfl) rfl rfl ⟨(blk_cell BK170.out 0).trans rfl, (blk_cell BK170.out 1).trans rfl, (blk_cell BK170.out 2).trans rfl, (blk_cell BK170.out 3).trans rfl, (blk_cell BK176.out 0).trans rfl, (blk_cell BK176.out 1).trans rfl, (blk_cell BK176.out 2).trans rfl, (blk_cell BK176.out 3).trans rfl⟩ (fun hHeld => ?_)
       generalize w66.drew = w67 at BK155 BK156 BK157 BK158 BK170 BK176 HB hHeld ⊢
       refine tz 0 64 ?_
       refine tz 1 65 ?_
       refine oN 2 fun K hK => ?_
       have hs68 : w67.cell? ⟨gb157, 0, none⟩ = some (.int .i64 0) := (blk_cell BK157.out 0).trans rfl
       have hfs68 := blk_frozen BK157.out 0
       have hns68_0 := NB155_157.out
       have hns68_1 := NB156_157.out
       have hns68_3 := NB158_157.out
       have hns68_4 := NB170_157.out
       have hns68_5 := NB176_157.out
       have hms68_0 := NB157_155.out
       have hms68_1 := NB157_156.out
       have hms68_3 := NB157_158.out
       have hms68_4 := NB157_170.out
       have hms68_5 := NB157_176.out
       have hs69 : w67.cell? ⟨gb157, 1, none⟩ = some (.int .i64 0) := (blk_cell BK157.out 1).trans rfl
       have hfs69 := blk_frozen BK157.out 1
       have hns69_0 := NB155_157.out
       have hns69_1 := NB156_157.out
       have hns69_3 := NB158_157.out
       have hns69_4 := NB170_157.out
       have hns69_5 := NB176_157.out
       have hms69_0 := NB157_155.out
       have hms69_1 := NB157_156.out
       have hms69_3 := NB157_158.out
       have hms69_4 := NB157_170.out
       have hms69_5 := NB157_176.out
       have hs70 : w67.cell? ⟨gb157, 2, none⟩ = some (.int .i64 0) := (blk_cell BK157.out 2).trans rfl
       have hfs70 := blk_frozen BK157.out 2
       have hns70_0 := NB155_157.out
       have hns70_1 := NB156_157.out
       have hns70_3 := NB158_157.out
       have hns70_4 := NB170_157.out
       have hns70_5 := NB176_157.out
       have hms70_0 := NB157_155.out
       have hms70_1 := NB157_156.out
       have hms70_3 := NB157_158.out
       have hms70_4 := NB157_170.out
       have hms70_5 := NB157_176.out
       have hs71 : w67.cell? ⟨gb157, 3, none⟩ = some (.int .i64 0) := (blk_cell BK157.out 3).trans rfl
       have hfs71 := blk_frozen BK157.out 3
       have hns71_0 := NB155_157.out
       have hns71_1 := NB156_157.out
       have hns71_3 := NB158_157.out
       have hns71_4 := NB170_157.out
       have hns71_5 := NB176_157.out
       have hms71_0 := NB157_155.out
       have hms71_1 := NB157_156.out
       have hms71_3 := NB157_158.out
       have hms71_4 := NB157_170.out
       have hms71_5 := NB157_176.out
       refine skip_ (w1 := ?_) (by rfl) rfl ?_ ?_
       rotate_left
       ·go_simp
        rfl
       refine hK.out _ _ ⟨((cell_far (p := ⟨gb157, _, none⟩) NB170_157.out _).trans (((cell_far (p := ⟨gb157, _, none⟩) NB170_157.out _).trans (((cell_far (p := ⟨gb157, _, none⟩) NB170_157.out _).trans (((cell_far (p := ⟨gb157, _, none⟩) NB170_157.out _).trans (hHeld.1)))))))), ((cell_far (p := ⟨gb157, _, none⟩) NB170_157.out _).trans (((cell_far (p := ⟨gb157, _, none⟩) NB170_157.out _).trans (((cell_far (p := ⟨gb157, _, none⟩) NB170_157.out _).trans (((cell_far (p := ⟨gb157, _, none⟩) NB170_157.out _).trans (hHeld.2.1)))))))), ((cell_far (p := ⟨gb157, _, none⟩) NB170_157.out _).trans (((cell_far (p := ⟨gb157, _, none⟩) NB170_157.out _).trans (((cell_far (p := ⟨gb157, _, none⟩) NB170_157.out _).trans (((cell_far (p := ⟨gb157, _, none⟩) NB170_157.out _).trans (hHeld.2.2.1)))))))), ((cell_far (p := ⟨gb157, _, none⟩) NB170_157.out _).trans (((cell_far (p := ⟨gb157, _, none⟩) NB170_157.out _).trans (((cell_far (p := ⟨gb157, _, none⟩) NB170_157.out _).trans (((cell_far (p := ⟨gb157, _, none⟩) NB170_157.out _).trans (hHeld.2.2.2.1)))))))), ((cell_far (p := ⟨gb157, _, none⟩) NB176_157.out _).trans (((cell_far (p := ⟨gb157, _, none⟩) NB176_157.out _).trans (((cell_far (p := ⟨gb157, _, none⟩) NB176_157.out _).trans (((cell_far (p := ⟨gb157, _, none⟩) NB176_157.out _).trans (hHeld.2.2.2.2.1)))))))), ((cell_far (p := ⟨gb157, _, none⟩) NB176_157.out _).trans (((cell_far (p := ⟨gb157, _, none⟩) NB176_157.out _).trans (((cell_far (p := ⟨gb157, _, none⟩) NB176_157.out _).trans (((cell_far (p := ⟨gb157, _, none⟩) NB176_157.out _).trans (hHeld.2.2.2.2.2.1)))))))), ((cell_far (p := ⟨gb157, _, none⟩) NB176_157.out _).trans (((cell_far (p := ⟨gb157, _, none⟩) NB176_157.out _).trans (((cell_far (p := ⟨gb157, _, none⟩) NB176_157.out _).trans (((cell_far (p := ⟨gb157, _, none⟩) NB176_157.out _).trans (hHeld.2.2.2.2.2.2.1)))))))), ((cell_far (p := ⟨gb157, _, none⟩) NB176_157.out _).trans (((cell_far (p := ⟨gb157, _, none⟩) NB176_157.out _).trans (((cell_far (p := ⟨gb157, _, none⟩) NB176_157.out _).trans (((cell_far (p := ⟨gb157, _, none⟩) NB176_157.out _).trans (hHeld.2.2.2.2.2.2.2))))))))⟩ (fun hHeld => ?_)
       clear hK K
       refine oN 3 fun K hK => ?_
       have hs72 : w67.cell? ⟨gb158, 0, none⟩ = some (.int .i64 0) := (blk_cell BK158.out 0).trans rfl
       have hfs72 := blk_frozen BK158.out 0
       have hns72_0 := NB155_158.out
       have hns72_1 := NB156_158.out
       have hns72_2 := NB157_158.out
       have hns72_4 := NB170_158.out
       have hns72_5 := NB176_158.out
       have hms72_0 := NB158_155.out
       have hms72_1 := NB158_156.out
       have hms72_2 := NB158_157.out
       have hms72_4 := NB158_170.out
       have hms72_5 := NB158_176.out
       have hs73 : w67.cell? ⟨gb158, 1, none⟩ = some (.int .i64 0) := (blk_cell BK158.out 1).trans rfl
       have hfs73 := blk_frozen BK158.out 1
       have hns73_0 := NB155_158.out
       have hns73_1 := NB156_158.out
       have hns73_2 := NB157_158.out
       have hns73_4 := NB170_158.out
       have hns73_5 := NB176_158.out
       have hms73_0 := NB158_155.out
       have hms73_1 := NB158_156.out
       have hms73_2 := NB158_157.out
       have hms73_4 := NB158_170.out
       have hms73_5 := NB158_176.out
       have hs74 : w67.cell? ⟨gb158, 2, none⟩ = some (.int .i64 0) := (blk_cell BK158.out 2).trans rfl
       have hfs74 := blk_frozen BK158.out 2
       have hns74_0 := NB155_158.out
       have hns74_1 := NB156_158.out
       have hns74_2 := NB157_158.out
       have hns74_4 := NB170_158.out
       have hns74_5 := NB176_158.out
       have hms74_0 := NB158_155.out
       have hms74_1 := NB158_156.out
       have hms74_2 := NB158_157.out
       have hms74_4 := NB158_170.out
       have hms74_5 := NB158_176.out
       have hs75 : w67.cell? ⟨gb158, 3, none⟩ = some (.int .i64 0) := (blk_cell BK158.out 3).trans rfl
       have hfs75 := blk_frozen BK158.out 3
       have hns75_0 := NB155_158.out
       have hns75_1 := NB156_158.out
       have hns75_2 := NB157_158.out
       have hns75_4 := NB170_158.out
       have hns75_5 := NB176_158.out
       have hms75_0 := NB158_155.out
       have hms75_1 := NB158_156.out
       have hms75_2 := NB158_157.out
       have hms75_4 := NB158_170.out
       have hms75_5 := NB158_176.out
       refine skip_ (w1 := ?_) (by rfl) rfl ?_ ?_
       rotate_left
       ·go_simp
        rfl
       refine hK.out _ _ ⟨((cell_far (p := ⟨gb158, _, none⟩) NB170_158.out _).trans (((cell_far (p := ⟨gb158, _, none⟩) NB170_158.out _).trans (((cell_far (p := ⟨gb158, _, none⟩) NB170_158.out _).trans (((cell_far (p := ⟨gb158, _, none⟩) NB170_158.out _).trans (hHeld.1)))))))), ((cell_far (p := ⟨gb158, _, none⟩) NB170_158.out _).trans (((cell_far (p := ⟨gb158, _, none⟩) NB170_158.out _).trans (((cell_far (p := ⟨gb158, _, none⟩) NB170_158.out _).trans (((cell_far (p := ⟨gb158, _, none⟩) NB170_158.out _).trans (hHeld.2.1)))))))), ((cell_far (p := ⟨gb158, _, none⟩) NB170_158.out _).trans (((cell_far (p := ⟨gb158, _, none⟩) NB170_158.out _).trans (((cell_far (p := ⟨gb158, _, none⟩) NB170_158.out _).trans (((cell_far (p := ⟨gb158, _, none⟩) NB170_158.out _).trans (hHeld.2.2.1)))))))), ((cell_far (p := ⟨gb158, _, none⟩) NB170_158.out _).trans (((cell_far (p := ⟨gb158, _, none⟩) NB170_158.out _).trans (((cell_far (p := ⟨gb158, _, none⟩) NB170_158.out _).trans (((cell_far (p := ⟨gb158, _, none⟩) NB170_158.out _).trans (hHeld.2.2.2.1)))))))), ((cell_far (p := ⟨gb158, _, none⟩) NB176_158.out _).trans (((cell_far (p := ⟨gb158, _, none⟩) NB176_158.out _).trans (((cell_far (p := ⟨gb158, _, none⟩) NB176_158.out _).trans (((cell_far (p := ⟨gb158, _, none⟩) NB176_158.out _).trans (hHeld.2.2.2.2.1)))))))), ((cell_far (p := ⟨gb158, _, none⟩) NB176_158.out _).trans (((cell_far (p := ⟨gb158, _, none⟩) NB176_158.out _).trans (((cell_far (p := ⟨gb158, _, none⟩) NB176_158.out _).trans (((cell_far (p := ⟨gb158, _, none⟩) NB176_158.out _).trans (hHeld.2.2.2.2.2.1)))))))), ((cell_far (p := ⟨gb158, _, none⟩) NB176_158.out _).trans (((cell_far (p := ⟨gb158, _, none⟩) NB176_158.out _).trans (((cell_far (p := ⟨gb158, _, none⟩) NB176_158.out _).trans (((cell_far (p := ⟨gb158, _, none⟩) NB176_158.out _).trans (hHeld.2.2.2.2.2.2.1)))))))), ((cell_far (p := ⟨gb158, _, none⟩) NB176_158.out _).trans (((cell_far (p := ⟨gb158, _, none⟩) NB176_158.out _).trans (((cell_far (p := ⟨gb158, _, none⟩) NB176_158.out _).trans (((cell_far (p := ⟨gb158, _, none⟩) NB176_158.out _).trans (hHeld.2.2.2.2.2.2.2))))))))⟩ (fun hHeld => ?_)
       clear hK K
       refine pz 4 10 ?_
       refine done_ (by kernel_rfl) ?_
       try go_wp2
       refine bodyPost_ret (results_list (rs := [.cell 8 24, .cell 9 24, .tmp 10]) rfl (by simp) (.cell gb157 24 #[.int .i64 t165, .int .i64 t166, .int .i64 t167, .int .i64 t168] (0, 0) _ rfl (by refine fq ?_ NB157_158.out; refine fq ?_ NB157_158.out; refine fq ?_ NB157_158.out; refine fq ?_ NB157_158.out; refine bq ?_; refine blk_put (cs := #[.int .i64 t165, .int .i64 t166, .int .i64 t167, .int .i64 0]) ?_ 3 _ rfl; refine bq ?_; refine blk_put (cs := #[.int .i64 t165, .int .i64 t166, .int .i64 0, .int .i64 0]) ?_ 2 _ rfl; refine bq ?_; refine blk_put (cs := #[.int .i64 t165, .int .i64 0, .int .i64 0, .int .i64 0]) ?_ 1 _ rfl; refine bq ?_; refine blk_put (cs := #[.int .i64 0, .int .i64 0, .int .i64 0, .int .i64 0]) ?_ 0 _ rfl; exact bq BK157.out) Try.underlying24 rfl (by kernel_rfl) (.cell gb158 24 #[.int .i64 t171, .int .i64 t172, .int .i64 t173, .int .i64 t174] (0, 0) _ rfl (by refine bq ?_; refine blk_put (cs := #[.int .i64 t171, .int .i64 t172, .int .i64 t173, .int .i64 0]) ?_ 3 _ rfl; refine bq ?_; refine blk_put (cs := #[.int .i64 t171, .int .i64 t172, .int .i64 0, .int .i64 0]) ?_ 2 _ rfl; refine bq ?_; refine blk_put (cs := #[.int .i64 t171, .int .i64 0, .int .i64 0, .int .i64 0]) ?_ 1 _ rfl; refine bq ?_; refine blk_put (cs := #[.int .i64 0, .int .i64 0, .int .i64 0, .int .i64 0]) ?_ 0 _ rfl; refine fq ?_ NB158_157.out; refine fq ?_ NB158_157.out; refine fq ?_ NB158_157.out; refine fq ?_ NB158_157.out; exact bq BK158.out) Try.underlying24 rfl (by kernel_rfl) (.tmp .nil)))) rfl ?_
       exact ⟨zR, zB⟩
      ·replace c41 := Bool.eq_false_iff.mpr c41
       subst c41
       rw [if_neg (show ¬ (false = true) by decide)] at H
       simp only [Option.some.injEq, Prod.mk.injEq] at H
       obtain ⟨rfl, rfl, rfl, rfl, rfl, rfl, rfl, rfl, rfl⟩ := H
       have hnb76 := NB155_156.out
       have hnc76 := NB156_155.out
       have hnb77 := NB155_157.out
       have hnc77 := NB157_155.out
       have hnb78 := NB155_158.out
       have hnc78 := NB158_155.out
       obtain ⟨hcz79_0, hcz79_1, hcz79_2, hcz79_3, hfz79_0, hfz79_1, hfz79_2, hfz79_3⟩ := zc4 BK155
       have hnb80 := NB156_157.out
       have hnc80 := NB157_156.out
       have hnb81 := NB156_158.out
       have hnc81 := NB158_156.out
       obtain ⟨hcz82_0, hcz82_1, hcz82_2, hcz82_3, hfz82_0, hfz82_1, hfz82_2, hfz82_3⟩ := zc4 BK156
       go_wp2_with (first | ((with_reducible refine gate_callee (f := 21) rfl ?_); refine gl 47 Try.func21 #[.agg #[.int .i64 a1_0, .int .i64 a1_1, .int .i64 a1_2, .int .i64 a1_3], .agg #[.int .i64 a2_0, .int .i64 a2_1, .int .i64 a2_2, .int .i64 a2_3]] ?_; (with_reducible refine (spec_l2Apart.calls kj4 a1_0 a1_1 a1_2 a1_3 a2_0 a2_1 a2_2 a2_3 t165 t166 t167 t168 true _ A38.out).mono ?_); rintro e w83 ⟨rfl, hb⟩; refine ⟨_, rfl, ?_⟩; replace BK155 := zb BK155 hb rfl; replace BK156 := zb BK156 hb rfl; replace BK157 := zb BK157 hb rfl; replace BK158 := zb BK158 hb rfl; replace HB := zS hb; try clear hb) | ((with_reducible refine gate_dst (N := 13) rfl ?_); refine be 13 #[.int .i64 0, .int .i64 0, .int .i64 0, .int .i64 0] 24 ?_; intro gb170 hg w84 hbox hb; have BK170 := Aside0.mk hbox; have GW170 := zW hg; replace HB := zS hb; have GE170 := GW170; have NB155_170 := zl BK155 hg rfl; have NB170_155 := zg BK155 hg rfl; replace BK155 := zb BK155 hb rfl; have NB156_170 := zl BK156 hg rfl; have NB170_156 := zg BK156 hg rfl; replace BK156 := zb BK156 hb rfl; have NB157_170 := zl BK157 hg rfl; have NB170_157 := zg BK157 hg rfl; replace BK157 := zb BK157 hb rfl; have NB158_170 := zl BK158 hg rfl; have NB170_158 := zg BK158 hg rfl; replace BK158 := zb BK158 hb rfl; clear hb hbox hg; have hnb85 := NB170_155.out; have hnc85 := NB155_170.out; have hnb86 := NB170_156.out; have hnc86 := NB156_170.out; have hnb87 := NB170_157.out; have hnc87 := NB157_170.out; have hnb88 := NB170_158.out; have hnc88 := NB158_170.out; obtain ⟨hcz89_0, hcz89_1, hcz89_2, hcz89_3, hfz89_0, hfz89_1, hfz89_2, hfz89_3⟩ := zc4 BK170; obtain ⟨hcz90_0, hcz90_1, hcz90_2, hcz90_3, hfz90_0, hfz90_1, hfz90_2, hfz90_3⟩ := zc4 BK156; obtain ⟨hcz91_0, hcz91_1, hcz91_2, hcz91_3, hfz91_0, hfz91_1, hfz91_2, hfz91_3⟩ := zc4 BK155) | ((with_reducible refine gate_callee (f := 21) rfl ?_); refine gl 53 Try.func21 #[.agg #[.int .i64 a2_0, .int .i64 a2_1, .int .i64 a2_2, .int .i64 a2_3], .agg #[.int .i64 a1_0, .int .i64 a1_1, .int .i64 a1_2, .int .i64 a1_3]] ?_; (with_reducible refine (spec_l2Apart.calls kj4 a2_0 a2_1 a2_2 a2_3 a1_0 a1_1 a1_2 a1_3 t171 t172 t173 t174 false _ A39.out).mono ?_); rintro e w92 ⟨rfl, hb⟩; refine ⟨_, rfl, ?_⟩; replace BK155 := Aside0.mk (blk_below (g := gb155) (o := .cells #[.int .i64 a1_0, .int .i64 a1_1, .int .i64 a1_2, .int .i64 a1_3] 24 (0, 0)) (by refine fq ?_ NB155_170.out; refine fq ?_ NB155_170.out; refine fq ?_ NB155_170.out; refine fq ?_ NB155_170.out; exact bq BK155.out) hb); replace BK156 := Aside0.mk (blk_below (g := gb156) (o := .cells #[.int .i64 a2_0, .int .i64 a2_1, .int .i64 a2_2, .int .i64 a2_3] 24 (0, 0)) (by refine fq ?_ NB156_170.out; refine fq ?_ NB156_170.out; refine fq ?_ NB156_170.out; refine fq ?_ NB156_170.out; exact bq BK156.out) hb); replace BK157 := Aside0.mk (blk_below (g := gb157) (o := .cells #[.int .i64 0, .int .i64 0, .int .i64 0, .int .i64 0] 24 (0, 0)) (by refine fq ?_ NB157_170.out; refine fq ?_ NB157_170.out; refine fq ?_ NB157_170.out; refine fq ?_ NB157_170.out; exact bq BK157.out) hb); replace BK158 := Aside0.mk (blk_below (g := gb158) (o := .cells #[.int .i64 0, .int .i64 0, .int .i64 0, .int .i64 0] 24 (0, 0)) (by refine fq ?_ NB158_170.out; refine fq ?_ NB158_170.out; refine fq ?_ NB158_170.out; refine fq ?_ NB158_170.out; exact bq BK158.out) hb); replace BK170 := Aside0.mk (blk_below (g := gb170) (o := .cells #[.int .i64 t165, .int .i64 t166, .int .i64 t167, .int .i64 t168] 24 (0, 0)) (by refine bq ?_; refine blk_put (cs := #[.int .i64 t165, .int .i64 t166, .int .i64 t167, .int .i64 0]) ?_ 3 _ rfl; refine bq ?_; refine blk_put (cs := #[.int .i64 t165, .int .i64 t166, .int .i64 0, .int .i64 0]) ?_ 2 _ rfl; refine bq ?_; refine blk_put (cs := #[.int .i64 t165, .int .i64 0, .int .i64 0, .int .i64 0]) ?_ 1 _ rfl; refine bq ?_; refine blk_put (cs := #[.int .i64 0, .int .i64 0, .int .i64 0, .int .i64 0]) ?_ 0 _ rfl; exact bq BK170.out) hb); replace HB := zS hb; try clear hb) | ((with_reducible refine gate_dst (N := 15) rfl ?_); refine be 15 #[.int .i64 0, .int .i64 0, .int .i64 0, .int .i64 0] 24 ?_; intro gb176 hg w93 hbox hb; have BK176 := Aside0.mk hbox; have GW176 := zW hg; replace HB := zS hb; have GE176 := GW176; have NB155_176 := zl BK155 hg rfl; have NB176_155 := zg BK155 hg rfl; replace BK155 := zb BK155 hb rfl; have NB156_176 := zl BK156 hg rfl; have NB176_156 := zg BK156 hg rfl; replace BK156 := zb BK156 hb rfl; have NB157_176 := zl BK157 hg rfl; have NB176_157 := zg BK157 hg rfl; replace BK157 := zb BK157 hb rfl; have NB158_176 := zl BK158 hg rfl; have NB176_158 := zg BK158 hg rfl; replace BK158 := zb BK158 hb rfl; have NB170_176 := zl BK170 hg rfl; have NB176_170 := zg BK170 hg rfl; replace BK170 := zb BK170 hb rfl; clear hb hbox hg; have hnb94 := NB176_155.out; have hnc94 := NB155_176.out; have hnb95 := NB176_156.out; have hnc95 := NB156_176.out; have hnb96 := NB176_157.out; have hnc96 := NB157_176.out; have hnb97 := NB176_158.out; have hnc97 := NB158_176.out; have hnb98 := NB176_170.out; have hnc98 := NB170_176.out; obtain ⟨hcz99_0, hcz99_1, hcz99_2, hcz99_3, hfz99_0, hfz99_1, hfz99_2, hfz99_3⟩ := zc4 BK176; have hnb100 := NB157_158.out; have hnc100 := NB158_157.out; obtain ⟨hcz101_0, hcz101_1, hcz101_2, hcz101_3, hfz101_0, hfz101_1, hfz101_2, hfz101_3⟩ := zc4 BK157; obtain ⟨hcz102_0, hcz102_1, hcz102_2, hcz102_3, hfz102_0, hfz102_1, hfz102_2, hfz102_3⟩ := zc4 BK158))
       refine bodyPost_ret (results_list (rs := [.cell 8 24, .cell 9 24, .tmp 10]) rfl (by simp) (.cell gb157 24 #[.int .i64 1, .int .i64 0, .int .i64 0, .int .i64 0] (0, 0) _ rfl (by refine fq ?_ NB157_158.out; refine fq ?_ NB157_158.out; refine fq ?_ NB157_158.out; refine fq ?_ NB157_158.out; refine bq ?_; refine blk_put (cs := #[.int .i64 1, .int .i64 0, .int .i64 0, .int .i64 0]) ?_ 3 _ rfl; refine bq ?_; refine blk_put (cs := #[.int .i64 1, .int .i64 0, .int .i64 0, .int .i64 0]) ?_ 2 _ rfl; refine bq ?_; refine blk_put (cs := #[.int .i64 1, .int .i64 0, .int .i64 0, .int .i64 0]) ?_ 1 _ rfl; refine bq ?_; refine blk_put (cs := #[.int .i64 0, .int .i64 0, .int .i64 0, .int .i64 0]) ?_ 0 _ rfl; refine fq ?_ NB157_176.out; refine fq ?_ NB157_176.out; refine fq ?_ NB157_176.out; refine fq ?_ NB157_176.out; exact bq BK157.out) Try.underlying24 rfl (by kernel_rfl) (.cell gb158 24 #[.int .i64 1, .int .i64 0, .int .i64 0, .int .i64 0] (0, 0) _ rfl (by refine bq ?_; refine blk_put (cs := #[.int .i64 1, .int .i64 0, .int .i64 0, .int .i64 0]) ?_ 3 _ rfl; refine bq ?_; refine blk_put (cs := #[.int .i64 1, .int .i64 0, .int .i64 0, .int .i64 0]) ?_ 2 _ rfl; refine bq ?_; refine blk_put (cs := #[.int .i64 1, .int .i64 0, .int .i64 0, .int .i64 0]) ?_ 1 _ rfl; refine bq ?_; refine blk_put (cs := #[.int .i64 0, .int .i64 0, .int .i64 0, .int .i64 0]) ?_ 0 _ rfl; refine fq ?_ NB158_157.out; refine fq ?_ NB158_157.out; refine fq ?_ NB158_157.out; refine fq ?_ NB158_157.out; refine fq ?_ NB158_176.out; refine fq ?_ NB158_176.out; refine fq ?_ NB158_176.out; refine fq ?_ NB158_176.out; exact bq BK158.out) Try.underlying24 rfl (by kernel_rfl) (.tmp .nil)))) rfl ?_
       exact ⟨zR, zB⟩
     ·replace c40 := Bool.eq_false_iff.mpr c40
      subst c40
      rw [if_neg (show ¬ (false = true) by decide)] at H
      simp only [Option.some.injEq, Prod.mk.injEq] at H
      obtain ⟨rfl, rfl, rfl, rfl, rfl, rfl, rfl, rfl, rfl⟩ := H
      have hnb103 := NB155_156.out
      have hnc103 := NB156_155.out
      have hnb104 := NB155_157.out
      have hnc104 := NB157_155.out
      have hnb105 := NB155_158.out
      have hnc105 := NB158_155.out
      obtain ⟨hcz106_0, hcz106_1, hcz106_2, hcz106_3, hfz106_0, hfz106_1, hfz106_2, hfz106_3⟩ := zc4 BK155
      have hnb107 := NB156_157.out
      have hnc107 := NB157_156.out
      have hnb108 := NB156_158.out
      have hnc108 := NB158_156.out
      obtain ⟨hcz109_0, hcz109_1, hcz109_2, hcz109_3, hfz109_0, hfz109_1, hfz109_2, hfz109_3⟩ := zc4 BK156
      go_wp2_with (first | ((with_reducible refine gate_callee (f := 21) rfl ?_); refine gl 47 Try.func21 #[.agg #[.int .i64 a1_0, .int .i64 a1_1, .int .i64 a1_2, .int .i64 a1_3], .agg #[.int .i64 a2_0, .int .i64 a2_1, .int .i64 a2_2, .int .i64 a2_3]] ?_; (with_reducible refine (spec_l2Apart.calls kj4 a1_0 a1_1 a1_2 a1_3 a2_0 a2_1 a2_2 a2_3 t165 t166 t167 t168 false _ A38.out).mono ?_); rintro e w110 ⟨rfl, hb⟩; refine ⟨_, rfl, ?_⟩; replace BK155 := zb BK155 hb rfl; replace BK156 := zb BK156 hb rfl; replace BK157 := zb BK157 hb rfl; replace BK158 := zb BK158 hb rfl; replace HB := zS hb; try clear hb) | ((with_reducible refine gate_dst (N := 13) rfl ?_); refine be 13 #[.int .i64 0, .int .i64 0, .int .i64 0, .int .i64 0] 24 ?_; intro gb170 hg w111 hbox hb; have BK170 := Aside0.mk hbox; have GW170 := zW hg; replace HB := zS hb; have GE170 := GW170; have NB155_170 := zl BK155 hg rfl; have NB170_155 := zg BK155 hg rfl; replace BK155 := zb BK155 hb rfl; have NB156_170 := zl BK156 hg rfl; have NB170_156 := zg BK156 hg rfl; replace BK156 := zb BK156 hb rfl; have NB157_170 := zl BK157 hg rfl; have NB170_157 := zg BK157 hg rfl; replace BK157 := zb BK157 hb rfl; have NB158_170 := zl BK158 hg rfl; have NB170_158 := zg BK158 hg rfl; replace BK158 := zb BK158 hb rfl; clear hb hbox hg; have hnb112 := NB170_155.out; have hnc112 := NB155_170.out; have hnb113 := NB170_156.out; have hnc113 := NB156_170.out; have hnb114 := NB170_157.out; have hnc114 := NB157_170.out; have hnb115 := NB170_158.out; have hnc115 := NB158_170.out; obtain ⟨hcz116_0, hcz116_1, hcz116_2, hcz116_3, hfz116_0, hfz116_1, hfz116_2, hfz116_3⟩ := zc4 BK170; obtain ⟨hcz117_0, hcz117_1, hcz117_2, hcz117_3, hfz117_0, hfz117_1, hfz117_2, hfz117_3⟩ := zc4 BK156; obtain ⟨hcz118_0, hcz118_1, hcz118_2, hcz118_3, hfz118_0, hfz118_1, hfz118_2, hfz118_3⟩ := zc4 BK155) | ((with_reducible refine gate_callee (f := 21) rfl ?_); refine gl 53 Try.func21 #[.agg #[.int .i64 a2_0, .int .i64 a2_1, .int .i64 a2_2, .int .i64 a2_3], .agg #[.int .i64 a1_0, .int .i64 a1_1, .int .i64 a1_2, .int .i64 a1_3]] ?_; (with_reducible refine (spec_l2Apart.calls kj4 a2_0 a2_1 a2_2 a2_3 a1_0 a1_1 a1_2 a1_3 t171 t172 t173 t174 t175 _ A39.out).mono ?_); rintro e w119 ⟨rfl, hb⟩; refine ⟨_, rfl, ?_⟩; replace BK155 := Aside0.mk (blk_below (g := gb155) (o := .cells #[.int .i64 a1_0, .int .i64 a1_1, .int .i64 a1_2, .int .i64 a1_3] 24 (0, 0)) (by refine fq ?_ NB155_170.out; refine fq ?_ NB155_170.out; refine fq ?_ NB155_170.out; refine fq ?_ NB155_170.out; exact bq BK155.out) hb); replace BK156 := Aside0.mk (blk_below (g := gb156) (o := .cells #[.int .i64 a2_0, .int .i64 a2_1, .int .i64 a2_2, .int .i64 a2_3] 24 (0, 0)) (by refine fq ?_ NB156_170.out; refine fq ?_ NB156_170.out; refine fq ?_ NB156_170.out; refine fq ?_ NB156_170.out; exact bq BK156.out) hb); replace BK157 := Aside0.mk (blk_below (g := gb157) (o := .cells #[.int .i64 0, .int .i64 0, .int .i64 0, .int .i64 0] 24 (0, 0)) (by refine fq ?_ NB157_170.out; refine fq ?_ NB157_170.out; refine fq ?_ NB157_170.out; refine fq ?_ NB157_170.out; exact bq BK157.out) hb); replace BK158 := Aside0.mk (blk_below (g := gb158) (o := .cells #[.int .i64 0, .int .i64 0, .int .i64 0, .int .i64 0] 24 (0, 0)) (by refine fq ?_ NB158_170.out; refine fq ?_ NB158_170.out; refine fq ?_ NB158_170.out; refine fq ?_ NB158_170.out; exact bq BK158.out) hb); replace BK170 := Aside0.mk (blk_below (g := gb170) (o := .cells #[.int .i64 t165, .int .i64 t166, .int .i64 t167, .int .i64 t168] 24 (0, 0)) (by refine bq ?_; refine blk_put (cs := #[.int .i64 t165, .int .i64 t166, .int .i64 t167, .int .i64 0]) ?_ 3 _ rfl; refine bq ?_; refine blk_put (cs := #[.int .i64 t165, .int .i64 t166, .int .i64 0, .int .i64 0]) ?_ 2 _ rfl; refine bq ?_; refine blk_put (cs := #[.int .i64 t165, .int .i64 0, .int .i64 0, .int .i64 0]) ?_ 1 _ rfl; refine bq ?_; refine blk_put (cs := #[.int .i64 0, .int .i64 0, .int .i64 0, .int .i64 0]) ?_ 0 _ rfl; exact bq BK170.out) hb); replace HB := zS hb; try clear hb) | ((with_reducible refine gate_dst (N := 15) rfl ?_); refine be 15 #[.int .i64 0, .int .i64 0, .int .i64 0, .int .i64 0] 24 ?_; intro gb176 hg w120 hbox hb; have BK176 := Aside0.mk hbox; have GW176 := zW hg; replace HB := zS hb; have GE176 := GW176; have NB155_176 := zl BK155 hg rfl; have NB176_155 := zg BK155 hg rfl; replace BK155 := zb BK155 hb rfl; have NB156_176 := zl BK156 hg rfl; have NB176_156 := zg BK156 hg rfl; replace BK156 := zb BK156 hb rfl; have NB157_176 := zl BK157 hg rfl; have NB176_157 := zg BK157 hg rfl; replace BK157 := zb BK157 hb rfl; have NB158_176 := zl BK158 hg rfl; have NB176_158 := zg BK158 hg rfl; replace BK158 := zb BK158 hb rfl; have NB170_176 := zl BK170 hg rfl; have NB176_170 := zg BK170 hg rfl; replace BK170 := zb BK170 hb rfl; clear hb hbox hg; have hnb121 := NB176_155.out; have hnc121 := NB155_176.out; have hnb122 := NB176_156.out; have hnc122 := NB156_176.out; have hnb123 := NB176_157.out; have hnc123 := NB157_176.out; have hnb124 := NB176_158.out; have hnc124 := NB158_176.out; have hnb125 := NB176_170.out; have hnc125 := NB170_176.out; obtain ⟨hcz126_0, hcz126_1, hcz126_2, hcz126_3, hfz126_0, hfz126_1, hfz126_2, hfz126_3⟩ := zc4 BK176; have hnb127 := NB157_158.out; have hnc127 := NB158_157.out; obtain ⟨hcz128_0, hcz128_1, hcz128_2, hcz128_3, hfz128_0, hfz128_1, hfz128_2, hfz128_3⟩ := zc4 BK157; obtain ⟨hcz129_0, hcz129_1, hcz129_2, hcz129_3, hfz129_0, hfz129_1, hfz129_2, hfz129_3⟩ := zc4 BK158))
      refine bodyPost_ret (results_list (rs := [.cell 8 24, .cell 9 24, .tmp 10]) rfl (by simp) (.cell gb157 24 #[.int .i64 1, .int .i64 0, .int .i64 0, .int .i64 0] (0, 0) _ rfl (by refine fq ?_ NB157_158.out; refine fq ?_ NB157_158.out; refine fq ?_ NB157_158.out; refine fq ?_ NB157_158.out; refine bq ?_; refine blk_put (cs := #[.int .i64 1, .int .i64 0, .int .i64 0, .int .i64 0]) ?_ 3 _ rfl; refine bq ?_; refine blk_put (cs := #[.int .i64 1, .int .i64 0, .int .i64 0, .int .i64 0]) ?_ 2 _ rfl; refine bq ?_; refine blk_put (cs := #[.int .i64 1, .int .i64 0, .int .i64 0, .int .i64 0]) ?_ 1 _ rfl; refine bq ?_; refine blk_put (cs := #[.int .i64 0, .int .i64 0, .int .i64 0, .int .i64 0]) ?_ 0 _ rfl; refine fq ?_ NB157_176.out; refine fq ?_ NB157_176.out; refine fq ?_ NB157_176.out; refine fq ?_ NB157_176.out; exact bq BK157.out) Try.underlying24 rfl (by kernel_rfl) (.cell gb158 24 #[.int .i64 1, .int .i64 0, .int .i64 0, .int .i64 0] (0, 0) _ rfl (by refine bq ?_; refine blk_put (cs := #[.int .i64 1, .int .i64 0, .int .i64 0, .int .i64 0]) ?_ 3 _ rfl; refine bq ?_; refine blk_put (cs := #[.int .i64 1, .int .i64 0, .int .i64 0, .int .i64 0]) ?_ 2 _ rfl; refine bq ?_; refine blk_put (cs := #[.int .i64 1, .int .i64 0, .int .i64 0, .int .i64 0]) ?_ 1 _ rfl; refine bq ?_; refine blk_put (cs := #[.int .i64 0, .int .i64 0, .int .i64 0, .int .i64 0]) ?_ 0 _ rfl; refine fq ?_ NB158_157.out; refine fq ?_ NB158_157.out; refine fq ?_ NB158_157.out; refine fq ?_ NB158_157.out; refine fq ?_ NB158_176.out; refine fq ?_ NB158_176.out; refine fq ?_ NB158_176.out; refine fq ?_ NB158_176.out; exact bq BK158.out) Try.underlying24 rfl (by kernel_rfl) (.tmp .nil)))) rfl ?_
      exact ⟨zR, zB⟩
    ·rw [if_neg c37] at H
     have c37b0 : decide (a0 ≤ 13) = false := decide_eq_false c37
     clear c37
     have HC130 := Aside0.mk H
     clear H
     go_upto_region 10 with (fail)
     go_cut [66] (fun v66 wc => ∃ (kq : Nat) (x66_129 : Bool), v66 = .bool x66_129 ∧ Aside0 (spec_l2Branch.j1 kq a0 a3 x66_129 a1_0 a1_1 a1_2 a1_3 a2_0 a2_1 a2_2 a2_3 = some (r1, r2, r3, r4, r5, r6, r7, r8, r9)) ∧ Aside0 (kq ≤ kj4) ∧ Aside0 (wc.heap[gb155]? = some (.cells #[.int .i64 a1_0, .int .i64 a1_1, .int .i64 a1_2, .int .i64 a1_3] 24 (0, 0))) ∧ Aside0 (wc.heap[gb156]? = some (.cells #[.int .i64 a2_0, .int .i64 a2_1, .int .i64 a2_2, .int .i64 a2_3] 24 (0, 0))) ∧ Aside0 (wc.heap[gb157]? = some (.cells #[.int .i64 0, .int .i64 0, .int .i64 0, .int .i64 0] 24 (0, 0))) ∧ Aside0 (wc.heap[gb158]? = some (.cells #[.int .i64 0, .int .i64 0, .int .i64 0, .int .i64 0] 24 (0, 0))) ∧ Aside0 (Below w.heap.size w wc))
     case first =>
      have H := HC130.out
      clear HC130
      by_cases c131 : a0 = 14
      ·rw [if_pos c131] at H
       have c131b0 : (a0 == 14) = true := beq_iff_eq.mpr c131
       have c131b1 : (a0 != 14) = false := bne_eq_false_iff_eq.mpr c131
       clear c131
       (first | rw [c131b0] | (simp only [i64_w, i32_w]; rw [c131b0]) | skip)
       have H' := Aside0.mk H
       clear H
       go_wp2
       go_meet
       case rel => exact ⟨_, (a3), (by first | rfl | (simp; done) | (simp [*]; done)), H', ⟨by have := HJ4.out; first | omega | exact Nat.le_refl _⟩, ⟨by exact bq BK155.out⟩, ⟨by exact bq BK156.out⟩, ⟨by exact bq BK157.out⟩, ⟨by exact bq BK158.out⟩, ⟨zB⟩⟩
      ·rw [if_neg c131] at H
       have c131b0 : (a0 == 14) = false := beq_eq_false_iff_ne.mpr c131
       have c131b1 : (a0 != 14) = true := bne_iff_ne.mpr c131
       (first | rw [c131b0] | (simp only [i64_w, i32_w]; rw [c131b0]) | skip)
       have H' := Aside0.mk H
       clear H
       go_wp2
       go_meet
       case rel => exact ⟨_, (false), (by first | rfl | (simp; done) | (simp [*]; done)), H', ⟨by have := HJ4.out; first | omega | exact Nat.le_refl _⟩, ⟨by exact bq BK155.out⟩, ⟨by exact bq BK156.out⟩, ⟨by exact bq BK157.out⟩, ⟨by exact bq BK158.out⟩, ⟨zB⟩⟩
     case rest =>
      clear HC130
      try clear c1
      try clear c2
      try clear p2 p2
      try clear c3
      try clear c4
      try clear c5
      try clear c6
      try clear c7
      try clear c8
      try clear c9
      try clear c10
      try clear c10b0
      try clear c10b1
      try clear c10b2
      try clear c11
      try clear c12
      try clear c13
      try clear c14
      try clear c15
      try clear c17
      try clear c18
      try clear c20
      try clear c21
      try clear c22
      try clear c23
      try clear c24
      try clear c25
      try clear c37
      try clear c37b0
      try clear c40
      try clear c41
      try clear c42
      try clear c43
      try clear c44
      try clear c46
      try clear c47
      try clear c51
      try clear c52
      try clear c53
      try clear c54
      try clear c60
      try clear c61
      try clear c62
      try clear c63
      try clear c64
      try clear c76
      try clear c77
      try clear c78
      try clear c80
      try clear c81
      try clear c85
      try clear c86
      try clear c87
      try clear c88
      try clear c94
      try clear c95
      try clear c96
      try clear c97
      try clear c98
      try clear c100
      try clear c103
      try clear c104
      try clear c105
      try clear c107
      try clear c108
      try clear c112
      try clear c113
      try clear c114
      try clear c115
      try clear c121
      try clear c122
      try clear c123
      try clear c124
      try clear c125
      try clear c127
      try clear c131
      try clear c131b0
      try clear c131b1
      try clear hcz101_0 hcz101_1 hcz101_2 hcz101_3 hfz101_0 hfz101_1 hfz101_2 hfz101_3
      try clear hcz102_0 hcz102_1 hcz102_2 hcz102_3 hfz102_0 hfz102_1 hfz102_2 hfz102_3
      try clear hcz106_0 hcz106_1 hcz106_2 hcz106_3 hfz106_0 hfz106_1 hfz106_2 hfz106_3
      try clear hcz109_0 hcz109_1 hcz109_2 hcz109_3 hfz109_0 hfz109_1 hfz109_2 hfz109_3
      try clear hcz116_0 hcz116_1 hcz116_2 hcz116_3 hfz116_0 hfz116_1 hfz116_2 hfz116_3
      try clear hcz117_0 hcz117_1 hcz117_2 hcz117_3 hfz117_0 hfz117_1 hfz117_2 hfz117_3
      try clear hcz118_0 hcz118_1 hcz118_2 hcz118_3 hfz118_0 hfz118_1 hfz118_2 hfz118_3
      try clear hcz126_0 hcz126_1 hcz126_2 hcz126_3 hfz126_0 hfz126_1 hfz126_2 hfz126_3
      try clear hcz128_0 hcz128_1 hcz128_2 hcz128_3 hfz128_0 hfz128_1 hfz128_2 hfz128_3
      try clear hcz129_0 hcz129_1 hcz129_2 hcz129_3 hfz129_0 hfz129_1 hfz129_2 hfz129_3
      try clear hcz16_0 hcz16_1 hcz16_2 hcz16_3 hfz16_0 hfz16_1 hfz16_2 hfz16_3
      try clear hcz19_0 hcz19_1 hcz19_2 hcz19_3 hfz19_0 hfz19_1 hfz19_2 hfz19_3
      try clear hcz26_0 hcz26_1 hcz26_2 hcz26_3 hfz26_0 hfz26_1 hfz26_2 hfz26_3
      try clear hcz45_0 hcz45_1 hcz45_2 hcz45_3 hfz45_0 hfz45_1 hfz45_2 hfz45_3
      try clear hcz48_0 hcz48_1 hcz48_2 hcz48_3 hfz48_0 hfz48_1 hfz48_2 hfz48_3
      try clear hcz55_0 hcz55_1 hcz55_2 hcz55_3 hfz55_0 hfz55_1 hfz55_2 hfz55_3
      try clear hcz56_0 hcz56_1 hcz56_2 hcz56_3 hfz56_0 hfz56_1 hfz56_2 hfz56_3
      try clear hcz57_0 hcz57_1 hcz57_2 hcz57_3 hfz57_0 hfz57_1 hfz57_2 hfz57_3
      try clear hcz65_0 hcz65_1 hcz65_2 hcz65_3 hfz65_0 hfz65_1 hfz65_2 hfz65_3
      try clear hcz79_0 hcz79_1 hcz79_2 hcz79_3 hfz79_0 hfz79_1 hfz79_2 hfz79_3
      try clear hcz82_0 hcz82_1 hcz82_2 hcz82_3 hfz82_0 hfz82_1 hfz82_2 hfz82_3
      try clear hcz89_0 hcz89_1 hcz89_2 hcz89_3 hfz89_0 hfz89_1 hfz89_2 hfz89_3
      try clear hcz90_0 hcz90_1 hcz90_2 hcz90_3 hfz90_0 hfz90_1 hfz90_2 hfz90_3
      try clear hcz91_0 hcz91_1 hcz91_2 hcz91_3 hfz91_0 hfz91_1 hfz91_2 hfz91_3
      try clear hcz99_0 hcz99_1 hcz99_2 hcz99_3 hfz99_0 hfz99_1 hfz99_2 hfz99_3
      obtain ⟨kq, x66_129, rfl, HA, HJ129, BK155, BK156, BK157, BK158, HB⟩ := hcut
      cases kq with
      | zero => exact absurd HA.out (by simp [spec_l2Branch.j1])
      | succ kj129 =>
       have H := HA.out
       clear HA
       simp only [spec_l2Branch.j1] at H
       by_cases c132 : x66_129 = true
       ·subst c132
        rw [if_pos rfl] at H
        replace H := Option.bind_eq_some_iff.mp H
        obtain ⟨⟨t177, t178, t179, t180, t181, t182, t183, t184, t185⟩, A1330, H⟩ := H
        try dsimp only at H
        have A133 := Aside0.mk A1330
        clear A1330
        simp only [Option.some.injEq, Prod.mk.injEq] at H
        obtain ⟨rfl, rfl, rfl, rfl, rfl, rfl, rfl, rfl, rfl⟩ := H
        have hnb134 := NB155_156.out
        have hnc134 := NB156_155.out
        have hnb135 := NB155_157.out
        have hnc135 := NB157_155.out
        have hnb136 := NB155_158.out
        have hnc136 := NB158_155.out
        obtain ⟨hcz137_0, hcz137_1, hcz137_2, hcz137_3, hfz137_0, hfz137_1, hfz137_2, hfz137_3⟩ := zc4 BK155
        have hnb138 := NB156_157.out
        have hnc138 := NB157_156.out
        have hnb139 := NB156_158.out
        have hnc139 := NB158_156.out
        obtain ⟨hcz140_0, hcz140_1, hcz140_2, hcz140_3, hfz140_0, hfz140_1, hfz140_2, hfz140_3⟩ := zc4 BK156
        go_wp2_with (first | ((with_reducible refine gate_callee (f := 22) rfl ?_); refine gl 74 Try.func22 #[.agg #[.int .i64 a1_0, .int .i64 a1_1, .int .i64 a1_2, .int .i64 a1_3], .agg #[.int .i64 a2_0, .int .i64 a2_1, .int .i64 a2_2, .int .i64 a2_3], .int .i64 1] ?_; (with_reducible refine (spec_l2Below.calls kj129 a1_0 a1_1 a1_2 a1_3 a2_0 a2_1 a2_2 a2_3 1 t177 t178 t179 t180 t181 t182 t183 t184 t185 _ A133.out).mono ?_); rintro e w141 ⟨rfl, hb⟩; refine ⟨_, rfl, ?_⟩; replace BK155 := zb BK155 hb rfl; replace BK156 := zb BK156 hb rfl; replace BK157 := zb BK157 hb rfl; replace BK158 := zb BK158 hb rfl; replace HB := zS hb; try clear hb; have hnb142 := NB157_158.out; have hnc142 := NB158_157.out; obtain ⟨hcz143_0, hcz143_1, hcz143_2, hcz143_3, hfz143_0, hfz143_1, hfz143_2, hfz143_3⟩ := zc4 BK157; obtain ⟨hcz144_0, hcz144_1, hcz144_2, hcz144_3, hfz144_0, hfz144_1, hfz144_2, hfz144_3⟩ := zc4 BK158))
        refine bodyPost_ret (results_list (rs := [.cell 8 24, .cell 9 24, .tmp 10]) rfl (by simp) (.cell gb157 24 #[.int .i64 t177, .int .i64 t178, .int .i64 t179, .int .i64 t180] (0, 0) _ rfl (by refine fq ?_ NB157_158.out; refine fq ?_ NB157_158.out; refine fq ?_ NB157_158.out; refine fq ?_ NB157_158.out; refine bq ?_; refine blk_put (cs := #[.int .i64 t177, .int .i64 t178, .int .i64 t179, .int .i64 0]) ?_ 3 _ rfl; refine bq ?_; refine blk_put (cs := #[.int .i64 t177, .int .i64 t178, .int .i64 0, .int .i64 0]) ?_ 2 _ rfl; refine bq ?_; refine blk_put (cs := #[.int .i64 t177, .int .i64 0, .int .i64 0, .int .i64 0]) ?_ 1 _ rfl; refine bq ?_; refine blk_put (cs := #[.int .i64 0, .int .i64 0, .int .i64 0, .int .i64 0]) ?_ 0 _ rfl; exact bq BK157.out) Try.underlying24 rfl (by kernel_rfl) (.cell gb158 24 #[.int .i64 t181, .int .i64 t182, .int .i64 t183, .int .i64 t184] (0, 0) _ rfl (by refine bq ?_; refine blk_put (cs := #[.int .i64 t181, .int .i64 t182, .int .i64 t183, .int .i64 0]) ?_ 3 _ rfl; refine bq ?_; refine blk_put (cs := #[.int .i64 t181, .int .i64 t182, .int .i64 0, .int .i64 0]) ?_ 2 _ rfl; refine bq ?_; refine blk_put (cs := #[.int .i64 t181, .int .i64 0, .int .i64 0, .int .i64 0]) ?_ 1 _ rfl; refine bq ?_; refine blk_put (cs := #[.int .i64 0, .int .i64 0, .int .i64 0, .int .i64 0]) ?_ 0 _ rfl; refine fq ?_ NB158_157.out; refine fq ?_ NB158_157.out; refine fq ?_ NB158_157.out; refine fq ?_ NB158_157.out; exact bq BK158.out) Try.underlying24 rfl (by kernel_rfl) (.tmp .nil)))) rfl ?_
        exact ⟨zR, zB⟩
       ·replace c132 := Bool.eq_false_iff.mpr c132
        subst c132
        rw [if_neg (show ¬ (false = true) by decide)] at H
        have HC145 := Aside0.mk H
        clear H
        go_upto_region 12 with (fail)
        go_cut [78] (fun v78 wc => ∃ (kq : Nat) (x78_144 : Bool), v78 = .bool x78_144 ∧ Aside0 (spec_l2Branch.j2 kq a0 x78_144 a1_0 a1_1 a1_2 a1_3 a2_0 a2_1 a2_2 a2_3 = some (r1, r2, r3, r4, r5, r6, r7, r8, r9)) ∧ Aside0 (kq ≤ kj129) ∧ Aside0 (wc.heap[gb155]? = some (.cells #[.int .i64 a1_0, .int .i64 a1_1, .int .i64 a1_2, .int .i64 a1_3] 24 (0, 0))) ∧ Aside0 (wc.heap[gb156]? = some (.cells #[.int .i64 a2_0, .int .i64 a2_1, .int .i64 a2_2, .int .i64 a2_3] 24 (0, 0))) ∧ Aside0 (wc.heap[gb157]? = some (.cells #[.int .i64 0, .int .i64 0, .int .i64 0, .int .i64 0] 24 (0, 0))) ∧ Aside0 (wc.heap[gb158]? = some (.cells #[.int .i64 0, .int .i64 0, .int .i64 0, .int .i64 0] 24 (0, 0))) ∧ Aside0 (Below w.heap.size w wc))
        case first =>
         have H := HC145.out
         clear HC145
         by_cases c146 : a0 = 15
         ·rw [if_pos c146] at H
          have c146b0 : (a0 == 15) = true := beq_iff_eq.mpr c146
          have c146b1 : (a0 != 15) = false := bne_eq_false_iff_eq.mpr c146
          clear c146
          (first | rw [c146b0] | (simp only [i64_w, i32_w]; rw [c146b0]) | skip)
          have H' := Aside0.mk H
          clear H
          go_wp2
          go_meet
          case rel => exact ⟨_, (!a3), (by first | rfl | (simp; done) | (simp [*]; done)), H', ⟨by have := HJ4.out; have := HJ129.out; first | omega | exact Nat.le_refl _⟩, ⟨by exact bq BK155.out⟩, ⟨by exact bq BK156.out⟩, ⟨by exact bq BK157.out⟩, ⟨by exact bq BK158.out⟩, ⟨zB⟩⟩
         ·rw [if_neg c146] at H
          have c146b0 : (a0 == 15) = false := beq_eq_false_iff_ne.mpr c146
          have c146b1 : (a0 != 15) = true := bne_iff_ne.mpr c146
          (first | rw [c146b0] | (simp only [i64_w, i32_w]; rw [c146b0]) | skip)
          have H' := Aside0.mk H
          clear H
          go_wp2
          go_meet
          case rel => exact ⟨_, (false), (by first | rfl | (simp; done) | (simp [*]; done)), H', ⟨by have := HJ4.out; have := HJ129.out; first | omega | exact Nat.le_refl _⟩, ⟨by exact bq BK155.out⟩, ⟨by exact bq BK156.out⟩, ⟨by exact bq BK157.out⟩, ⟨by exact bq BK158.out⟩, ⟨zB⟩⟩
        case rest =>
         clear HC145
         try clear c1
         try clear c2
         try clear p2 p2
         try clear c3
         try clear c4
         try clear c5
         try clear c6
         try clear c7
         try clear c8
         try clear c9
         try clear c10
         try clear c10b0
         try clear c10b1
         try clear c10b2
         try clear c11
         try clear c12
         try clear c13
         try clear c14
         try clear c15
         try clear c17
         try clear c18
         try clear c20
         try clear c21
         try clear c22
         try clear c23
         try clear c24
         try clear c25
         try clear c37
         try clear c37b0
         try clear c40
         try clear c41
         try clear c42
         try clear c43
         try clear c44
         try clear c46
         try clear c47
         try clear c51
         try clear c52
         try clear c53
         try clear c54
         try clear c60
         try clear c61
         try clear c62
         try clear c63
         try clear c64
         try clear c76
         try clear c77
         try clear c78
         try clear c80
         try clear c81
         try clear c85
         try clear c86
         try clear c87
         try clear c88
         try clear c94
         try clear c95
         try clear c96
         try clear c97
         try clear c98
         try clear c100
         try clear c103
         try clear c104
         try clear c105
         try clear c107
         try clear c108
         try clear c112
         try clear c113
         try clear c114
         try clear c115
         try clear c121
         try clear c122
         try clear c123
         try clear c124
         try clear c125
         try clear c127
         try clear c131
         try clear c131b0
         try clear c131b1
         try clear c132
         try clear c134
         try clear c135
         try clear c136
         try clear c138
         try clear c139
         try clear c142
         try clear c146
         try clear c146b0
         try clear c146b1
         try clear hcz101_0 hcz101_1 hcz101_2 hcz101_3 hfz101_0 hfz101_1 hfz101_2 hfz101_3
         try clear hcz102_0 hcz102_1 hcz102_2 hcz102_3 hfz102_0 hfz102_1 hfz102_2 hfz102_3
         try clear hcz106_0 hcz106_1 hcz106_2 hcz106_3 hfz106_0 hfz106_1 hfz106_2 hfz106_3
         try clear hcz109_0 hcz109_1 hcz109_2 hcz109_3 hfz109_0 hfz109_1 hfz109_2 hfz109_3
         try clear hcz116_0 hcz116_1 hcz116_2 hcz116_3 hfz116_0 hfz116_1 hfz116_2 hfz116_3
         try clear hcz117_0 hcz117_1 hcz117_2 hcz117_3 hfz117_0 hfz117_1 hfz117_2 hfz117_3
         try clear hcz118_0 hcz118_1 hcz118_2 hcz118_3 hfz118_0 hfz118_1 hfz118_2 hfz118_3
         try clear hcz126_0 hcz126_1 hcz126_2 hcz126_3 hfz126_0 hfz126_1 hfz126_2 hfz126_3
         try clear hcz128_0 hcz128_1 hcz128_2 hcz128_3 hfz128_0 hfz128_1 hfz128_2 hfz128_3
         try clear hcz129_0 hcz129_1 hcz129_2 hcz129_3 hfz129_0 hfz129_1 hfz129_2 hfz129_3
         try clear hcz137_0 hcz137_1 hcz137_2 hcz137_3 hfz137_0 hfz137_1 hfz137_2 hfz137_3
         try clear hcz140_0 hcz140_1 hcz140_2 hcz140_3 hfz140_0 hfz140_1 hfz140_2 hfz140_3
         try clear hcz143_0 hcz143_1 hcz143_2 hcz143_3 hfz143_0 hfz143_1 hfz143_2 hfz143_3
         try clear hcz144_0 hcz144_1 hcz144_2 hcz144_3 hfz144_0 hfz144_1 hfz144_2 hfz144_3
         try clear hcz16_0 hcz16_1 hcz16_2 hcz16_3 hfz16_0 hfz16_1 hfz16_2 hfz16_3
         try clear hcz19_0 hcz19_1 hcz19_2 hcz19_3 hfz19_0 hfz19_1 hfz19_2 hfz19_3
         try clear hcz26_0 hcz26_1 hcz26_2 hcz26_3 hfz26_0 hfz26_1 hfz26_2 hfz26_3
         try clear hcz45_0 hcz45_1 hcz45_2 hcz45_3 hfz45_0 hfz45_1 hfz45_2 hfz45_3
         try clear hcz48_0 hcz48_1 hcz48_2 hcz48_3 hfz48_0 hfz48_1 hfz48_2 hfz48_3
         try clear hcz55_0 hcz55_1 hcz55_2 hcz55_3 hfz55_0 hfz55_1 hfz55_2 hfz55_3
         try clear hcz56_0 hcz56_1 hcz56_2 hcz56_3 hfz56_0 hfz56_1 hfz56_2 hfz56_3
         try clear hcz57_0 hcz57_1 hcz57_2 hcz57_3 hfz57_0 hfz57_1 hfz57_2 hfz57_3
         try clear hcz65_0 hcz65_1 hcz65_2 hcz65_3 hfz65_0 hfz65_1 hfz65_2 hfz65_3
         try clear hcz79_0 hcz79_1 hcz79_2 hcz79_3 hfz79_0 hfz79_1 hfz79_2 hfz79_3
         try clear hcz82_0 hcz82_1 hcz82_2 hcz82_3 hfz82_0 hfz82_1 hfz82_2 hfz82_3
         try clear hcz89_0 hcz89_1 hcz89_2 hcz89_3 hfz89_0 hfz89_1 hfz89_2 hfz89_3
         try clear hcz90_0 hcz90_1 hcz90_2 hcz90_3 hfz90_0 hfz90_1 hfz90_2 hfz90_3
         try clear hcz91_0 hcz91_1 hcz91_2 hcz91_3 hfz91_0 hfz91_1 hfz91_2 hfz91_3
         try clear hcz99_0 hcz99_1 hcz99_2 hcz99_3 hfz99_0 hfz99_1 hfz99_2 hfz99_3
         obtain ⟨kq, x78_144, rfl, HA, HJ144, BK155, BK156, BK157, BK158, HB⟩ := hcut
         cases kq with
         | zero => exact absurd HA.out (by simp [spec_l2Branch.j2])
         | succ kj144 =>
          have H := HA.out
          clear HA
          simp only [spec_l2Branch.j2] at H
          by_cases c147 : x78_144 = true
          ·subst c147
           rw [if_pos rfl] at H
           replace H := Option.bind_eq_some_iff.mp H
           obtain ⟨⟨t186, t187, t188, t189, t190, t191, t192, t193, t194⟩, A1480, H⟩ := H
           try dsimp only at H
           have A148 := Aside0.mk A1480
           clear A1480
           simp only [Option.some.injEq, Prod.mk.injEq] at H
           obtain ⟨rfl, rfl, rfl, rfl, rfl, rfl, rfl, rfl, rfl⟩ := H
           have hnb149 := NB155_156.out
           have hnc149 := NB156_155.out
           have hnb150 := NB155_157.out
           have hnc150 := NB157_155.out
           have hnb151 := NB155_158.out
           have hnc151 := NB158_155.out
           obtain ⟨hcz152_0, hcz152_1, hcz152_2, hcz152_3, hfz152_0, hfz152_1, hfz152_2, hfz152_3⟩ := zc4 BK155
           have hnb153 := NB156_157.out
           have hnc153 := NB157_156.out
           have hnb154 := NB156_158.out
           have hnc154 := NB158_156.out
           obtain ⟨hcz155_0, hcz155_1, hcz155_2, hcz155_3, hfz155_0, hfz155_1, hfz155_2, hfz155_3⟩ := zc4 BK156
           go_wp2_with (first | ((with_reducible refine gate_callee (f := 22) rfl ?_); refine gl 87 Try.func22 #[.agg #[.int .i64 a1_0, .int .i64 a1_1, .int .i64 a1_2, .int .i64 a1_3], .agg #[.int .i64 a2_0, .int .i64 a2_1, .int .i64 a2_2, .int .i64 a2_3], .int .i64 0] ?_; (with_reducible refine (spec_l2Below.calls kj144 a1_0 a1_1 a1_2 a1_3 a2_0 a2_1 a2_2 a2_3 0 t186 t187 t188 t189 t190 t191 t192 t193 t194 _ A148.out).mono ?_); rintro e w156 ⟨rfl, hb⟩; refine ⟨_, rfl, ?_⟩; replace BK155 := zb BK155 hb rfl; replace BK156 := zb BK156 hb rfl; replace BK157 := zb BK157 hb rfl; replace BK158 := zb BK158 hb rfl; replace HB := zS hb; try clear hb; have hnb157 := NB157_158.out; have hnc157 := NB158_157.out; obtain ⟨hcz158_0, hcz158_1, hcz158_2, hcz158_3, hfz158_0, hfz158_1, hfz158_2, hfz158_3⟩ := zc4 BK157; obtain ⟨hcz159_0, hcz159_1, hcz159_2, hcz159_3, hfz159_0, hfz159_1, hfz159_2, hfz159_3⟩ := zc4 BK158))
           refine bodyPost_ret (results_list (rs := [.cell 8 24, .cell 9 24, .tmp 10]) rfl (by simp) (.cell gb157 24 #[.int .i64 t186, .int .i64 t187, .int .i64 t188, .int .i64 t189] (0, 0) _ rfl (by refine fq ?_ NB157_158.out; refine fq ?_ NB157_158.out; refine fq ?_ NB157_158.out; refine fq ?_ NB157_158.out; refine bq ?_; refine blk_put (cs := #[.int .i64 t186, .int .i64 t187, .int .i64 t188, .int .i64 0]) ?_ 3 _ rfl; refine bq ?_; refine blk_put (cs := #[.int .i64 t186, .int .i64 t187, .int .i64 0, .int .i64 0]) ?_ 2 _ rfl; refine bq ?_; refine blk_put (cs := #[.int .i64 t186, .int .i64 0, .int .i64 0, .int .i64 0]) ?_ 1 _ rfl; refine bq ?_; refine blk_put (cs := #[.int .i64 0, .int .i64 0, .int .i64 0, .int .i64 0]) ?_ 0 _ rfl; exact bq BK157.out) Try.underlying24 rfl (by kernel_rfl) (.cell gb158 24 #[.int .i64 t190, .int .i64 t191, .int .i64 t192, .int .i64 t193] (0, 0) _ rfl (by refine bq ?_; refine blk_put (cs := #[.int .i64 t190, .int .i64 t191, .int .i64 t192, .int .i64 0]) ?_ 3 _ rfl; refine bq ?_; refine blk_put (cs := #[.int .i64 t190, .int .i64 t191, .int .i64 0, .int .i64 0]) ?_ 2 _ rfl; refine bq ?_; refine blk_put (cs := #[.int .i64 t190, .int .i64 0, .int .i64 0, .int .i64 0]) ?_ 1 _ rfl; refine bq ?_; refine blk_put (cs := #[.int .i64 0, .int .i64 0, .int .i64 0, .int .i64 0]) ?_ 0 _ rfl; refine fq ?_ NB158_157.out; refine fq ?_ NB158_157.out; refine fq ?_ NB158_157.out; refine fq ?_ NB158_157.out; exact bq BK158.out) Try.underlying24 rfl (by kernel_rfl) (.tmp .nil)))) rfl ?_
           exact ⟨zR, zB⟩
          ·replace c147 := Bool.eq_false_iff.mpr c147
           subst c147
           rw [if_neg (show ¬ (false = true) by decide)] at H
           by_cases c160 : a0 = 14
           ·rw [if_pos c160] at H
            have c160b0 : (a0 == 14) = true := beq_iff_eq.mpr c160
            have c160b1 : (a0 != 14) = false := bne_eq_false_iff_eq.mpr c160
            clear c160
            replace H := Option.bind_eq_some_iff.mp H
            obtain ⟨⟨t195, t196, t197, t198, t199, t200, t201, t202, t203⟩, A1610, H⟩ := H
            try dsimp only at H
            have A161 := Aside0.mk A1610
            clear A1610
            simp only [Option.some.injEq, Prod.mk.injEq] at H
            obtain ⟨rfl, rfl, rfl, rfl, rfl, rfl, rfl, rfl, rfl⟩ := H
            have hnb162 := NB156_155.out
            have hnc162 := NB155_156.out
            have hnb163 := NB156_157.out
            have hnc163 := NB157_156.out
            have hnb164 := NB156_158.out
            have hnc164 := NB158_156.out
            obtain ⟨hcz165_0, hcz165_1, hcz165_2, hcz165_3, hfz165_0, hfz165_1, hfz165_2, hfz165_3⟩ := zc4 BK156
            have hnb166 := NB155_157.out
            have hnc166 := NB157_155.out
            have hnb167 := NB155_158.out
            have hnc167 := NB158_155.out
            obtain ⟨hcz168_0, hcz168_1, hcz168_2, hcz168_3, hfz168_0, hfz168_1, hfz168_2, hfz168_3⟩ := zc4 BK155
            try go_wp2_with (first | ((with_reducible refine gate_callee (f := 22) rfl ?_); refine gl 97 Try.func22 #[.agg #[.int .i64 a2_0, .int .i64 a2_1, .int .i64 a2_2, .int .i64 a2_3], .agg #[.int .i64 a1_0, .int .i64 a1_1, .int .i64 a1_2, .int .i64 a1_3], .int .i64 0] ?_; (with_reducible refine (spec_l2Below.calls kj144 a2_0 a2_1 a2_2 a2_3 a1_0 a1_1 a1_2 a1_3 0 t195 t196 t197 t198 t199 t200 t201 t202 t203 _ A161.out).mono ?_); rintro e w169 ⟨rfl, hb⟩; refine ⟨_, rfl, ?_⟩; replace BK155 := zb BK155 hb rfl; replace BK156 := zb BK156 hb rfl; replace BK157 := zb BK157 hb rfl; replace BK158 := zb BK158 hb rfl; replace HB := zS hb; try clear hb) | ((with_reducible refine gate_dst (N := 17) rfl ?_); refine be 17 #[.int .i64 0, .int .i64 0, .int .i64 0, .int .i64 0] 24 ?_; intro gb204 hg w170 hbox hb; have BK204 := Aside0.mk hbox; have GW204 := zW hg; replace HB := zS hb; have GE204 := GW204; have NB155_204 := zl BK155 hg rfl; have NB204_155 := zg BK155 hg rfl; replace BK155 := zb BK155 hb rfl; have NB156_204 := zl BK156 hg rfl; have NB204_156 := zg BK156 hg rfl; replace BK156 := zb BK156 hb rfl; have NB157_204 := zl BK157 hg rfl; have NB204_157 := zg BK157 hg rfl; replace BK157 := zb BK157 hb rfl; have NB158_204 := zl BK158 hg rfl; have NB204_158 := zg BK158 hg rfl; replace BK158 := zb BK158 hb rfl; clear hb hbox hg) | ((with_reducible refine gate_dst (N := 18) rfl ?_); refine be 18 #[.int .i64 0, .int .i64 0, .int .i64 0, .int .i64 0] 24 ?_; intro gb205 hg w171 hbox hb; have BK205 := Aside0.mk hbox; have GW205 := zW hg; replace HB := zS hb; have GE205 := GW205; have NB155_205 := zl BK155 hg rfl; have NB205_155 := zg BK155 hg rfl; replace BK155 := zb BK155 hb rfl; have NB156_205 := zl BK156 hg rfl; have NB205_156 := zg BK156 hg rfl; replace BK156 := zb BK156 hb rfl; have NB157_205 := zl BK157 hg rfl; have NB205_157 := zg BK157 hg rfl; replace BK157 := zb BK157 hb rfl; have NB158_205 := zl BK158 hg rfl; have NB205_158 := zg BK158 hg rfl; replace BK158 := zb BK158 hb rfl; have NB204_205 := zl BK204 hg rfl; have NB205_204 := zg BK204 hg rfl; replace BK204 := zb BK204 hb rfl; clear hb hbox hg; have hnb172 := NB204_155.out; have hnc172 := NB155_204.out; have hnb173 := NB204_156.out; have hnc173 := NB156_204.out; have hnb174 := NB204_157.out; have hnc174 := NB157_204.out; have hnb175 := NB204_158.out; have hnc175 := NB158_204.out; have hnb176 := NB204_205.out; have hnc176 := NB205_204.out; obtain ⟨hcz177_0, hcz177_1, hcz177_2, hcz177_3, hfz177_0, hfz177_1, hfz177_2, hfz177_3⟩ := zc4 BK204; have hnb178 := NB205_155.out; have hnc178 := NB155_205.out; have hnb179 := NB205_156.out; have hnc179 := NB156_205.out; have hnb180 := NB205_157.out; have hnc180 := NB157_205.out; have hnb181 := NB205_158.out; have hnc181 := NB158_205.out; obtain ⟨hcz182_0, hcz182_1, hcz182_2, hcz182_3, hfz182_0, hfz182_1, hfz182_2, hfz182_3⟩ := zc4 BK205))
            have n0_ : Aside0 (((((((((w171.setCell ⟨gb204, 0, none⟩ (.int .i64 t195)).setCell ⟨gb204, 1, none⟩ (.int .i64 t196)).setCell ⟨gb204, 2, none⟩ (.int .i64 t197)).setCell ⟨gb204, 3, none⟩ (.int .i64 t198)).setCell ⟨gb205, 0, none⟩ (.int .i64 t199)).setCell ⟨gb205, 1, none⟩ (.int .i64 t200)).setCell ⟨gb205, 2, none⟩ (.int .i64 t201)).setCell ⟨gb205, 3, none⟩ (.int .i64 t202)).heap[gb155]? = some (.cells #[.int .i64 a1_0, .int .i64 a1_1, .int .i64 a1_2, .int .i64 a1_3] 24 (0, 0))) := ⟨by refine fq ?_ NB155_205.out; refine fq ?_ NB155_205.out; refine fq ?_ NB155_205.out; refine fq ?_ NB155_205.out; refine fq ?_ NB155_204.out; refine fq ?_ NB155_204.out; refine fq ?_ NB155_204.out; refine fq ?_ NB155_204.out; exact bq BK155.out⟩
            have n1_ : Aside0 (((((((((w171.setCell ⟨gb204, 0, none⟩ (.int .i64 t195)).setCell ⟨gb204, 1, none⟩ (.int .i64 t196)).setCell ⟨gb204, 2, none⟩ (.int .i64 t197)).setCell ⟨gb204, 3, none⟩ (.int .i64 t198)).setCell ⟨gb205, 0, none⟩ (.int .i64 t199)).setCell ⟨gb205, 1, none⟩ (.int .i64 t200)).setCell ⟨gb205, 2, none⟩ (.int .i64 t201)).setCell ⟨gb205, 3, none⟩ (.int .i64 t202)).heap[gb156]? = some (.cells #[.int .i64 a2_0, .int .i64 a2_1, .int .i64 a2_2, .int .i64 a2_3] 24 (0, 0))) := ⟨by refine fq ?_ NB156_205.out; refine fq ?_ NB156_205.out; refine fq ?_ NB156_205.out; refine fq ?_ NB156_205.out; refine fq ?_ NB156_204.out; refine fq ?_ NB156_204.out; refine fq ?_ NB156_204.out; refine fq ?_ NB156_204.out; exact bq BK156.out⟩
            have n2_ : Aside0 (((((((((w171.setCell ⟨gb204, 0, none⟩ (.int .i64 t195)).setCell ⟨gb204, 1, none⟩ (.int .i64 t196)).setCell ⟨gb204, 2, none⟩ (.int .i64 t197)).setCell ⟨gb204, 3, none⟩ (.int .i64 t198)).setCell ⟨gb205, 0, none⟩ (.int .i64 t199)).setCell ⟨gb205, 1, none⟩ (.int .i64 t200)).setCell ⟨gb205, 2, none⟩ (.int .i64 t201)).setCell ⟨gb205, 3, none⟩ (.int .i64 t202)).heap[gb157]? = some (.cells #[.int .i64 0, .int .i64 0, .int .i64 0, .int .i64 0] 24 (0, 0))) := ⟨by refine fq ?_ NB157_205.out; refine fq ?_ NB157_205.out; refine fq ?_ NB157_205.out; refine fq ?_ NB157_205.out; refine fq ?_ NB157_204.out; refine fq ?_ NB157_204.out; refine fq ?_ NB157_204.out; refine fq ?_ NB157_204.out; exact bq BK157.out⟩
            have n3_ : Aside0 (((((((((w171.setCell ⟨gb204, 0, none⟩ (.int .i64 t195)).setCell ⟨gb204, 1, none⟩ (.int .i64 t196)).setCell ⟨gb204, 2, none⟩ (.int .i64 t197)).setCell ⟨gb204, 3, none⟩ (.int .i64 t198)).setCell ⟨gb205, 0, none⟩ (.int .i64 t199)).setCell ⟨gb205, 1, none⟩ (.int .i64 t200)).setCell ⟨gb205, 2, none⟩ (.int .i64 t201)).setCell ⟨gb205, 3, none⟩ (.int .i64 t202)).heap[gb158]? = some (.cells #[.int .i64 0, .int .i64 0, .int .i64 0, .int .i64 0] 24 (0, 0))) := ⟨by refine fq ?_ NB158_205.out; refine fq ?_ NB158_205.out; refine fq ?_ NB158_205.out; refine fq ?_ NB158_205.out; refine fq ?_ NB158_204.out; refine fq ?_ NB158_204.out; refine fq ?_ NB158_204.out; refine fq ?_ NB158_204.out; exact bq BK158.out⟩
            have n4_ : Aside0 (((((((((w171.setCell ⟨gb204, 0, none⟩ (.int .i64 t195)).setCell ⟨gb204, 1, none⟩ (.int .i64 t196)).setCell ⟨gb204, 2, none⟩ (.int .i64 t197)).setCell ⟨gb204, 3, none⟩ (.int .i64 t198)).setCell ⟨gb205, 0, none⟩ (.int .i64 t199)).setCell ⟨gb205, 1, none⟩ (.int .i64 t200)).setCell ⟨gb205, 2, none⟩ (.int .i64 t201)).setCell ⟨gb205, 3, none⟩ (.int .i64 t202)).heap[gb204]? = some (.cells #[.int .i64 t195, .int .i64 t196, .int .i64 t197, .int .i64 t198] 24 (0, 0))) := ⟨by refine fq ?_ NB204_205.out; refine fq ?_ NB204_205.out; refine fq ?_ NB204_205.out; refine fq ?_ NB204_205.out; refine bq ?_; refine blk_put (cs := #[.int .i64 t195, .int .i64 t196, .int .i64 t197, .int .i64 0]) ?_ 3 _ rfl; refine bq ?_; refine blk_put (cs := #[.int .i64 t195, .int .i64 t196, .int .i64 0, .int .i64 0]) ?_ 2 _ rfl; refine bq ?_; refine blk_put (cs := #[.int .i64 t195, .int .i64 0, .int .i64 0, .int .i64 0]) ?_ 1 _ rfl; refine bq ?_; refine blk_put (cs := #[.int .i64 0, .int .i64 0, .int .i64 0, .int .i64 0]) ?_ 0 _ rfl; exact bq BK204.out⟩
            have n5_ : Aside0 (((((((((w171.setCell ⟨gb204, 0, none⟩ (.int .i64 t195)).setCell ⟨gb204, 1, none⟩ (.int .i64 t196)).setCell ⟨gb204, 2, none⟩ (.int .i64 t197)).setCell ⟨gb204, 3, none⟩ (.int .i64 t198)).setCell ⟨gb205, 0, none⟩ (.int .i64 t199)).setCell ⟨gb205, 1, none⟩ (.int .i64 t200)).setCell ⟨gb205, 2, none⟩ (.int .i64 t201)).setCell ⟨gb205, 3, none⟩ (.int .i64 t202)).heap[gb205]? = some (.cells #[.int .i64 t199, .int .i64 t200, .int .i64 t201, .int .i64 t202] 24 (0, 0))) := ⟨by refine bq ?_; refine blk_put (cs := #[.int .i64 t199, .int .i64 t200, .int .i64 t201, .int .i64 0]) ?_ 3 _ rfl; refine bq ?_; refine blk_put (cs := #[.int .i64 t199, .int .i64 t200, .int .i64 0, .int .i64 0]) ?_ 2 _ rfl; refine bq ?_; refine blk_put (cs := #[.int .i64 t199, .int .i64 0, .int .i64 0, .int .i64 0]) ?_ 1 _ rfl; refine bq ?_; refine blk_put (cs := #[.int .i64 0, .int .i64 0, .int .i64 0, .int .i64 0]) ?_ 0 _ rfl; refine fq ?_ NB205_204.out; refine fq ?_ NB205_204.out; refine fq ?_ NB205_204.out; refine fq ?_ NB205_204.out; exact bq BK205.out⟩
            have n6_ : Aside0 (Below w.heap.size w ((((((((w171.setCell ⟨gb204, 0, none⟩ (.int .i64 t195)).setCell ⟨gb204, 1, none⟩ (.int .i64 t196)).setCell ⟨gb204, 2, none⟩ (.int .i64 t197)).setCell ⟨gb204, 3, none⟩ (.int .i64 t198)).setCell ⟨gb205, 0, none⟩ (.int .i64 t199)).setCell ⟨gb205, 1, none⟩ (.int .i64 t200)).setCell ⟨gb205, 2, none⟩ (.int .i64 t201)).setCell ⟨gb205, 3, none⟩ (.int .i64 t202))) := ⟨zB⟩
            (try clear BK155)
            (try clear BK156)
            (try clear BK157)
            (try clear BK158)
            (try clear BK204)
            (try clear BK205)
            (try clear HB)
            generalize ((((((((w171.setCell ⟨gb204, 0, none⟩ (.int .i64 t195)).setCell ⟨gb204, 1, none⟩ (.int .i64 t196)).setCell ⟨gb204, 2, none⟩ (.int .i64 t197)).setCell ⟨gb204, 3, none⟩ (.int .i64 t198)).setCell ⟨gb205, 0, none⟩ (.int .i64 t199)).setCell ⟨gb205, 1, none⟩ (.int .i64 t200)).setCell ⟨gb205, 2, none⟩ (.int .i64 t201)).setCell ⟨gb205, 3, none⟩ (.int .i64 t202)) = w183 at n0_ n1_ n2_ n3_ n4_ n5_ n6_ ⊢
            have BK155 := n0_
            have BK156 := n1_
            have BK157 := n2_
            have BK158 := n3_
            have BK204 := n4_
            have BK205 := n5_
            have HB := n6_
            clear n0_ n1_ n2_ n3_ n4_ n5_ n6_
            replace BK155 := Aside0.mk (blk_drew BK155.out)
            replace BK156 := Aside0.mk (blk_drew BK156.out)
            replace BK157 := Aside0.mk (blk_drew BK157.out)
            replace BK158 := Aside0.mk (blk_drew BK158.out)
            replace BK204 := Aside0.mk (blk_drew BK204.out)
            replace BK205 := Aside0.mk (blk_drew BK205.out)
            replace HB := Aside0.mk (below_drew1 HB.out)
            refine start_ (n := 6) (S := fun w' => w'.cell? ⟨gb205, 0, none⟩ = some (.int .i64 t199) ∧ w'.cell? ⟨gb205, 1, none⟩ = some (.int .i64 t200) ∧ w'.cell? ⟨gb205, 2, none⟩ = some (.int .i64 t201) ∧ w'.cell? ⟨gb205, 3, none⟩ = some (.int .i64 t202) ∧ w'.cell? ⟨gb204, 0, none⟩ = some (.int .i64 t195) ∧ w'.cell? ⟨gb204, 1, none⟩ = some (.int .i64 t196) ∧ w'.cell? ⟨gb204, 2, none⟩ = some (.int .i64 t197) ∧ w'.cell? ⟨gb204, 3, none⟩ = some (.int .i64 t198)) (ds := []) #[false, false, false, false, false, false] (by kernel_rfl) rfl rfl ⟨(blk_cell BK205.out 0).trans rfl, (blk_cell BK205.out 1).trans rfl, (blk_cell BK205.out 2).trans rfl, (blk_cell BK205.out 3).trans rfl, (blk_cell BK204.out 0).trans rfl, (blk_cell BK204.out 1).trans rfl, (blk_cell BK204.out 2).trans rfl, (blk_cell BK204.out 3).trans rfl⟩ (fun hHeld => ?_)
            generalize w183.drew = w184 at BK155 BK156 BK157 BK158 BK204 BK205 HB hHeld ⊢
            refine pz 2 103 ?_
            refine tz 0 101 ?_
            refine tz 1 102 ?_
            refine oN 3 fun K hK => ?_
            have hs185 : w184.cell? ⟨gb157, 0, none⟩ = some (.int .i64 0) := (blk_cell BK157.out 0).trans rfl
            have hfs185 := blk_frozen BK157.out 0
            have hns185_0 := NB155_157.out
            have hns185_1 := NB156_157.out
            have hns185_3 := NB158_157.out
            have hns185_4 := NB204_157.out
            have hns185_5 := NB205_157.out
            have hms185_0 := NB157_155.out
            have hms185_1 := NB157_156.out
            have hms185_3 := NB157_158.out
            have hms185_4 := NB157_204.out
            have hms185_5 := NB157_205.out
            have hs186 : w184.cell? ⟨gb157, 1, none⟩ = some (.int .i64 0) := (blk_cell BK157.out 1).trans rfl
            have hfs186 := blk_frozen BK157.out 1
            have hns186_0 := NB155_157.out
            have hns186_1 := NB156_157.out
            have hns186_3 := NB158_157.out
            have hns186_4 := NB204_157.out
            have hns186_5 := NB205_157.out
            have hms186_0 := NB157_155.out
            have hms186_1 := NB157_156.out
            have hms186_3 := NB157_158.out
            have hms186_4 := NB157_204.out
            have hms186_5 := NB157_205.out
            have hs187 : w184.cell? ⟨gb157, 2, none⟩ = some (.int .i64 0) := (blk_cell BK157.out 2).trans rfl
            have hfs187 := blk_frozen BK157.out 2
            have hns187_0 := NB155_157.out
            have hns187_1 := NB156_157.out
            have hns187_3 := NB158_157.out
            have hns187_4 := NB204_157.out
            have hns187_5 := NB205_157.out
            have hms187_0 := NB157_155.out
            have hms187_1 := NB157_156.out
            have hms187_3 := NB157_158.out
            have hms187_4 := NB157_204.out
            have hms187_5 := NB157_205.out
            have hs188 : w184.cell? ⟨gb157, 3, none⟩ = some (.int .i64 0) := (blk_cell BK157.out 3).trans rfl
            have hfs188 := blk_frozen BK157.out 3
            have hns188_0 := NB155_157.out
            have hns188_1 := NB156_157.out
            have hns188_3 := NB158_157.out
            have hns188_4 := NB204_157.out
            have hns188_5 := NB205_157.out
            have hms188_0 := NB157_155.out
            have hms188_1 := NB157_156.out
            have hms188_3 := NB157_158.out
            have hms188_4 := NB157_204.out
            have hms188_5 := NB157_205.out
            refine skip_ (w1 := ?_) (by rfl) rfl ?_ ?_
            rotate_left
            ·go_simp
             rfl
            refine hK.out _ _ ⟨((cell_far (p := ⟨gb157, _, none⟩) NB205_157.out _).trans (((cell_far (p := ⟨gb157, _, none⟩) NB205_157.out _).trans (((cell_far (p := ⟨gb157, _, none⟩) NB205_157.out _).trans (((cell_far (p := ⟨gb157, _, none⟩) NB205_157.out _).trans (hHeld.1)))))))), ((cell_far (p := ⟨gb157, _, none⟩) NB205_157.out _).trans (((cell_far (p := ⟨gb157, _, none⟩) NB205_157.out _).trans (((cell_far (p := ⟨gb157, _, none⟩) NB205_157.out _).trans (((cell_far (p := ⟨gb157, _, none⟩) NB205_157.out _).trans (hHeld.2.1)))))))), ((cell_far (p := ⟨gb157, _, none⟩) NB205_157.out _).trans (((cell_far (p := ⟨gb157, _, none⟩) NB205_157.out _).trans (((cell_far (p := ⟨gb157, _, none⟩) NB205_157.out _).trans (((cell_far (p := ⟨gb157, _, none⟩) NB205_157.out _).trans (hHeld.2.2.1)))))))), ((cell_far (p := ⟨gb157, _, none⟩) NB205_157.out _).trans (((cell_far (p := ⟨gb157, _, none⟩) NB205_157.out _).trans (((cell_far (p := ⟨gb157, _, none⟩) NB205_157.out _).trans (((cell_far (p := ⟨gb157, _, none⟩) NB205_157.out _).trans (hHeld.2.2.2.1)))))))), ((cell_far (p := ⟨gb157, _, none⟩) NB204_157.out _).trans (((cell_far (p := ⟨gb157, _, none⟩) NB204_157.out _).trans (((cell_far (p := ⟨gb157, _, none⟩) NB204_157.out _).trans (((cell_far (p := ⟨gb157, _, none⟩) NB204_157.out _).trans (hHeld.2.2.2.2.1)))))))), ((cell_far (p := ⟨gb157, _, none⟩) NB204_157.out _).trans (((cell_far (p := ⟨gb157, _, none⟩) NB204_157.out _).trans (((cell_far (p := ⟨gb157, _, none⟩) NB204_157.out _).trans (((cell_far (p := ⟨gb157, _, none⟩) NB204_157.out _).trans (hHeld.2.2.2.2.2.1)))))))), ((cell_far (p := ⟨gb157, _, none⟩) NB204_157.out _).trans (((cell_far (p := ⟨gb157, _, none⟩) NB204_157.out _).trans (((cell_far (p := ⟨gb157, _, none⟩) NB204_157.out _).trans (((cell_far (p := ⟨gb157, _, none⟩) NB204_157.out _).trans (hHeld.2.2.2.2.2.2.1)))))))), ((cell_far (p := ⟨gb157, _, none⟩) NB204_157.out _).trans (((cell_far (p := ⟨gb157, _, none⟩) NB204_157.out _).trans (((cell_far (p := ⟨gb157, _, none⟩) NB204_157.out _).trans (((cell_far (p := ⟨gb157, _, none⟩) NB204_157.out _).trans (hHeld.2.2.2.2.2.2.2))))))))⟩ (fun hHeld => ?_)
            clear hK K
            refine oN 4 fun K hK => ?_
            have hs189 : w184.cell? ⟨gb158, 0, none⟩ = some (.int .i64 0) := (blk_cell BK158.out 0).trans rfl
            have hfs189 := blk_frozen BK158.out 0
            have hns189_0 := NB155_158.out
            have hns189_1 := NB156_158.out
            have hns189_2 := NB157_158.out
            have hns189_4 := NB204_158.out
            have hns189_5 := NB205_158.out
            have hms189_0 := NB158_155.out
            have hms189_1 := NB158_156.out
            have hms189_2 := NB158_157.out
            have hms189_4 := NB158_204.out
            have hms189_5 := NB158_205.out
            have hs190 : w184.cell? ⟨gb158, 1, none⟩ = some (.int .i64 0) := (blk_cell BK158.out 1).trans rfl
            have hfs190 := blk_frozen BK158.out 1
            have hns190_0 := NB155_158.out
            have hns190_1 := NB156_158.out
            have hns190_2 := NB157_158.out
            have hns190_4 := NB204_158.out
            have hns190_5 := NB205_158.out
            have hms190_0 := NB158_155.out
            have hms190_1 := NB158_156.out
            have hms190_2 := NB158_157.out
            have hms190_4 := NB158_204.out
            have hms190_5 := NB158_205.out
            have hs191 : w184.cell? ⟨gb158, 2, none⟩ = some (.int .i64 0) := (blk_cell BK158.out 2).trans rfl
            have hfs191 := blk_frozen BK158.out 2
            have hns191_0 := NB155_158.out
            have hns191_1 := NB156_158.out
            have hns191_2 := NB157_158.out
            have hns191_4 := NB204_158.out
            have hns191_5 := NB205_158.out
            have hms191_0 := NB158_155.out
            have hms191_1 := NB158_156.out
            have hms191_2 := NB158_157.out
            have hms191_4 := NB158_204.out
            have hms191_5 := NB158_205.out
            have hs192 : w184.cell? ⟨gb158, 3, none⟩ = some (.int .i64 0) := (blk_cell BK158.out 3).trans rfl
            have hfs192 := blk_frozen BK158.out 3
            have hns192_0 := NB155_158.out
            have hns192_1 := NB156_158.out
            have hns192_2 := NB157_158.out
            have hns192_4 := NB204_158.out
            have hns192_5 := NB205_158.out
            have hms192_0 := NB158_155.out
            have hms192_1 := NB158_156.out
            have hms192_2 := NB158_157.out
            have hms192_4 := NB158_204.out
            have hms192_5 := NB158_205.out
            refine skip_ (w1 := ?_) (by rfl) rfl ?_ ?_
            rotate_left
            ·go_simp
             rfl
            refine hK.out _ _ ⟨((cell_far (p := ⟨gb158, _, none⟩) NB205_158.out _).trans (((cell_far (p := ⟨gb158, _, none⟩) NB205_158.out _).trans (((cell_far (p := ⟨gb158, _, none⟩) NB205_158.out _).trans (((cell_far (p := ⟨gb158, _, none⟩) NB205_158.out _).trans (hHeld.1)))))))), ((cell_far (p := ⟨gb158, _, none⟩) NB205_158.out _).trans (((cell_far (p := ⟨gb158, _, none⟩) NB205_158.out _).trans (((cell_far (p := ⟨gb158, _, none⟩) NB205_158.out _).trans (((cell_far (p := ⟨gb158, _, none⟩) NB205_158.out _).trans (hHeld.2.1)))))))), ((cell_far (p := ⟨gb158, _, none⟩) NB205_158.out _).trans (((cell_far (p := ⟨gb158, _, none⟩) NB205_158.out _).trans (((cell_far (p := ⟨gb158, _, none⟩) NB205_158.out _).trans (((cell_far (p := ⟨gb158, _, none⟩) NB205_158.out _).trans (hHeld.2.2.1)))))))), ((cell_far (p := ⟨gb158, _, none⟩) NB205_158.out _).trans (((cell_far (p := ⟨gb158, _, none⟩) NB205_158.out _).trans (((cell_far (p := ⟨gb158, _, none⟩) NB205_158.out _).trans (((cell_far (p := ⟨gb158, _, none⟩) NB205_158.out _).trans (hHeld.2.2.2.1)))))))), ((cell_far (p := ⟨gb158, _, none⟩) NB204_158.out _).trans (((cell_far (p := ⟨gb158, _, none⟩) NB204_158.out _).trans (((cell_far (p := ⟨gb158, _, none⟩) NB204_158.out _).trans (((cell_far (p := ⟨gb158, _, none⟩) NB204_158.out _).trans (hHeld.2.2.2.2.1)))))))), ((cell_far (p := ⟨gb158, _, none⟩) NB204_158.out _).trans (((cell_far (p := ⟨gb158, _, none⟩) NB204_158.out _).trans (((cell_far (p := ⟨gb158, _, none⟩) NB204_158.out _).trans (((cell_far (p := ⟨gb158, _, none⟩) NB204_158.out _).trans (hHeld.2.2.2.2.2.1)))))))), ((cell_far (p := ⟨gb158, _, none⟩) NB204_158.out _).trans (((cell_far (p := ⟨gb158, _, none⟩) NB204_158.out _).trans (((cell_far (p := ⟨gb158, _, none⟩) NB204_158.out _).trans (((cell_far (p := ⟨gb158, _, none⟩) NB204_158.out _).trans (hHeld.2.2.2.2.2.2.1)))))))), ((cell_far (p := ⟨gb158, _, none⟩) NB204_158.out _).trans (((cell_far (p := ⟨gb158, _, none⟩) NB204_158.out _).trans (((cell_far (p := ⟨gb158, _, none⟩) NB204_158.out _).trans (((cell_far (p := ⟨gb158, _, none⟩) NB204_158.out _).trans (hHeld.2.2.2.2.2.2.2))))))))⟩ (fun hHeld => ?_)
            clear hK K
            refine pz 5 10 ?_
            refine done_ (by kernel_rfl) ?_
            try go_wp2
            refine bodyPost_ret (results_list (rs := [.cell 8 24, .cell 9 24, .tmp 10]) rfl (by simp) (.cell gb157 24 #[.int .i64 t199, .int .i64 t200, .int .i64 t201, .int .i64 t202] (0, 0) _ rfl (by refine fq ?_ NB157_158.out; refine fq ?_ NB157_158.out; refine fq ?_ NB157_158.out; refine fq ?_ NB157_158.out; refine bq ?_; refine blk_put (cs := #[.int .i64 t199, .int .i64 t200, .int .i64 t201, .int .i64 0]) ?_ 3 _ rfl; refine bq ?_; refine blk_put (cs := #[.int .i64 t199, .int .i64 t200, .int .i64 0, .int .i64 0]) ?_ 2 _ rfl; refine bq ?_; refine blk_put (cs := #[.int .i64 t199, .int .i64 0, .int .i64 0, .int .i64 0]) ?_ 1 _ rfl; refine bq ?_; refine blk_put (cs := #[.int .i64 0, .int .i64 0, .int .i64 0, .int .i64 0]) ?_ 0 _ rfl; exact bq BK157.out) Try.underlying24 rfl (by kernel_rfl) (.cell gb158 24 #[.int .i64 t195, .int .i64 t196, .int .i64 t197, .int .i64 t198] (0, 0) _ rfl (by refine bq ?_; refine blk_put (cs := #[.int .i64 t195, .int .i64 t196, .int .i64 t197, .int .i64 0]) ?_ 3 _ rfl; refine bq ?_; refine blk_put (cs := #[.int .i64 t195, .int .i64 t196, .int .i64 0, .int .i64 0]) ?_ 2 _ rfl; refine bq ?_; refine blk_put (cs := #[.int .i64 t195, .int .i64 0, .int .i64 0, .int .i64 0]) ?_ 1 _ rfl; refine bq ?_; refine blk_put (cs := #[.int .i64 0, .int .i64 0, .int .i64 0, .int .i64 0]) ?_ 0 _ rfl; refine fq ?_ NB158_157.out; refine fq ?_ NB158_157.out; refine fq ?_ NB158_157.out; refine fq ?_ NB158_157.out; exact bq BK158.out) Try.underlying24 rfl (by kernel_rfl) (.tmp .nil)))) rfl ?_
            exact ⟨zR, zB⟩
           ·rw [if_neg c160] at H
            have c160b0 : (a0 == 14) = false := beq_eq_false_iff_ne.mpr c160
            have c160b1 : (a0 != 14) = true := bne_iff_ne.mpr c160
            replace H := Option.bind_eq_some_iff.mp H
            obtain ⟨⟨t206, t207, t208, t209, t210, t211, t212, t213, t214⟩, A1930, H⟩ := H
            try dsimp only at H
            have A193 := Aside0.mk A1930
            clear A1930
            simp only [Option.some.injEq, Prod.mk.injEq] at H
            obtain ⟨rfl, rfl, rfl, rfl, rfl, rfl, rfl, rfl, rfl⟩ := H
            have hnb194 := NB156_155.out
            have hnc194 := NB155_156.out
            have hnb195 := NB156_157.out
            have hnc195 := NB157_156.out
            have hnb196 := NB156_158.out
            have hnc196 := NB158_156.out
            obtain ⟨hcz197_0, hcz197_1, hcz197_2, hcz197_3, hfz197_0, hfz197_1, hfz197_2, hfz197_3⟩ := zc4 BK156
            have hnb198 := NB155_157.out
            have hnc198 := NB157_155.out
            have hnb199 := NB155_158.out
            have hnc199 := NB158_155.out
            obtain ⟨hcz200_0, hcz200_1, hcz200_2, hcz200_3, hfz200_0, hfz200_1, hfz200_2, hfz200_3⟩ := zc4 BK155
            try go_wp2_with (first | ((with_reducible refine gate_callee (f := 22) rfl ?_); refine gl 107 Try.func22 #[.agg #[.int .i64 a2_0, .int .i64 a2_1, .int .i64 a2_2, .int .i64 a2_3], .agg #[.int .i64 a1_0, .int .i64 a1_1, .int .i64 a1_2, .int .i64 a1_3], .int .i64 1] ?_; (with_reducible refine (spec_l2Below.calls kj144 a2_0 a2_1 a2_2 a2_3 a1_0 a1_1 a1_2 a1_3 1 t206 t207 t208 t209 t210 t211 t212 t213 t214 _ A193.out).mono ?_); rintro e w201 ⟨rfl, hb⟩; refine ⟨_, rfl, ?_⟩; replace BK155 := zb BK155 hb rfl; replace BK156 := zb BK156 hb rfl; replace BK157 := zb BK157 hb rfl; replace BK158 := zb BK158 hb rfl; replace HB := zS hb; try clear hb) | ((with_reducible refine gate_dst (N := 20) rfl ?_); refine be 20 #[.int .i64 0, .int .i64 0, .int .i64 0, .int .i64 0] 24 ?_; intro gb215 hg w202 hbox hb; have BK215 := Aside0.mk hbox; have GW215 := zW hg; replace HB := zS hb; have GE215 := GW215; have NB155_215 := zl BK155 hg rfl; have NB215_155 := zg BK155 hg rfl; replace BK155 := zb BK155 hb rfl; have NB156_215 := zl BK156 hg rfl; have NB215_156 := zg BK156 hg rfl; replace BK156 := zb BK156 hb rfl; have NB157_215 := zl BK157 hg rfl; have NB215_157 := zg BK157 hg rfl; replace BK157 := zb BK157 hb rfl; have NB158_215 := zl BK158 hg rfl; have NB215_158 := zg BK158 hg rfl; replace BK158 := zb BK158 hb rfl; clear hb hbox hg) | ((with_reducible refine gate_dst (N := 21) rfl ?_); refine be 21 #[.int .i64 0, .int .i64 0, .int .i64 0, .int .i64 0] 24 ?_; intro gb216 hg w203 hbox hb; have BK216 := Aside0.mk hbox; have GW216 := zW hg; replace HB := zS hb; have GE216 := GW216; have NB155_216 := zl BK155 hg rfl; have NB216_155 := zg BK155 hg rfl; replace BK155 := zb BK155 hb rfl; have NB156_216 := zl BK156 hg rfl; have NB216_156 := zg BK156 hg rfl; replace BK156 := zb BK156 hb rfl; have NB157_216 := zl BK157 hg rfl; have NB216_157 := zg BK157 hg rfl; replace BK157 := zb BK157 hb rfl; have NB158_216 := zl BK158 hg rfl; have NB216_158 := zg BK158 hg rfl; replace BK158 := zb BK158 hb rfl; have NB215_216 := zl BK215 hg rfl; have NB216_215 := zg BK215 hg rfl; replace BK215 := zb BK215 hb rfl; clear hb hbox hg; have hnb204 := NB215_155.out; have hnc204 := NB155_215.out; have hnb205 := NB215_156.out; have hnc205 := NB156_215.out; have hnb206 := NB215_157.out; have hnc206 := NB157_215.out; have hnb207 := NB215_158.out; have hnc207 := NB158_215.out; have hnb208 := NB215_216.out; have hnc208 := NB216_215.out; obtain ⟨hcz209_0, hcz209_1, hcz209_2, hcz209_3, hfz209_0, hfz209_1, hfz209_2, hfz209_3⟩ := zc4 BK215; have hnb210 := NB216_155.out; have hnc210 := NB155_216.out; have hnb211 := NB216_156.out; have hnc211 := NB156_216.out; have hnb212 := NB216_157.out; have hnc212 := NB157_216.out; have hnb213 := NB216_158.out; have hnc213 := NB158_216.out; obtain ⟨hcz214_0, hcz214_1, hcz214_2, hcz214_3, hfz214_0, hfz214_1, hfz214_2, hfz214_3⟩ := zc4 BK216))
            have n0_ : Aside0 (((((((((w203.setCell ⟨gb215, 0, none⟩ (.int .i64 t206)).setCell ⟨gb215, 1, none⟩ (.int .i64 t207)).setCell ⟨gb215, 2, none⟩ (.int .i64 t208)).setCell ⟨gb215, 3, none⟩ (.int .i64 t209)).setCell ⟨gb216, 0, none⟩ (.int .i64 t210)).setCell ⟨gb216, 1, none⟩ (.int .i64 t211)).setCell ⟨gb216, 2, none⟩ (.int .i64 t212)).setCell ⟨gb216, 3, none⟩ (.int .i64 t213)).heap[gb155]? = some (.cells #[.int .i64 a1_0, .int .i64 a1_1, .int .i64 a1_2, .int .i64 a1_3] 24 (0, 0))) := ⟨by refine fq ?_ NB155_216.out; refine fq ?_ NB155_216.out; refine fq ?_ NB155_216.out; refine fq ?_ NB155_216.out; refine fq ?_ NB155_215.out; refine fq ?_ NB155_215.out; refine fq ?_ NB155_215.out; refine fq ?_ NB155_215.out; exact bq BK155.out⟩
            have n1_ : Aside0 (((((((((w203.setCell ⟨gb215, 0, none⟩ (.int .i64 t206)).setCell ⟨gb215, 1, none⟩ (.int .i64 t207)).setCell ⟨gb215, 2, none⟩ (.int .i64 t208)).setCell ⟨gb215, 3, none⟩ (.int .i64 t209)).setCell ⟨gb216, 0, none⟩ (.int .i64 t210)).setCell ⟨gb216, 1, none⟩ (.int .i64 t211)).setCell ⟨gb216, 2, none⟩ (.int .i64 t212)).setCell ⟨gb216, 3, none⟩ (.int .i64 t213)).heap[gb156]? = some (.cells #[.int .i64 a2_0, .int .i64 a2_1, .int .i64 a2_2, .int .i64 a2_3] 24 (0, 0))) := ⟨by refine fq ?_ NB156_216.out; refine fq ?_ NB156_216.out; refine fq ?_ NB156_216.out; refine fq ?_ NB156_216.out; refine fq ?_ NB156_215.out; refine fq ?_ NB156_215.out; refine fq ?_ NB156_215.out; refine fq ?_ NB156_215.out; exact bq BK156.out⟩
            have n2_ : Aside0 (((((((((w203.setCell ⟨gb215, 0, none⟩ (.int .i64 t206)).setCell ⟨gb215, 1, none⟩ (.int .i64 t207)).setCell ⟨gb215, 2, none⟩ (.int .i64 t208)).setCell ⟨gb215, 3, none⟩ (.int .i64 t209)).setCell ⟨gb216, 0, none⟩ (.int .i64 t210)).setCell ⟨gb216, 1, none⟩ (.int .i64 t211)).setCell ⟨gb216, 2, none⟩ (.int .i64 t212)).setCell ⟨gb216, 3, none⟩ (.int .i64 t213)).heap[gb157]? = some (.cells #[.int .i64 0, .int .i64 0, .int .i64 0, .int .i64 0] 24 (0, 0))) := ⟨by refine fq ?_ NB157_216.out; refine fq ?_ NB157_216.out; refine fq ?_ NB157_216.out; refine fq ?_ NB157_216.out; refine fq ?_ NB157_215.out; refine fq ?_ NB157_215.out; refine fq ?_ NB157_215.out; refine fq ?_ NB157_215.out; exact bq BK157.out⟩
            have n3_ : Aside0 (((((((((w203.setCell ⟨gb215, 0, none⟩ (.int .i64 t206)).setCell ⟨gb215, 1, none⟩ (.int .i64 t207)).setCell ⟨gb215, 2, none⟩ (.int .i64 t208)).setCell ⟨gb215, 3, none⟩ (.int .i64 t209)).setCell ⟨gb216, 0, none⟩ (.int .i64 t210)).setCell ⟨gb216, 1, none⟩ (.int .i64 t211)).setCell ⟨gb216, 2, none⟩ (.int .i64 t212)).setCell ⟨gb216, 3, none⟩ (.int .i64 t213)).heap[gb158]? = some (.cells #[.int .i64 0, .int .i64 0, .int .i64 0, .int .i64 0] 24 (0, 0))) := ⟨by refine fq ?_ NB158_216.out; refine fq ?_ NB158_216.out; refine fq ?_ NB158_216.out; refine fq ?_ NB158_216.out; refine fq ?_ NB158_215.out; refine fq ?_ NB158_215.out; refine fq ?_ NB158_215.out; refine fq ?_ NB158_215.out; exact bq BK158.out⟩
            have n4_ : Aside0 (((((((((w203.setCell ⟨gb215, 0, none⟩ (.int .i64 t206)).setCell ⟨gb215, 1, none⟩ (.int .i64 t207)).setCell ⟨gb215, 2, none⟩ (.int .i64 t208)).setCell ⟨gb215, 3, none⟩ (.int .i64 t209)).setCell ⟨gb216, 0, none⟩ (.int .i64 t210)).setCell ⟨gb216, 1, none⟩ (.int .i64 t211)).setCell ⟨gb216, 2, none⟩ (.int .i64 t212)).setCell ⟨gb216, 3, none⟩ (.int .i64 t213)).heap[gb215]? = some (.cells #[.int .i64 t206, .int .i64 t207, .int .i64 t208, .int .i64 t209] 24 (0, 0))) := ⟨by refine fq ?_ NB215_216.out; refine fq ?_ NB215_216.out; refine fq ?_ NB215_216.out; refine fq ?_ NB215_216.out; refine bq ?_; refine blk_put (cs := #[.int .i64 t206, .int .i64 t207, .int .i64 t208, .int .i64 0]) ?_ 3 _ rfl; refine bq ?_; refine blk_put (cs := #[.int .i64 t206, .int .i64 t207, .int .i64 0, .int .i64 0]) ?_ 2 _ rfl; refine bq ?_; refine blk_put (cs := #[.int .i64 t206, .int .i64 0, .int .i64 0, .int .i64 0]) ?_ 1 _ rfl; refine bq ?_; refine blk_put (cs := #[.int .i64 0, .int .i64 0, .int .i64 0, .int .i64 0]) ?_ 0 _ rfl; exact bq BK215.out⟩
            have n5_ : Aside0 (((((((((w203.setCell ⟨gb215, 0, none⟩ (.int .i64 t206)).setCell ⟨gb215, 1, none⟩ (.int .i64 t207)).setCell ⟨gb215, 2, none⟩ (.int .i64 t208)).setCell ⟨gb215, 3, none⟩ (.int .i64 t209)).setCell ⟨gb216, 0, none⟩ (.int .i64 t210)).setCell ⟨gb216, 1, none⟩ (.int .i64 t211)).setCell ⟨gb216, 2, none⟩ (.int .i64 t212)).setCell ⟨gb216, 3, none⟩ (.int .i64 t213)).heap[gb216]? = some (.cells #[.int .i64 t210, .int .i64 t211, .int .i64 t212, .int .i64 t213] 24 (0, 0))) := ⟨by refine bq ?_; refine blk_put (cs := #[.int .i64 t210, .int .i64 t211, .int .i64 t212, .int .i64 0]) ?_ 3 _ rfl; refine bq ?_; refine blk_put (cs := #[.int .i64 t210, .int .i64 t211, .int .i64 0, .int .i64 0]) ?_ 2 _ rfl; refine bq ?_; refine blk_put (cs := #[.int .i64 t210, .int .i64 0, .int .i64 0, .int .i64 0]) ?_ 1 _ rfl; refine bq ?_; refine blk_put (cs := #[.int .i64 0, .int .i64 0, .int .i64 0, .int .i64 0]) ?_ 0 _ rfl; refine fq ?_ NB216_215.out; refine fq ?_ NB216_215.out; refine fq ?_ NB216_215.out; refine fq ?_ NB216_215.out; exact bq BK216.out⟩
            have n6_ : Aside0 (Below w.heap.size w ((((((((w203.setCell ⟨gb215, 0, none⟩ (.int .i64 t206)).setCell ⟨gb215, 1, none⟩ (.int .i64 t207)).setCell ⟨gb215, 2, none⟩ (.int .i64 t208)).setCell ⟨gb215, 3, none⟩ (.int .i64 t209)).setCell ⟨gb216, 0, none⟩ (.int .i64 t210)).setCell ⟨gb216, 1, none⟩ (.int .i64 t211)).setCell ⟨gb216, 2, none⟩ (.int .i64 t212)).setCell ⟨gb216, 3, none⟩ (.int .i64 t213))) := ⟨zB⟩
            (try clear BK155)
            (try clear BK156)
            (try clear BK157)
            (try clear BK158)
            (try clear BK215)
            (try clear BK216)
            (try clear HB)
            generalize ((((((((w203.setCell ⟨gb215, 0, none⟩ (.int .i64 t206)).setCell ⟨gb215, 1, none⟩ (.int .i64 t207)).setCell ⟨gb215, 2, none⟩ (.int .i64 t208)).setCell ⟨gb215, 3, none⟩ (.int .i64 t209)).setCell ⟨gb216, 0, none⟩ (.int .i64 t210)).setCell ⟨gb216, 1, none⟩ (.int .i64 t211)).setCell ⟨gb216, 2, none⟩ (.int .i64 t212)).setCell ⟨gb216, 3, none⟩ (.int .i64 t213)) = w215 at n0_ n1_ n2_ n3_ n4_ n5_ n6_ ⊢
            have BK155 := n0_
            have BK156 := n1_
            have BK157 := n2_
            have BK158 := n3_
            have BK215 := n4_
            have BK216 := n5_
            have HB := n6_
            clear n0_ n1_ n2_ n3_ n4_ n5_ n6_
            replace BK155 := Aside0.mk (blk_drew BK155.out)
            replace BK156 := Aside0.mk (blk_drew BK156.out)
            replace BK157 := Aside0.mk (blk_drew BK157.out)
            replace BK158 := Aside0.mk (blk_drew BK158.out)
            replace BK215 := Aside0.mk (blk_drew BK215.out)
            replace BK216 := Aside0.mk (blk_drew BK216.out)
            replace HB := Aside0.mk (below_drew1 HB.out)
            refine start_ (n := 6) (S := fun w' => w'.cell? ⟨gb216, 0, none⟩ = some (.int .i64 t210) ∧ w'.cell? ⟨gb216, 1, none⟩ = some (.int .i64 t211) ∧ w'.cell? ⟨gb216, 2, none⟩ = some (.int .i64 t212) ∧ w'.cell? ⟨gb216, 3, none⟩ = some (.int .i64 t213) ∧ w'.cell? ⟨gb215, 0, none⟩ = some (.int .i64 t206) ∧ w'.cell? ⟨gb215, 1, none⟩ = some (.int .i64 t207) ∧ w'.cell? ⟨gb215, 2, none⟩ = some (.int .i64 t208) ∧ w'.cell? ⟨gb215, 3, none⟩ = some (.int .i64 t209)) (ds := []) #[false, false, false, false, false, false] (by kernel_rfl) rfl rfl ⟨(blk_cell BK216.out 0).trans rfl, (blk_cell BK216.out 1).trans rfl, (blk_cell BK216.out 2).trans rfl, (blk_cell BK216.out 3).trans rfl, (blk_cell BK215.out 0).trans rfl, (blk_cell BK215.out 1).trans rfl, (blk_cell BK215.out 2).trans rfl, (blk_cell BK215.out 3).trans rfl⟩ (fun hHeld => ?_)
            generalize w215.drew = w216 at BK155 BK156 BK157 BK158 BK215 BK216 HB hHeld ⊢
            refine pz 2 113 ?_
            refine tz 0 111 ?_
            refine tz 1 112 ?_
            refine oN 3 fun K hK => ?_
            have hs217 : w216.cell? ⟨gb157, 0, none⟩ = some (.int .i64 0) := (blk_cell BK157.out 0).trans rfl
            have hfs217 := blk_frozen BK157.out 0
            have hns217_0 := NB155_157.out
            have hns217_1 := NB156_157.out
            have hns217_3 := NB158_157.out
            have hns217_4 := NB215_157.out
            have hns217_5 := NB216_157.out
            have hms217_0 := NB157_155.out
            have hms217_1 := NB157_156.out
            have hms217_3 := NB157_158.out
            have hms217_4 := NB157_215.out
            have hms217_5 := NB157_216.out
            have hs218 : w216.cell? ⟨gb157, 1, none⟩ = some (.int .i64 0) := (blk_cell BK157.out 1).trans rfl
            have hfs218 := blk_frozen BK157.out 1
            have hns218_0 := NB155_157.out
            have hns218_1 := NB156_157.out
            have hns218_3 := NB158_157.out
            have hns218_4 := NB215_157.out
            have hns218_5 := NB216_157.out
            have hms218_0 := NB157_155.out
            have hms218_1 := NB157_156.out
            have hms218_3 := NB157_158.out
            have hms218_4 := NB157_215.out
            have hms218_5 := NB157_216.out
            have hs219 : w216.cell? ⟨gb157, 2, none⟩ = some (.int .i64 0) := (blk_cell BK157.out 2).trans rfl
            have hfs219 := blk_frozen BK157.out 2
            have hns219_0 := NB155_157.out
            have hns219_1 := NB156_157.out
            have hns219_3 := NB158_157.out
            have hns219_4 := NB215_157.out
            have hns219_5 := NB216_157.out
            have hms219_0 := NB157_155.out
            have hms219_1 := NB157_156.out
            have hms219_3 := NB157_158.out
            have hms219_4 := NB157_215.out
            have hms219_5 := NB157_216.out
            have hs220 : w216.cell? ⟨gb157, 3, none⟩ = some (.int .i64 0) := (blk_cell BK157.out 3).trans rfl
            have hfs220 := blk_frozen BK157.out 3
            have hns220_0 := NB155_157.out
            have hns220_1 := NB156_157.out
            have hns220_3 := NB158_157.out
            have hns220_4 := NB215_157.out
            have hns220_5 := NB216_157.out
            have hms220_0 := NB157_155.out
            have hms220_1 := NB157_156.out
            have hms220_3 := NB157_158.out
            have hms220_4 := NB157_215.out
            have hms220_5 := NB157_216.out
            refine skip_ (w1 := ?_) (by rfl) rfl ?_ ?_
            rotate_left
            ·go_simp
             rfl
            refine hK.out _ _ ⟨((cell_far (p := ⟨gb157, _, none⟩) NB216_157.out _).trans (((cell_far (p := ⟨gb157, _, none⟩) NB216_157.out _).trans (((cell_far (p := ⟨gb157, _, none⟩) NB216_157.out _).trans (((cell_far (p := ⟨gb157, _, none⟩) NB216_157.out _).trans (hHeld.1)))))))), ((cell_far (p := ⟨gb157, _, none⟩) NB216_157.out _).trans (((cell_far (p := ⟨gb157, _, none⟩) NB216_157.out _).trans (((cell_far (p := ⟨gb157, _, none⟩) NB216_157.out _).trans (((cell_far (p := ⟨gb157, _, none⟩) NB216_157.out _).trans (hHeld.2.1)))))))), ((cell_far (p := ⟨gb157, _, none⟩) NB216_157.out _).trans (((cell_far (p := ⟨gb157, _, none⟩) NB216_157.out _).trans (((cell_far (p := ⟨gb157, _, none⟩) NB216_157.out _).trans (((cell_far (p := ⟨gb157, _, none⟩) NB216_157.out _).trans (hHeld.2.2.1)))))))), ((cell_far (p := ⟨gb157, _, none⟩) NB216_157.out _).trans (((cell_far (p := ⟨gb157, _, none⟩) NB216_157.out _).trans (((cell_far (p := ⟨gb157, _, none⟩) NB216_157.out _).trans (((cell_far (p := ⟨gb157, _, none⟩) NB216_157.out _).trans (hHeld.2.2.2.1)))))))), ((cell_far (p := ⟨gb157, _, none⟩) NB215_157.out _).trans (((cell_far (p := ⟨gb157, _, none⟩) NB215_157.out _).trans (((cell_far (p := ⟨gb157, _, none⟩) NB215_157.out _).trans (((cell_far (p := ⟨gb157, _, none⟩) NB215_157.out _).trans (hHeld.2.2.2.2.1)))))))), ((cell_far (p := ⟨gb157, _, none⟩) NB215_157.out _).trans (((cell_far (p := ⟨gb157, _, none⟩) NB215_157.out _).trans (((cell_far (p := ⟨gb157, _, none⟩) NB215_157.out _).trans (((cell_far (p := ⟨gb157, _, none⟩) NB215_157.out _).trans (hHeld.2.2.2.2.2.1)))))))), ((cell_far (p := ⟨gb157, _, none⟩) NB215_157.out _).trans (((cell_far (p := ⟨gb157, _, none⟩) NB215_157.out _).trans (((cell_far (p := ⟨gb157, _, none⟩) NB215_157.out _).trans (((cell_far (p := ⟨gb157, _, none⟩) NB215_157.out _).trans (hHeld.2.2.2.2.2.2.1)))))))), ((cell_far (p := ⟨gb157, _, none⟩) NB215_157.out _).trans (((cell_far (p := ⟨gb157, _, none⟩) NB215_157.out _).trans (((cell_far (p := ⟨gb157, _, none⟩) NB215_157.out _).trans (((cell_far (p := ⟨gb157, _, none⟩) NB215_157.out _).trans (hHeld.2.2.2.2.2.2.2))))))))⟩ (fun hHeld => ?_)
            clear hK K
            refine oN 4 fun K hK => ?_
            have hs221 : w216.cell? ⟨gb158, 0, none⟩ = some (.int .i64 0) := (blk_cell BK158.out 0).trans rfl
            have hfs221 := blk_frozen BK158.out 0
            have hns221_0 := NB155_158.out
            have hns221_1 := NB156_158.out
            have hns221_2 := NB157_158.out
            have hns221_4 := NB215_158.out
            have hns221_5 := NB216_158.out
            have hms221_0 := NB158_155.out
            have hms221_1 := NB158_156.out
            have hms221_2 := NB158_157.out
            have hms221_4 := NB158_215.out
            have hms221_5 := NB158_216.out
            have hs222 : w216.cell? ⟨gb158, 1, none⟩ = some (.int .i64 0) := (blk_cell BK158.out 1).trans rfl
            have hfs222 := blk_frozen BK158.out 1
            have hns222_0 := NB155_158.out
            have hns222_1 := NB156_158.out
            have hns222_2 := NB157_158.out
            have hns222_4 := NB215_158.out
            have hns222_5 := NB216_158.out
            have hms222_0 := NB158_155.out
            have hms222_1 := NB158_156.out
            have hms222_2 := NB158_157.out
            have hms222_4 := NB158_215.out
            have hms222_5 := NB158_216.out
            have hs223 : w216.cell? ⟨gb158, 2, none⟩ = some (.int .i64 0) := (blk_cell BK158.out 2).trans rfl
            have hfs223 := blk_frozen BK158.out 2
            have hns223_0 := NB155_158.out
            have hns223_1 := NB156_158.out
            have hns223_2 := NB157_158.out
            have hns223_4 := NB215_158.out
            have hns223_5 := NB216_158.out
            have hms223_0 := NB158_155.out
            have hms223_1 := NB158_156.out
            have hms223_2 := NB158_157.out
            have hms223_4 := NB158_215.out
            have hms223_5 := NB158_216.out
            have hs224 : w216.cell? ⟨gb158, 3, none⟩ = some (.int .i64 0) := (blk_cell BK158.out 3).trans rfl
            have hfs224 := blk_frozen BK158.out 3
            have hns224_0 := NB155_158.out
            have hns224_1 := NB156_158.out
            have hns224_2 := NB157_158.out
            have hns224_4 := NB215_158.out
            have hns224_5 := NB216_158.out
            have hms224_0 := NB158_155.out
            have hms224_1 := NB158_156.out
            have hms224_2 := NB158_157.out
            have hms224_4 := NB158_215.out
            have hms224_5 := NB158_216.out
            refine skip_ (w1 := ?_) (by rfl) rfl ?_ ?_
            rotate_left
            ·go_simp
             rfl
            refine hK.out _ _ ⟨((cell_far (p := ⟨gb158, _, none⟩) NB216_158.out _).trans (((cell_far (p := ⟨gb158, _, none⟩) NB216_158.out _).trans (((cell_far (p := ⟨gb158, _, none⟩) NB216_158.out _).trans (((cell_far (p := ⟨gb158, _, none⟩) NB216_158.out _).trans (hHeld.1)))))))), ((cell_far (p := ⟨gb158, _, none⟩) NB216_158.out _).trans (((cell_far (p := ⟨gb158, _, none⟩) NB216_158.out _).trans (((cell_far (p := ⟨gb158, _, none⟩) NB216_158.out _).trans (((cell_far (p := ⟨gb158, _, none⟩) NB216_158.out _).trans (hHeld.2.1)))))))), ((cell_far (p := ⟨gb158, _, none⟩) NB216_158.out _).trans (((cell_far (p := ⟨gb158, _, none⟩) NB216_158.out _).trans (((cell_far (p := ⟨gb158, _, none⟩) NB216_158.out _).trans (((cell_far (p := ⟨gb158, _, none⟩) NB216_158.out _).trans (hHeld.2.2.1)))))))), ((cell_far (p := ⟨gb158, _, none⟩) NB216_158.out _).trans (((cell_far (p := ⟨gb158, _, none⟩) NB216_158.out _).trans (((cell_far (p := ⟨gb158, _, none⟩) NB216_158.out _).trans (((cell_far (p := ⟨gb158, _, none⟩) NB216_158.out _).trans (hHeld.2.2.2.1)))))))), ((cell_far (p := ⟨gb158, _, none⟩) NB215_158.out _).trans (((cell_far (p := ⟨gb158, _, none⟩) NB215_158.out _).trans (((cell_far (p := ⟨gb158, _, none⟩) NB215_158.out _).trans (((cell_far (p := ⟨gb158, _, none⟩) NB215_158.out _).trans (hHeld.2.2.2.2.1)))))))), ((cell_far (p := ⟨gb158, _, none⟩) NB215_158.out _).trans (((cell_far (p := ⟨gb158, _, none⟩) NB215_158.out _).trans (((cell_far (p := ⟨gb158, _, none⟩) NB215_158.out _).trans (((cell_far (p := ⟨gb158, _, none⟩) NB215_158.out _).trans (hHeld.2.2.2.2.2.1)))))))), ((cell_far (p := ⟨gb158, _, none⟩) NB215_158.out _).trans (((cell_far (p := ⟨gb158, _, none⟩) NB215_158.out _).trans (((cell_far (p := ⟨gb158, _, none⟩) NB215_158.out _).trans (((cell_far (p := ⟨gb158, _, none⟩) NB215_158.out _).trans (hHeld.2.2.2.2.2.2.1)))))))), ((cell_far (p := ⟨gb158, _, none⟩) NB215_158.out _).trans (((cell_far (p := ⟨gb158, _, none⟩) NB215_158.out _).trans (((cell_far (p := ⟨gb158, _, none⟩) NB215_158.out _).trans (((cell_far (p := ⟨gb158, _, none⟩) NB215_158.out _).trans (hHeld.2.2.2.2.2.2.2))))))))⟩ (fun hHeld => ?_)
            clear hK K
            refine pz 5 10 ?_
            refine done_ (by kernel_rfl) ?_
            try go_wp2
            refine bodyPost_ret (results_list (rs := [.cell 8 24, .cell 9 24, .tmp 10]) rfl (by simp) (.cell gb157 24 #[.int .i64 t210, .int .i64 t211, .int .i64 t212, .int .i64 t213] (0, 0) _ rfl (by refine fq ?_ NB157_158.out; refine fq ?_ NB157_158.out; refine fq ?_ NB157_158.out; refine fq ?_ NB157_158.out; refine bq ?_; refine blk_put (cs := #[.int .i64 t210, .int .i64 t211, .int .i64 t212, .int .i64 0]) ?_ 3 _ rfl; refine bq ?_; refine blk_put (cs := #[.int .i64 t210, .int .i64 t211, .int .i64 0, .int .i64 0]) ?_ 2 _ rfl; refine bq ?_; refine blk_put (cs := #[.int .i64 t210, .int .i64 0, .int .i64 0, .int .i64 0]) ?_ 1 _ rfl; refine bq ?_; refine blk_put (cs := #[.int .i64 0, .int .i64 0, .int .i64 0, .int .i64 0]) ?_ 0 _ rfl; exact bq BK157.out) Try.underlying24 rfl (by kernel_rfl) (.cell gb158 24 #[.int .i64 t206, .int .i64 t207, .int .i64 t208, .int .i64 t209] (0, 0) _ rfl (by refine bq ?_; refine blk_put (cs := #[.int .i64 t206, .int .i64 t207, .int .i64 t208, .int .i64 0]) ?_ 3 _ rfl; refine bq ?_; refine blk_put (cs := #[.int .i64 t206, .int .i64 t207, .int .i64 0, .int .i64 0]) ?_ 2 _ rfl; refine bq ?_; refine blk_put (cs := #[.int .i64 t206, .int .i64 0, .int .i64 0, .int .i64 0]) ?_ 1 _ rfl; refine bq ?_; refine blk_put (cs := #[.int .i64 0, .int .i64 0, .int .i64 0, .int .i64 0]) ?_ 0 _ rfl; refine fq ?_ NB158_157.out; refine fq ?_ NB158_157.out; refine fq ?_ NB158_157.out; refine fq ?_ NB158_157.out; exact bq BK158.out) Try.underlying24 rfl (by kernel_rfl) (.tmp .nil)))) rfl ?_
            exact ⟨zR, zB⟩

end Go.Proofs.Ytjengfiaphgjbaa.Q
