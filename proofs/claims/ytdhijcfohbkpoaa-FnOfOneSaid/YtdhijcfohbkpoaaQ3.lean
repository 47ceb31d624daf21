/- The machine's side of this seat's laws: Go functions as Lean functions, and their contracts. By a program of this work over the kit's print. -/
import Derived.Test.YtdhijcfohbkpoaaQ0
import Derived.Test.YtdhijcfohbkpoaaQ2
namespace Go.Proofs.Ytdhijcfohbkpoaa.Q
open Go.RowKit Go.Proofs.YtdhijcfohbkpoaaW.PrintWords Go.Proofs.YtdhijcfohbkpoaaW.PrintLast Go.Proofs.YtdhijcfohbkpoaaW.PrintMore
attribute [local go_sem] max2_int min2_int max_two min_two max_three min_three max_four min_four Go.Proofs.YtdhijcfohbkpoaaN.not_i64 Go.Proofs.YtdhijcfohbkpoaaN.isSome_setCell   -- for this text's walks alone
set_option linter.unusedVariables false
set_option linter.unusedSimpArgs false

/-! ### spec_l2Join: function 35 -/
mutual
def spec_l2Join.j0 : Nat → Int → Int → Int → Int → Int → Int → Int → Int → Int → Int → Int → Int → Option (Int × Int × Int × Int)
 | 0, _, _, _, _, _, _, _, _, _, _, _, _ => none
 | k + 1, x135000, x135001, x135002, x135003, x136000, x136001, x136002, x136003, x138000, x138001, x138002, x138003 => if x136001 > x138001 then (spec_l2Join.j1 k x135000 x135001 x135002 x135003 x136000 x136001 x136002 x136003 x138000 x136001 x138002 x138003) else (spec_l2Join.j1 k x135000 x135001 x135002 x135003 x136000 x136001 x136002 x136003 x138000 x138001 x138002 x138003)
def spec_l2Join.j1 : Nat → Int → Int → Int → Int → Int → Int → Int → Int → Int → Int → Int → Int → Option (Int × Int × Int × Int)
 | 0, _, _, _, _, _, _, _, _, _, _, _, _ => none
 | k + 1, x135000, x135001, x135002, x135003, x136000, x136001, x136002, x136003, x138000, x138001, x138002, x138003 => (spec_l2Tidy.f k x138000 x138001 (Go.bits .and .i64 x135002 (Go.bits .xor .i64 4294967295 (Go.bits .or .i64 (Go.bits .or .i64 x135003 x136003) (Go.bits .xor .i64 x135002 x136002)))) (Go.bits .or .i64 (Go.bits .or .i64 x135003 x136003) (Go.bits .xor .i64 x135002 x136002))).bind fun bt138 => (some (bt138.1, bt138.2.1, bt138.2.2.1, bt138.2.2.2))
end
def spec_l2Join.f (k : Nat) (a0_0 : Int) (a0_1 : Int) (a0_2 : Int) (a0_3 : Int) (a1_0 : Int) (a1_1 : Int) (a1_2 : Int) (a1_3 : Int) : Option (Int × Int × Int × Int) := if a1_0 < a0_0 then (spec_l2Join.j0 k a0_0 a0_1 a0_2 a0_3 a1_0 a1_1 a1_2 a1_3 a1_0 a0_1 0 0) else (spec_l2Join.j0 k a0_0 a0_1 a0_2 a0_3 a1_0 a1_1 a1_2 a1_3 a0_0 a0_1 0 0)


def spec_l2Join.T7 : Bool × List (List Nat × List Nat) := (true, [([], []), ([0], [0]), ([], []), ([], []), ([3], [3]), ([2, 4], [2, 4]), ([1, 5], [1, 5]), ([0, 1, 2, 3, 4, 5, 6], []), ([7, 6, 2, 0, 1, 2, 3, 4, 5, 6], [6, 7])])
def spec_l2Join.B7 : List Nat := [0, 1, 0, 0, 8, 28, 63, 127, 255]
theorem spec_l2Join.tab7 : rtab .any (opsOf Try.f35 7) = spec_l2Join.T7 := by kernel_rfl
theorem spec_l2Join.bits7 : waitsOk spec_l2Join.T7.2 spec_l2Join.B7 = true := by kernel_rfl
set_option maxHeartbeats 8000000 in
set_option maxRecDepth 100000 in
theorem spec_l2Join.calls (k : Nat) (a0_0 : Int) (a0_1 : Int) (a0_2 : Int) (a0_3 : Int) (a1_0 : Int) (a1_1 : Int) (a1_2 : Int) (a1_3 : Int) (r1 : Int) (r2 : Int) (r3 : Int) (r4 : Int) (w : World) (h : spec_l2Join.f k a0_0 a0_1 a0_2 a0_3 a1_0 a1_1 a1_2 a1_3 = some (r1, r2, r3, r4)) :
  Calls Try.prog 35 #[.agg #[.int .i64 a0_0, .int .i64 a0_1, .int .i64 a0_2, .int .i64 a0_3], .agg #[.int .i64 a1_0, .int .i64 a1_1, .int .i64 a1_2, .int .i64 a1_3]] w fun e w' => e = .returned (.agg #[.int .i64 r1, .int .i64 r2, .int .i64 r3, .int .i64 r4]) ∧ Below w.heap.size w w' := by
 have hu24 := Try.underlying24
 have HB := Aside0.mk (Below.refl w.heap.size w)
 have H : (if a1_0 < a0_0 then (spec_l2Join.j0 k a0_0 a0_1 a0_2 a0_3 a1_0 a1_1 a1_2 a1_3 a1_0 a0_1 0 0) else (spec_l2Join.j0 k a0_0 a0_1 a0_2 a0_3 a1_0 a1_1 a1_2 a1_3 a0_0 a0_1 0 0)) = some (r1, r2, r3, r4) := h
 clear h
 have HC3 := Aside0.mk H
 clear H
 go_enter Try.func35, Try.ntmps35
 go_upto_if 15 with (first | ((with_reducible refine gate_dst (N := 2) rfl ?_); refine be 2 #[.int .i64 a0_0, .int .i64 a0_1, .int .i64 a0_2, .int .i64 a0_3] 24 ?_; intro gb134 hg w4 hbox hb; have BK134 := Aside0.mk hbox; have GW134 := zW hg; replace HB := zS hb; have GE134 := GW134; clear hb hbox hg) | ((with_reducible refine gate_dst (N := 3) rfl ?_); refine be 3 #[.int .i64 a1_0, .int .i64 a1_1, .int .i64 a1_2, .int .i64 a1_3] 24 ?_; intro gb135 hg w5 hbox hb; have BK135 := Aside0.mk hbox; have GW135 := zW hg; replace HB := zS hb; have GE135 := GW135; have NB134_135 := zl BK134 hg rfl; have NB135_134 := zg BK134 hg rfl; replace BK134 := zb BK134 hb rfl; clear hb hbox hg) | ((with_reducible refine gate_dst (N := 4) rfl ?_); refine be 4 #[.int .i64 0, .int .i64 0, .int .i64 0, .int .i64 0] 24 ?_; intro gb136 hg w6 hbox hb; have BK136 := Aside0.mk hbox; have GW136 := zW hg; replace HB := zS hb; have GE136 := GW136; have NB134_136 := zl BK134 hg rfl; have NB136_134 := zg BK134 hg rfl; replace BK134 := zb BK134 hb rfl; have NB135_136 := zl BK135 hg rfl; have NB136_135 := zg BK135 hg rfl; replace BK135 := zb BK135 hb rfl; clear hb hbox hg; have hnb7 := NB134_135.out; have hnc7 := NB135_134.out; have hnb8 := NB134_136.out; have hnc8 := NB136_134.out; obtain ⟨hcz9_0, hcz9_1, hcz9_2, hcz9_3, hfz9_0, hfz9_1, hfz9_2, hfz9_3⟩ := zc4 BK134) | ((with_reducible refine gate_dst (N := 5) rfl ?_); refine be 5 #[.int .i64 0, .int .i64 0, .int .i64 0, .int .i64 0] 24 ?_; intro gb137 hg w10 hbox hb; have BK137 := Aside0.mk hbox; have GW137 := zW hg; replace HB := zS hb; have GE137 := GW137; have NB134_137 := zl BK134 hg rfl; have NB137_134 := zg BK134 hg rfl; replace BK134 := zb BK134 hb rfl; have NB135_137 := zl BK135 hg rfl; have NB137_135 := zg BK135 hg rfl; replace BK135 := zb BK135 hb rfl; have NB136_137 := zl BK136 hg rfl; have NB137_136 := zg BK136 hg rfl; replace BK136 := zb BK136 hb rfl; clear hb hbox hg; have hnb11 := NB137_134.out; have hnc11 := NB134_137.out; have hnb12 := NB137_135.out; have hnc12 := NB135_137.out; have hnb13 := NB137_136.out; have hnc13 := NB136_137.out; obtain ⟨hcz14_0, hcz14_1, hcz14_2, hcz14_3, hfz14_0, hfz14_1, hfz14_2, hfz14_3⟩ := zc4 BK137; have hnb15 := NB135_136.out; have hnc15 := NB136_135.out; obtain ⟨hcz16_0, hcz16_1, hcz16_2, hcz16_3, hfz16_0, hfz16_1, hfz16_2, hfz16_3⟩ := zc4 BK135))
 (try simp only [Act.put, List.setIfInBounds_toArray, List.set_cons_zero, List.set_cons_succ])
 go_cut [] (fun wc => ∃ (kq : Nat) (x138000_2 : Int), Aside0 (spec_l2Join.j0 kq a0_0 a0_1 a0_2 a0_3 a1_0 a1_1 a1_2 a1_3 x138000_2 a0_1 0 0 = some (r1, r2, r3, r4)) ∧ Aside0 (kq ≤ k) ∧ Aside0 (wc.heap[gb134]? = some (.cells #[.int .i64 a0_0, .int .i64 a0_1, .int .i64 a0_2, .int .i64 a0_3] 24 (0, 0))) ∧ Aside0 (wc.heap[gb135]? = some (.cells #[.int .i64 a1_0, .int .i64 a1_1, .int .i64 a1_2, .int .i64 a1_3] 24 (0, 0))) ∧ Aside0 (wc.heap[gb136]? = some (.cells #[.int .i64 0, .int .i64 0, .int .i64 0, .int .i64 0] 24 (0, 0))) ∧ Aside0 (wc.heap[gb137]? = some (.cells #[.int .i64 x138000_2, .int .i64 a0_1, .int .i64 0, .int .i64 0] 24 (0, 0))) ∧ Aside0 (Below w.heap.size w wc))
 case first =>
  have H := HC3.out
  clear HC3
  by_cases c17 : a1_0 < a0_0
  ·rw [if_pos c17] at H
   have c17b0 : decide (a1_0 < a0_0) = true := decide_eq_true c17
   clear c17
   (first | rw [c17b0] | (simp only [i64_w, i32_w]; rw [c17b0]) | skip)
   have H' := Aside0.mk H
   clear H
   have hnb18 := NB135_134.out
   have hnc18 := NB134_135.out
   have hnb19 := NB135_136.out
   have hnc19 := NB136_135.out
   have hnb20 := NB135_137.out
   have hnc20 := NB137_135.out
   obtain ⟨hcz21_0, hcz21_1, hcz21_2, hcz21_3, hfz21_0, hfz21_1, hfz21_2, hfz21_3⟩ := zc4 BK135
   have hnb22 := NB137_134.out
   have hnc22 := NB134_137.out
   have hnb23 := NB137_136.out
   have hnc23 := NB136_137.out
   obtain ⟨hcz24_0, hcz24_1, hcz24_2, hcz24_3, hfz24_0, hfz24_1, hfz24_2, hfz24_3⟩ := zc4 BK137
   go_wp2
   go_meet
   case rel => exact ⟨_, (a1_0), H', ⟨by first | omega | exact Nat.le_refl _⟩, ⟨by refine fq ?_ NB134_137.out; refine fq ?_ NB134_137.out; refine fq ?_ NB134_137.out; refine fq ?_ NB134_137.out; refine fq ?_ NB134_137.out; exact bq BK134.out⟩, ⟨by refine fq ?_ NB135_137.out; refine fq ?_ NB135_137.out; refine fq ?_ NB135_137.out; refine fq ?_ NB135_137.out; refine fq ?_ NB135_137.out; exact bq BK135.out⟩, ⟨by refine fq ?_ NB136_137.out; refine fq ?_ NB136_137.out; refine fq ?_ NB136_137.out; refine fq ?_ NB136_137.out; refine fq ?_ NB136_137.out; exact bq BK136.out⟩, ⟨by refine bq ?_; refine blk_put (cs := #[.int .i64 a0_0, .int .i64 a0_1, .int .i64 0, .int .i64 0]) ?_ 0 _ rfl; refine bq ?_; refine blk_put (cs := #[.int .i64 a0_0, .int .i64 a0_1, .int .i64 0, .int .i64 0]) ?_ 3 _ rfl; refine bq ?_; refine blk_put (cs := #[.int .i64 a0_0, .int .i64 a0_1, .int .i64 0, .int .i64 0]) ?_ 2 _ rfl; refine bq ?_; refine blk_put (cs := #[.int .i64 a0_0, .int .i64 0, .int .i64 0, .int .i64 0]) ?_ 1 _ rfl; refine bq ?_; refine blk_put (cs := #[.int .i64 0, .int .i64 0, .int .i64 0, .int .i64 0]) ?_ 0 _ rfl; exact bq BK137.out⟩, ⟨zB⟩⟩
  ·rw [if_neg c17] at H
   have c17b0 : decide (a1_0 < a0_0) = false := decide_eq_false c17
   clear c17
   (first | rw [c17b0] | (simp only [i64_w, i32_w]; rw [c17b0]) | skip)
   have H' := Aside0.mk H
   clear H
   go_wp2
   go_meet
   case rel => exact ⟨_, (a0_0), H', ⟨by first | omega | exact Nat.le_refl _⟩, ⟨by refine fq ?_ NB134_137.out; refine fq ?_ NB134_137.out; refine fq ?_ NB134_137.out; refine fq ?_ NB134_137.out; exact bq BK134.out⟩, ⟨by refine fq ?_ NB135_137.out; refine fq ?_ NB135_137.out; refine fq ?_ NB135_137.out; refine fq ?_ NB135_137.out; exact bq BK135.out⟩, ⟨by refine fq ?_ NB136_137.out; refine fq ?_ NB136_137.out; refine fq ?_ NB136_137.out; refine fq ?_ NB136_137.out; exact bq BK136.out⟩, ⟨by refine bq ?_; refine blk_put (cs := #[.int .i64 a0_0, .int .i64 a0_1, .int .i64 0, .int .i64 0]) ?_ 3 _ rfl; refine bq ?_; refine blk_put (cs := #[.int .i64 a0_0, .int .i64 a0_1, .int .i64 0, .int .i64 0]) ?_ 2 _ rfl; refine bq ?_; refine blk_put (cs := #[.int .i64 a0_0, .int .i64 0, .int .i64 0, .int .i64 0]) ?_ 1 _ rfl; refine bq ?_; refine blk_put (cs := #[.int .i64 0, .int .i64 0, .int .i64 0, .int .i64 0]) ?_ 0 _ rfl; exact bq BK137.out⟩, ⟨zB⟩⟩
 case rest =>
  clear HC3
  try clear c1
  try clear c2
  try clear p2
  try clear c3
  try clear c7
  try clear c8
  try clear c11
  try clear c12
  try clear c13
  try clear c15
  try clear c17
  try clear c17b0
  try clear c18
  try clear c19
  try clear c20
  try clear c22
  try clear c23
  try clear hcz14_0 hcz14_1 hcz14_2 hcz14_3 hfz14_0 hfz14_1 hfz14_2 hfz14_3
  try clear hcz16_0 hcz16_1 hcz16_2 hcz16_3 hfz16_0 hfz16_1 hfz16_2 hfz16_3
  try clear hcz21_0 hcz21_1 hcz21_2 hcz21_3 hfz21_0 hfz21_1 hfz21_2 hfz21_3
  try clear hcz24_0 hcz24_1 hcz24_2 hcz24_3 hfz24_0 hfz24_1 hfz24_2 hfz24_3
  try clear hcz9_0 hcz9_1 hcz9_2 hcz9_3 hfz9_0 hfz9_1 hfz9_2 hfz9_3
  obtain ⟨kq, x138000_2, HA, HJ2, BK134, BK135, BK136, BK137, HB⟩ := hcut
  cases kq with
  | zero => exact absurd HA.out (by simp [spec_l2Join.j0])
  | succ kj2 =>
   have H := HA.out
   clear HA
   simp only [spec_l2Join.j0] at H
   have HC25 := Aside0.mk H
   clear H
   have hnb26 := NB135_134.out
   have hnc26 := NB134_135.out
   have hnb27 := NB135_136.out
   have hnc27 := NB136_135.out
   have hnb28 := NB135_137.out
   have hnc28 := NB137_135.out
   obtain ⟨hcz29_0, hcz29_1, hcz29_2, hcz29_3, hfz29_0, hfz29_1, hfz29_2, hfz29_3⟩ := zc4 BK135
   have hnb30 := NB137_134.out
   have hnc30 := NB134_137.out
   have hnb31 := NB137_136.out
   have hnc31 := NB136_137.out
   obtain ⟨hcz32_0, hcz32_1, hcz32_2, hcz32_3, hfz32_0, hfz32_1, hfz32_2, hfz32_3⟩ := zc4 BK137
   go_upto_if 23 with (fail)
   go_cut [] (fun wc => ∃ (kq : Nat) (x138001_24 : Int), Aside0 (spec_l2Join.j1 kq a0_0 a0_1 a0_2 a0_3 a1_0 a1_1 a1_2 a1_3 x138000_2 x138001_24 0 0 = some (r1, r2, r3, r4)) ∧ Aside0 (kq ≤ kj2) ∧ Aside0 (wc.heap[gb134]? = some (.cells #[.int .i64 a0_0, .int .i64 a0_1, .int .i64 a0_2, .int .i64 a0_3] 24 (0, 0))) ∧ Aside0 (wc.heap[gb135]? = some (.cells #[.int .i64 a1_0, .int .i64 a1_1, .int .i64 a1_2, .int .i64 a1_3] 24 (0, 0))) ∧ Aside0 (wc.heap[gb136]? = some (.cells #[.int .i64 0, .int .i64 0, .int .i64 0, .int .i64 0] 24 (0, 0))) ∧ Aside0 (wc.heap[gb137]? = some (.cells #[.int .i64 x138000_2, .int .i64 x138001_24, .int .i64 0, .int .i64 0] 24 (0, 0))) ∧ Aside0 (Below w.heap.size w wc))
   case first =>
    have H := HC25.out
    clear HC25
    by_cases c33 : a1_1 > a0_1
    ·rw [if_pos c33] at H
     have c33b0 : decide (a0_1 < a1_1) = true := decide_eq_true c33
     clear c33
     (first | rw [c33b0] | (simp only [i64_w, i32_w]; rw [c33b0]) | skip)
     have H' := Aside0.mk H
     clear H
     have hnb34 := NB135_134.out
     have hnc34 := NB134_135.out
     have hnb35 := NB135_136.out
     have hnc35 := NB136_135.out
     have hnb36 := NB135_137.out
     have hnc36 := NB137_135.out
     obtain ⟨hcz37_0, hcz37_1, hcz37_2, hcz37_3, hfz37_0, hfz37_1, hfz37_2, hfz37_3⟩ := zc4 BK135
     have hnb38 := NB137_134.out
     have hnc38 := NB134_137.out
     have hnb39 := NB137_136.out
     have hnc39 := NB136_137.out
     obtain ⟨hcz40_0, hcz40_1, hcz40_2, hcz40_3, hfz40_0, hfz40_1, hfz40_2, hfz40_3⟩ := zc4 BK137
     go_wp2
     go_meet
     case rel => exact ⟨_, (a1_1), H', ⟨by have := HJ2.out; first | omega | exact Nat.le_refl _⟩, ⟨by refine fq ?_ NB134_137.out; exact bq BK134.out⟩, ⟨by refine fq ?_ NB135_137.out; exact bq BK135.out⟩, ⟨by refine fq ?_ NB136_137.out; exact bq BK136.out⟩, ⟨by refine bq ?_; refine blk_put (cs := #[.int .i64 x138000_2, .int .i64 a0_1, .int .i64 0, .int .i64 0]) ?_ 1 _ rfl; exact bq BK137.out⟩, ⟨zB⟩⟩
    ·rw [if_neg c33] at H
     have c33b0 : decide (a0_1 < a1_1) = false := decide_eq_false c33
     clear c33
     (first | rw [c33b0] | (simp only [i64_w, i32_w]; rw [c33b0]) | skip)
     have H' := Aside0.mk H
     clear H
     go_wp2
     go_meet
     case rel => exact ⟨_, (a0_1), H', ⟨by have := HJ2.out; first | omega | exact Nat.le_refl _⟩, ⟨by exact bq BK134.out⟩, ⟨by exact bq BK135.out⟩, ⟨by exact bq BK136.out⟩, ⟨by exact bq BK137.out⟩, ⟨zB⟩⟩
   case rest =>
    clear HC25
    try clear c1
    try clear c2
    try clear p2 p2
    try clear c3
    try clear c7
    try clear c8
    try clear c11
    try clear c12
    try clear c13
    try clear c15
    try clear c17
    try clear c17b0
    try clear c18
    try clear c19
    try clear c20
    try clear c22
    try clear c23
    try clear c26
    try clear c27
    try clear c28
    try clear c30
    try clear c31
    try clear c33
    try clear c33b0
    try clear c34
    try clear c35
    try clear c36
    try clear c38
    try clear c39
    try clear hcz14_0 hcz14_1 hcz14_2 hcz14_3 hfz14_0 hfz14_1 hfz14_2 hfz14_3
    try clear hcz16_0 hcz16_1 hcz16_2 hcz16_3 hfz16_0 hfz16_1 hfz16_2 hfz16_3
    try clear hcz21_0 hcz21_1 hcz21_2 hcz21_3 hfz21_0 hfz21_1 hfz21_2 hfz21_3
    try clear hcz24_0 hcz24_1 hcz24_2 hcz24_3 hfz24_0 hfz24_1 hfz24_2 hfz24_3
    try clear hcz29_0 hcz29_1 hcz29_2 hcz29_3 hfz29_0 hfz29_1 hfz29_2 hfz29_3
    try clear hcz32_0 hcz32_1 hcz32_2 hcz32_3 hfz32_0 hfz32_1 hfz32_2 hfz32_3
    try clear hcz37_0 hcz37_1 hcz37_2 hcz37_3 hfz37_0 hfz37_1 hfz37_2 hfz37_3
    try clear hcz40_0 hcz40_1 hcz40_2 hcz40_3 hfz40_0 hfz40_1 hfz40_2 hfz40_3
    try clear hcz9_0 hcz9_1 hcz9_2 hcz9_3 hfz9_0 hfz9_1 hfz9_2 hfz9_3
    obtain ⟨kq, x138001_24, HA, HJ24, BK134, BK135, BK136, BK137, HB⟩ := hcut
    cases kq with
    | zero => exact absurd HA.out (by simp [spec_l2Join.j1])
    | succ kj24 =>
     have H := HA.out
     clear HA
     simp only [spec_l2Join.j1] at H
     have AC_spec_l2Top := Aside0.mk (show spec_l2Top.f = some 4294967295 from rfl)
     replace H := Option.bind_eq_some_iff.mp H
     obtain ⟨⟨t138, t139, t140, t141⟩, A410, H⟩ := H
     try dsimp only at H
     have A41 := Aside0.mk A410
     clear A410
     simp only [Option.some.injEq, Prod.mk.injEq] at H
     obtain ⟨rfl, rfl, rfl, rfl⟩ := H
     have hnb42 := NB134_135.out
     have hnc42 := NB135_134.out
     have hnb43 := NB134_136.out
     have hnc43 := NB136_134.out
     have hnb44 := NB134_137.out
     have hnc44 := NB137_134.out
     obtain ⟨hcz45_0, hcz45_1, hcz45_2, hcz45_3, hfz45_0, hfz45_1, hfz45_2, hfz45_3⟩ := zc4 BK134
     have hnb46 := NB135_136.out
     have hnc46 := NB136_135.out
     have hnb47 := NB135_137.out
     have hnc47 := NB137_135.out
     obtain ⟨hcz48_0, hcz48_1, hcz48_2, hcz48_3, hfz48_0, hfz48_1, hfz48_2, hfz48_3⟩ := zc4 BK135
     have hnb49 := NB137_136.out
     have hnc49 := NB136_137.out
     obtain ⟨hcz50_0, hcz50_1, hcz50_2, hcz50_3, hfz50_0, hfz50_1, hfz50_2, hfz50_3⟩ := zc4 BK137
     try go_wp2
     have n0_ : Aside0 ((wc.setCell ⟨gb137, 3, none⟩ (.int .i64 (Go.bits .or .i64 (Go.bits .or .i64 a0_3 a1_3) (Go.bits .xor .i64 a0_2 a1_2)))).heap[gb134]? = some (.cells #[.int .i64 a0_0, .int .i64 a0_1, .int .i64 a0_2, .int .i64 a0_3] 24 (0, 0))) := ⟨by refine fq ?_ NB134_137.out; exact bq BK134.out⟩
     have n1_ : Aside0 ((wc.setCell ⟨gb137, 3, none⟩ (.int .i64 (Go.bits .or .i64 (Go.bits .or .i64 a0_3 a1_3) (Go.bits .xor .i64 a0_2 a1_2)))).heap[gb135]? = some (.cells #[.int .i64 a1_0, .int .i64 a1_1, .int .i64 a1_2, .int .i64 a1_3] 24 (0, 0))) := ⟨by refine fq ?_ NB135_137.out; exact bq BK135.out⟩
     have n2_ : Aside0 ((wc.setCell ⟨gb137, 3, none⟩ (.int .i64 (Go.bits .or .i64 (Go.bits .or .i64 a0_3 a1_3) (Go.bits .xor .i64 a0_2 a1_2)))).heap[gb136]? = some (.cells #[.int .i64 0, .int .i64 0, .int .i64 0, .int .i64 0] 24 (0, 0))) := ⟨by refine fq ?_ NB136_137.out; exact bq BK136.out⟩
     have n3_ : Aside0 ((wc.setCell ⟨gb137, 3, none⟩ (.int .i64 (Go.bits .or .i64 (Go.bits .or .i64 a0_3 a1_3) (Go.bits .xor .i64 a0_2 a1_2)))).heap[gb137]? = some (.cells #[.int .i64 x138000_2, .int .i64 x138001_24, .int .i64 0, .int .i64 (Go.bits .or .i64 (Go.bits .or .i64 a0_3 a1_3) (Go.bits .xor .i64 a0_2 a1_2))] 24 (0, 0))) := ⟨by refine bq ?_; refine blk_put (cs := #[.int .i64 x138000_2, .int .i64 x138001_24, .int .i64 0, .int .i64 0]) ?_ 3 _ rfl; exact bq BK137.out⟩
     have n4_ : Aside0 (Below w.heap.size w (wc.setCell ⟨gb137, 3, none⟩ (.int .i64 (Go.bits .or .i64 (Go.bits .or .i64 a0_3 a1_3) (Go.bits .xor .i64 a0_2 a1_2))))) := ⟨zB⟩
     (try clear BK134)
     (try clear BK135)
     (try clear BK136)
     (try clear BK137)
     (try clear HB)
     generalize (wc.setCell ⟨gb137, 3, none⟩ (.int .i64 (Go.bits .or .i64 (Go.bits .or .i64 a0_3 a1_3) (Go.bits .xor .i64 a0_2 a1_2)))) = w51 at n0_ n1_ n2_ n3_ n4_ ⊢
     have BK134 := n0_
     have BK135 := n1_
     have BK136 := n2_
     have BK137 := n3_
     have HB := n4_
     clear n0_ n1_ n2_ n3_ n4_
     replace BK134 := Aside0.mk (blk_drew BK134.out)
     replace BK135 := Aside0.mk (blk_drew BK135.out)
     replace BK136 := Aside0.mk (blk_drew BK136.out)
     replace BK137 := Aside0.mk (blk_drew BK137.out)
     replace HB := Aside0.mk (below_drew1 HB.out)
     refine start_ (n := 9) (S := fun w' => w'.cell? ⟨gb134, 0, none⟩ = some (.int .i64 a0_0) ∧ w'.cell? ⟨gb134, 1, none⟩ = some (.int .i64 a0_1) ∧ w'.cell? ⟨gb134, 2, none⟩ = some (.int .i64 a0_2) ∧ w'.cell? ⟨gb134, 3, none⟩ = some (.int .i64 a0_3) ∧ w'.cell? ⟨gb137, 3, none⟩ = some (.int .i64 (Go.bits .or .i64 (Go.bits .or .i64 a0_3 a1_3) (Go.bits .xor .i64 a0_2 a1_2)))) (ds := []) #[false, false, false, false, false, false, false, false, false] (by kernel_rfl) rfl rfl ⟨(blk_cell BK134.out 0).trans rfl, (blk_cell BK134.out 1).trans rfl, (blk_cell BK134.out 2).trans rfl, (blk_cell BK134.out 3).trans rfl, (blk_cell BK137.out 3).trans rfl⟩ (fun hHeld => ?_); refine with_tabW spec_l2Join.tab7 spec_l2Join.bits7 (fun HT_ HW_ => ?_)
     generalize w51.drew = w52 at BK134 BK135 BK136 BK137 HB hHeld ⊢
     refine pz 0 39 ?_
     refine pz 3 42 ?_
     refine tz 1 40 ?_
     refine tz 4 43 ?_
     refine oz 2 41 fun K hK => ?_
     refine gz Try.func39 #[] ?_
     with_reducible refine (spec_l2Top.calls  4294967295 _ AC_spec_l2Top.out).mono ?_
     rintro e w' ⟨rfl, ⟨nd, rfl⟩⟩
     refine ⟨_, rfl, ?_⟩
     refine hK.out _ _ ⟨(blk_cell BK134.out 0).trans rfl, (blk_cell BK134.out 1).trans rfl, (blk_cell BK134.out 2).trans rfl, (blk_cell BK134.out 3).trans rfl, (blk_cell BK137.out 3).trans rfl⟩ (fun hHeld => ?_)
     clear hK K
     refine nz ?_
     refine pz 5 44 ?_
     refine pz 6 45 ?_
     refine pz 7 46 ?_
     refine oN 8 fun K hK => ?_
     have hs53 : w52.cell? ⟨gb137, 2, none⟩ = some (.int .i64 0) := (blk_cell BK137.out 2).trans rfl
     have hfs53 := blk_frozen BK137.out 2
     have hns53_0 := NB134_137.out
     have hns53_1 := NB135_137.out
     have hns53_2 := NB136_137.out
     have hms53_0 := NB137_134.out
     have hms53_1 := NB137_135.out
     have hms53_2 := NB137_136.out
     refine skip_ (w1 := ?_) (by rfl) rfl ?_ ?_
     rotate_left
     ·go_simp
      rfl
     refine hK.out _ _ ⟨((cell_far (p := ⟨gb137, _, none⟩) NB134_137.out _).trans (hHeld.1)), ((cell_far (p := ⟨gb137, _, none⟩) NB134_137.out _).trans (hHeld.2.1)), ((cell_far (p := ⟨gb137, _, none⟩) NB134_137.out _).trans (hHeld.2.2.1)), ((cell_far (p := ⟨gb137, _, none⟩) NB134_137.out _).trans (hHeld.2.2.2.1)), ((World.cell?_setCell_other _ _ _ _ (by simp)).trans (hHeld.2.2.2.2))⟩ (fun hHeld => ?_)
     clear hK K
     refine done_ (done_of HT_.out (by kernel_rfl)) ?_
     obtain ⟨hcz54_0, hcz54_1, hcz54_2, hcz54_3, hfz54_0, hfz54_1, hfz54_2, hfz54_3⟩ := zc4 BK137
     try go_wp2_with (first | ((with_reducible refine gate_callee (f := 27) rfl ?_); refine gl 48 Try.func27 #[.agg #[.int .i64 x138000_2, .int .i64 x138001_24, .int .i64 (Go.bits .and .i64 a0_2 (Go.bits .xor .i64 4294967295 (Go.bits .or .i64 (Go.bits .or .i64 a0_3 a1_3) (Go.bits .xor .i64 a0_2 a1_2)))), .int .i64 (Go.bits .or .i64 (Go.bits .or .i64 a0_3 a1_3) (Go.bits .xor .i64 a0_2 a1_2))]] ?_; (with_reducible refine (spec_l2Tidy.calls kj24 x138000_2 x138001_24 (Go.bits .and .i64 a0_2 (Go.bits .xor .i64 4294967295 (Go.bits .or .i64 (Go.bits .or .i64 a0_3 a1_3) (Go.bits .xor .i64 a0_2 a1_2)))) (Go.bits .or .i64 (Go.bits .or .i64 a0_3 a1_3) (Go.bits .xor .i64 a0_2 a1_2)) t138 t139 t140 t141 _ A41.out).mono ?_); rintro e w55 ⟨rfl, hb⟩; refine ⟨_, rfl, ?_⟩; replace BK134 := Aside0.mk (blk_below (g := gb134) (o := .cells #[.int .i64 a0_0, .int .i64 a0_1, .int .i64 a0_2, .int .i64 a0_3] 24 (0, 0)) (by refine fq ?_ NB134_137.out; exact bq BK134.out) hb); replace BK135 := Aside0.mk (blk_below (g := gb135) (o := .cells #[.int .i64 a1_0, .int .i64 a1_1, .int .i64 a1_2, .int .i64 a1_3] 24 (0, 0)) (by refine fq ?_ NB135_137.out; exact bq BK135.out) hb); replace BK136 := Aside0.mk (blk_below (g := gb136) (o := .cells #[.int .i64 0, .int .i64 0, .int .i64 0, .int .i64 0] 24 (0, 0)) (by refine fq ?_ NB136_137.out; exact bq BK136.out) hb); replace BK137 := Aside0.mk (blk_below (g := gb137) (o := .cells #[.int .i64 x138000_2, .int .i64 x138001_24, .int .i64 (Go.bits .and .i64 a0_2 (Go.bits .xor .i64 4294967295 (Go.bits .or .i64 (Go.bits .or .i64 a0_3 a1_3) (Go.bits .xor .i64 a0_2 a1_2)))), .int .i64 (Go.bits .or .i64 (Go.bits .or .i64 a0_3 a1_3) (Go.bits .xor .i64 a0_2 a1_2))] 24 (0, 0)) (by refine bq ?_; refine blk_put (cs := #[.int .i64 x138000_2, .int .i64 x138001_24, .int .i64 0, .int .i64 (Go.bits .or .i64 (Go.bits .or .i64 a0_3 a1_3) (Go.bits .xor .i64 a0_2 a1_2))]) ?_ 2 _ rfl; exact bq BK137.out) hb); replace HB := zS hb; try clear hb; obtain ⟨hcz56_0, hcz56_1, hcz56_2, hcz56_3, hfz56_0, hfz56_1, hfz56_2, hfz56_3⟩ := zc4 BK136))
     refine bodyPost_ret (results_cell_row rfl _ _ gb136 24 #[.int .i64 t138, .int .i64 t139, .int .i64 t140, .int .i64 t141] (0, 0) _ rfl (by refine bq ?_; refine blk_put (cs := #[.int .i64 t138, .int .i64 t139, .int .i64 t140, .int .i64 0]) ?_ 3 _ rfl; refine bq ?_; refine blk_put (cs := #[.int .i64 t138, .int .i64 t139, .int .i64 0, .int .i64 0]) ?_ 2 _ rfl; refine bq ?_; refine blk_put (cs := #[.int .i64 t138, .int .i64 0, .int .i64 0, .int .i64 0]) ?_ 1 _ rfl; refine bq ?_; refine blk_put (cs := #[.int .i64 0, .int .i64 0, .int .i64 0, .int .i64 0]) ?_ 0 _ rfl; exact bq BK136.out) Try.underlying24 rfl (by kernel_rfl)) rfl ?_
     exact ⟨zR, zB⟩

/-! ### spec_l2All: function 36 -/
def spec_l2All.f  : Option (Int × Int × Int × Int) := some (0, 4294967295, 0, 4294967295)
set_option maxHeartbeats 8000000 in
set_option maxRecDepth 100000 in
theorem spec_l2All.calls  (r1 : Int) (r2 : Int) (r3 : Int) (r4 : Int) (w : World) (h : spec_l2All.f  = some (r1, r2, r3, r4)) :
  Calls Try.prog 36 #[] w fun e w' => e = .returned (.agg #[.int .i64 r1, .int .i64 r2, .int .i64 r3, .int .i64 r4]) ∧ Below w.heap.size w w' := by
 have hu24 := Try.underlying24
 have HB := Aside0.mk (Below.refl w.heap.size w)
 have H : (some (0, 4294967295, 0, 4294967295)) = some (r1, r2, r3, r4) := h
 clear h
 have AC_spec_l2Top := Aside0.mk (show spec_l2Top.f = some 4294967295 from rfl)
 have AC_spec_l2Top := Aside0.mk (show spec_l2Top.f = some 4294967295 from rfl)
 simp only [Option.some.injEq, Prod.mk.injEq] at H
 obtain ⟨rfl, rfl, rfl, rfl⟩ := H
 go_enter Try.func36, Try.ntmps36
 go_wp2_with (first | ((with_reducible refine gate_dst (N := 0) rfl ?_); refine be 0 #[.int .i64 0, .int .i64 0, .int .i64 0, .int .i64 0] 24 ?_; intro gb142 hg w1 hbox hb; have BK142 := Aside0.mk hbox; have GW142 := zW hg; replace HB := zS hb; have GE142 := GW142; clear hb hbox hg) | ((with_reducible refine gate_callee (f := 39) rfl ?_); refine gl 1 Try.func39 #[] ?_; (with_reducible refine (spec_l2Top.calls  4294967295 _ AC_spec_l2Top.out).mono ?_); rintro e w' ⟨rfl, ⟨nd, rfl⟩⟩; refine ⟨_, rfl, ?_⟩; (try (rw [drewN_self w1]; generalize hq_ : World.drewN w1 _ = w1; have n0_ : Aside0 (w1.heap[gb142]? = some (.cells #[.int .i64 0, .int .i64 0, .int .i64 0, .int .i64 0] 24 (0, 0))) := ⟨by rw [← hq_]; exact (by exact bq BK142.out)⟩; have n1_ : Aside0 (Below w.heap.size w w1) := ⟨by rw [← hq_]; exact zB⟩; clear BK142 HB hq_; have BK142 := n0_; have HB := n1_; clear n0_ n1_))) | ((with_reducible refine gate_callee (f := 39) rfl ?_); refine gl 2 Try.func39 #[] ?_; (with_reducible refine (spec_l2Top.calls  4294967295 _ AC_spec_l2Top.out).mono ?_); rintro e w' ⟨rfl, ⟨nd, rfl⟩⟩; refine ⟨_, rfl, ?_⟩; (try (rw [drewN_self w1]; generalize hq_ : World.drewN w1 _ = w1; have n0_ : Aside0 (w1.heap[gb142]? = some (.cells #[.int .i64 0, .int .i64 0, .int .i64 0, .int .i64 0] 24 (0, 0))) := ⟨by rw [← hq_]; exact (by exact bq BK142.out)⟩; have n1_ : Aside0 (Below w.heap.size w w1) := ⟨by rw [← hq_]; exact zB⟩; clear BK142 HB hq_; have BK142 := n0_; have HB := n1_; clear n0_ n1_)); obtain ⟨hcz2_0, hcz2_1, hcz2_2, hcz2_3, hfz2_0, hfz2_1, hfz2_2, hfz2_3⟩ := zc4 BK142))
 refine bodyPost_ret (results_cell_row rfl _ _ gb142 24 #[.int .i64 0, .int .i64 4294967295, .int .i64 0, .int .i64 4294967295] (0, 0) _ rfl (by refine bq ?_; refine blk_put (cs := #[.int .i64 0, .int .i64 4294967295, .int .i64 0, .int .i64 0]) ?_ 3 _ rfl; refine bq ?_; refine blk_put (cs := #[.int .i64 0, .int .i64 4294967295, .int .i64 0, .int .i64 0]) ?_ 2 _ rfl; refine bq ?_; refine blk_put (cs := #[.int .i64 0, .int .i64 0, .int .i64 0, .int .i64 0]) ?_ 1 _ rfl; refine bq ?_; refine blk_put (cs := #[.int .i64 0, .int .i64 0, .int .i64 0, .int .i64 0]) ?_ 0 _ rfl; exact bq BK142.out) Try.underlying24 rfl (by kernel_rfl)) rfl ?_
 exact ⟨zR, zB⟩

/-! ### spec_l2Ends: function 37 -/
def spec_l2Ends.f (k : Nat) (a0 : Int) (a1 : Int) : Option (Int × Int × Int × Int) := (spec_l2Tidy.f k a0 a1 0 4294967295).bind fun bt144 => (some (bt144.1, bt144.2.1, bt144.2.2.1, bt144.2.2.2))

set_option maxHeartbeats 8000000 in
set_option maxRecDepth 100000 in
theorem spec_l2Ends.calls (k : Nat) (a0 : Int) (a1 : Int) (r1 : Int) (r2 : Int) (r3 : Int) (r4 : Int) (w : World) (h : spec_l2Ends.f k a0 a1 = some (r1, r2, r3, r4)) :
  Calls Try.prog 37 #[.int .i64 a0, .int .i64 a1] w fun e w' => e = .returned (.agg #[.int .i64 r1, .int .i64 r2, .int .i64 r3, .int .i64 r4]) ∧ Below w.heap.size w w' := by
 have hu24 := Try.underlying24
 have HB := Aside0.mk (Below.refl w.heap.size w)
 have H : ((spec_l2Tidy.f k a0 a1 0 4294967295).bind fun bt144 => (some (bt144.1, bt144.2.1, bt144.2.2.1, bt144.2.2.2))) = some (r1, r2, r3, r4) := h
 clear h
 have AC_spec_l2Top := Aside0.mk (show spec_l2Top.f = some 4294967295 from rfl)
 replace H := Option.bind_eq_some_iff.mp H
 obtain ⟨⟨t144, t145, t146, t147⟩, A30, H⟩ := H
 try dsimp only at H
 have A3 := Aside0.mk A30
 clear A30
 simp only [Option.some.injEq, Prod.mk.injEq] at H
 obtain ⟨rfl, rfl, rfl, rfl⟩ := H
 go_enter Try.func37, Try.ntmps37
 go_wp2_with (first | ((with_reducible refine gate_dst (N := 4) rfl ?_); refine be 4 #[.int .i64 0, .int .i64 0, .int .i64 0, .int .i64 0] 24 ?_; intro gb143 hg w4 hbox hb; have BK143 := Aside0.mk hbox; have GW143 := zW hg; replace HB := zS hb; have GE143 := GW143; clear hb hbox hg) | ((with_reducible refine gate_callee (f := 39) rfl ?_); refine gl 7 Try.func39 #[] ?_; (with_reducible refine (spec_l2Top.calls  4294967295 _ AC_spec_l2Top.out).mono ?_); rintro e w' ⟨rfl, ⟨nd, rfl⟩⟩; refine ⟨_, rfl, ?_⟩; (try (rw [drewN_self w4]; generalize hq_ : World.drewN w4 _ = w4; have n0_ : Aside0 (w4.heap[gb143]? = some (.cells #[.int .i64 0, .int .i64 0, .int .i64 0, .int .i64 0] 24 (0, 0))) := ⟨by rw [← hq_]; exact (by exact bq BK143.out)⟩; have n1_ : Aside0 (Below w.heap.size w w4) := ⟨by rw [← hq_]; exact zB⟩; clear BK143 HB hq_; have BK143 := n0_; have HB := n1_; clear n0_ n1_))) | ((with_reducible refine gate_callee (f := 27) rfl ?_); refine gl 9 Try.func27 #[.agg #[.int .i64 a0, .int .i64 a1, .int .i64 0, .int .i64 4294967295]] ?_; (with_reducible refine (spec_l2Tidy.calls k a0 a1 0 4294967295 t144 t145 t146 t147 _ A3.out).mono ?_); rintro e w5 ⟨rfl, hb⟩; refine ⟨_, rfl, ?_⟩; replace BK143 := zb BK143 hb rfl; replace HB := zS hb; try clear hb; obtain ⟨hcz6_0, hcz6_1, hcz6_2, hcz6_3, hfz6_0, hfz6_1, hfz6_2, hfz6_3⟩ := zc4 BK143))
 refine bodyPost_ret (results_cell_row rfl _ _ gb143 24 #[.int .i64 t144, .int .i64 t145, .int .i64 t146, .int .i64 t147] (0, 0) _ rfl (by refine bq ?_; refine blk_put (cs := #[.int .i64 t144, .int .i64 t145, .int .i64 t146, .int .i64 0]) ?_ 3 _ rfl; refine bq ?_; refine blk_put (cs := #[.int .i64 t144, .int .i64 t145, .int .i64 0, .int .i64 0]) ?_ 2 _ rfl; refine bq ?_; refine blk_put (cs := #[.int .i64 t144, .int .i64 0, .int .i64 0, .int .i64 0]) ?_ 1 _ rfl; refine bq ?_; refine blk_put (cs := #[.int .i64 0, .int .i64 0, .int .i64 0, .int .i64 0]) ?_ 0 _ rfl; exact bq BK143.out) Try.underlying24 rfl (by kernel_rfl)) rfl ?_
 exact ⟨zR, zB⟩

end Go.Proofs.Ytdhijcfohbkpoaa.Q
