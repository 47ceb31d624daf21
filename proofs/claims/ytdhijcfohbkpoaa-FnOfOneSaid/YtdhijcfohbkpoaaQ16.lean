/- The machine's side of this seat's laws: Go functions as Lean functions, and their contracts. By a program of this work over the kit's print. -/
import Derived.Test.YtdhijcfohbkpoaaQ0
import Derived.Test.YtdhijcfohbkpoaaQ2
namespace Go.Proofs.Ytdhijcfohbkpoaa.Q
open Go.RowKit Go.Proofs.YtdhijcfohbkpoaaW.PrintWords Go.Proofs.YtdhijcfohbkpoaaW.PrintLast Go.Proofs.YtdhijcfohbkpoaaW.PrintMore
attribute [local go_sem] max2_int min2_int max_two min_two max_three min_three max_four min_four Go.Proofs.YtdhijcfohbkpoaaN.not_i64 Go.Proofs.YtdhijcfohbkpoaaN.isSome_setCell   -- for this text's walks alone
set_option linter.unusedVariables false
set_option linter.unusedSimpArgs false

/-! ### spec_l2Bitwise: function 53 -/
def spec_l2Bitwise.j0 : Nat → Int → Int → Int → Int → Option (Int × Int × Int × Int)
 | 0, _, _, _, _ => none
 | k + 1, x438000, x438001, x438002, x438003 => (spec_l2Tidy.f k x438000 x438001 x438002 x438003).bind fun bt438 => (some (bt438.1, bt438.2.1, bt438.2.2.1, bt438.2.2.2))
def spec_l2Bitwise.f (k : Nat) (a0 : Int) (a1_0 : Int) (a1_1 : Int) (a1_2 : Int) (a1_3 : Int) (a2_0 : Int) (a2_1 : Int) (a2_2 : Int) (a2_3 : Int) : Option (Int × Int × Int × Int) := if a0 = 5 then (if a2_1 < a1_1 then (spec_l2Bitwise.j0 k 0 a2_1 (Go.bits .and .i64 a1_2 a2_2) (Go.bits .and .i64 (Go.bits .and .i64 (Go.bits .or .i64 a1_2 a1_3) (Go.bits .or .i64 a2_2 a2_3)) (Go.bits .xor .i64 4294967295 (Go.bits .and .i64 a1_2 a2_2)))) else (spec_l2Bitwise.j0 k 0 a1_1 (Go.bits .and .i64 a1_2 a2_2) (Go.bits .and .i64 (Go.bits .and .i64 (Go.bits .or .i64 a1_2 a1_3) (Go.bits .or .i64 a2_2 a2_3)) (Go.bits .xor .i64 4294967295 (Go.bits .and .i64 a1_2 a2_2))))) else (if a0 = 6 then (if a2_0 > a1_0 then (spec_l2Bitwise.j0 k a2_0 4294967295 (Go.bits .or .i64 a1_2 a2_2) (Go.bits .and .i64 (Go.bits .or .i64 a1_3 a2_3) (Go.bits .xor .i64 4294967295 (Go.bits .or .i64 a1_2 a2_2)))) else (spec_l2Bitwise.j0 k a1_0 4294967295 (Go.bits .or .i64 a1_2 a2_2) (Go.bits .and .i64 (Go.bits .or .i64 a1_3 a2_3) (Go.bits .xor .i64 4294967295 (Go.bits .or .i64 a1_2 a2_2))))) else (spec_l2Bitwise.j0 k 0 4294967295 (Go.bits .and .i64 (Go.bits .xor .i64 a1_2 a2_2) (Go.bits .xor .i64 4294967295 (Go.bits .or .i64 a1_3 a2_3))) (Go.bits .or .i64 a1_3 a2_3)))


def spec_l2Bitwise.T4 : Bool × List (List Nat × List Nat) := (true, [([], []), ([0], [0]), ([], []), ([2], [2]), ([1, 3], [1, 3]), ([], []), ([], []), ([6], [6]), ([5, 7], [5, 7]), ([4, 8], [4, 8]), ([0, 1, 2, 3, 4, 5, 6, 7, 8, 9], []), ([10, 9, 5, 0, 1, 2, 3, 4, 5, 6, 7, 8, 9], [9, 10])])
def spec_l2Bitwise.B4 : List Nat := [0, 1, 0, 4, 15, 0, 0, 64, 224, 511, 1023, 2047]
theorem spec_l2Bitwise.tab4 : rtab .any (opsOf Try.f53 4) = spec_l2Bitwise.T4 := by kernel_rfl
theorem spec_l2Bitwise.bits4 : waitsOk spec_l2Bitwise.T4.2 spec_l2Bitwise.B4 = true := by kernel_rfl
def spec_l2Bitwise.T7 : Bool × List (List Nat × List Nat) := (true, [([], []), ([0], [0]), ([], []), ([2], [2]), ([1, 3], [1, 3]), ([], []), ([5], [5]), ([], []), ([7], [7]), ([6, 8], [6, 8]), ([4, 9], [4, 9]), ([], []), ([], []), ([12], [12]), ([11, 13], [11, 13]), ([10, 14], [10, 14]), ([0, 1, 2, 3, 4, 5, 6, 7, 8, 9, 10, 11, 12, 13, 14, 15], []), ([16, 15, 11, 0, 1, 2, 3, 4, 5, 6, 7, 8, 9, 10, 11, 12, 13, 14, 15], [15, 16])])
def spec_l2Bitwise.B7 : List Nat := [0, 1, 0, 4, 15, 0, 32, 0, 128, 480, 1023, 0, 0, 4096, 14336, 32767, 65535, 131071]
theorem spec_l2Bitwise.tab7 : rtab .any (opsOf Try.f53 7) = spec_l2Bitwise.T7 := by kernel_rfl
theorem spec_l2Bitwise.bits7 : waitsOk spec_l2Bitwise.T7.2 spec_l2Bitwise.B7 = true := by kernel_rfl
def spec_l2Bitwise.T13 : Bool × List (List Nat × List Nat) := (true, [([], []), ([0], [0]), ([], []), ([2], [2]), ([1, 3], [1, 3]), ([], []), ([], []), ([6], [6]), ([5, 7], [5, 7]), ([4, 8], [4, 8]), ([0, 1, 2, 3, 4, 5, 6, 7, 8, 9], []), ([10, 9, 5, 0, 1, 2, 3, 4, 5, 6, 7, 8, 9], [9, 10])])
def spec_l2Bitwise.B13 : List Nat := [0, 1, 0, 4, 15, 0, 0, 64, 224, 511, 1023, 2047]
theorem spec_l2Bitwise.tab13 : rtab .any (opsOf Try.f53 13) = spec_l2Bitwise.T13 := by kernel_rfl
theorem spec_l2Bitwise.bits13 : waitsOk spec_l2Bitwise.T13.2 spec_l2Bitwise.B13 = true := by kernel_rfl
set_option maxHeartbeats 8000000 in
set_option maxRecDepth 100000 in
theorem spec_l2Bitwise.calls (k : Nat) (a0 : Int) (a1_0 : Int) (a1_1 : Int) (a1_2 : Int) (a1_3 : Int) (a2_0 : Int) (a2_1 : Int) (a2_2 : Int) (a2_3 : Int) (r1 : Int) (r2 : Int) (r3 : Int) (r4 : Int) (w : World) (h : spec_l2Bitwise.f k a0 a1_0 a1_1 a1_2 a1_3 a2_0 a2_1 a2_2 a2_3 = some (r1, r2, r3, r4)) :
  Calls Try.prog 53 #[.int .i64 a0, .agg #[.int .i64 a1_0, .int .i64 a1_1, .int .i64 a1_2, .int .i64 a1_3], .agg #[.int .i64 a2_0, .int .i64 a2_1, .int .i64 a2_2, .int .i64 a2_3]] w fun e w' => e = .returned (.agg #[.int .i64 r1, .int .i64 r2, .int .i64 r3, .int .i64 r4]) ∧ Below w.heap.size w w' := by
 have hu24 := Try.underlying24
 have HB := Aside0.mk (Below.refl w.heap.size w)
 have H : (if a0 = 5 then (if a2_1 < a1_1 then (spec_l2Bitwise.j0 k 0 a2_1 (Go.bits .and .i64 a1_2 a2_2) (Go.bits .and .i64 (Go.bits .and .i64 (Go.bits .or .i64 a1_2 a1_3) (Go.bits .or .i64 a2_2 a2_3)) (Go.bits .xor .i64 4294967295 (Go.bits .and .i64 a1_2 a2_2)))) else (spec_l2Bitwise.j0 k 0 a1_1 (Go.bits .and .i64 a1_2 a2_2) (Go.bits .and .i64 (Go.bits .and .i64 (Go.bits .or .i64 a1_2 a1_3) (Go.bits .or .i64 a2_2 a2_3)) (Go.bits .xor .i64 4294967295 (Go.bits .and .i64 a1_2 a2_2))))) else (if a0 = 6 then (if a2_0 > a1_0 then (spec_l2Bitwise.j0 k a2_0 4294967295 (Go.bits .or .i64 a1_2 a2_2) (Go.bits .and .i64 (Go.bits .or .i64 a1_3 a2_3) (Go.bits .xor .i64 4294967295 (Go.bits .or .i64 a1_2 a2_2)))) else (spec_l2Bitwise.j0 k a1_0 4294967295 (Go.bits .or .i64 a1_2 a2_2) (Go.bits .and .i64 (Go.bits .or .i64 a1_3 a2_3) (Go.bits .xor .i64 4294967295 (Go.bits .or .i64 a1_2 a2_2))))) else (spec_l2Bitwise.j0 k 0 4294967295 (Go.bits .and .i64 (Go.bits .xor .i64 a1_2 a2_2) (Go.bits .xor .i64 4294967295 (Go.bits .or .i64 a1_3 a2_3))) (Go.bits .or .i64 a1_3 a2_3)))) = some (r1, r2, r3, r4) := h
 clear h
 have AC_spec_l2Top := Aside0.mk (show spec_l2Top.f = some 4294967295 from rfl)
 have HC4 := Aside0.mk H
 clear H
 go_enter Try.func53, Try.ntmps53
 go_upto_block 0 with (first | ((with_reducible refine gate_dst (N := 4) rfl ?_); refine be 4 #[.int .i64 a1_0, .int .i64 a1_1, .int .i64 a1_2, .int .i64 a1_3] 24 ?_; intro gb434 hg w5 hbox hb; have BK434 := Aside0.mk hbox; have GW434 := zW hg; replace HB := zS hb; have GE434 := GW434; clear hb hbox hg) | ((with_reducible refine gate_dst (N := 5) rfl ?_); refine be 5 #[.int .i64 a2_0, .int .i64 a2_1, .int .i64 a2_2, .int .i64 a2_3] 24 ?_; intro gb435 hg w6 hbox hb; have BK435 := Aside0.mk hbox; have GW435 := zW hg; replace HB := zS hb; have GE435 := GW435; have NB434_435 := zl BK434 hg rfl; have NB435_434 := zg BK434 hg rfl; replace BK434 := zb BK434 hb rfl; clear hb hbox hg) | ((with_reducible refine gate_dst (N := 6) rfl ?_); refine be 6 #[.int .i64 0, .int .i64 0, .int .i64 0, .int .i64 0] 24 ?_; intro gb436 hg w7 hbox hb; have BK436 := Aside0.mk hbox; have GW436 := zW hg; replace HB := zS hb; have GE436 := GW436; have NB434_436 := zl BK434 hg rfl; have NB436_434 := zg BK434 hg rfl; replace BK434 := zb BK434 hb rfl; have NB435_436 := zl BK435 hg rfl; have NB436_435 := zg BK435 hg rfl; replace BK435 := zb BK435 hb rfl; clear hb hbox hg) | ((with_reducible refine gate_callee (f := 39) rfl ?_); refine gl 8 Try.func39 #[] ?_; (with_reducible refine (spec_l2Top.calls  4294967295 _ AC_spec_l2Top.out).mono ?_); rintro e w' ⟨rfl, ⟨nd, rfl⟩⟩; refine ⟨_, rfl, ?_⟩; (try (rw [drewN_self w7]; generalize hq_ : World.drewN w7 _ = w7; have n0_ : Aside0 (w7.heap[gb434]? = some (.cells #[.int .i64 a1_0, .int .i64 a1_1, .int .i64 a1_2, .int .i64 a1_3] 24 (0, 0))) := ⟨by rw [← hq_]; exact (by exact bq BK434.out)⟩; have n1_ : Aside0 (w7.heap[gb435]? = some (.cells #[.int .i64 a2_0, .int .i64 a2_1, .int .i64 a2_2, .int .i64 a2_3] 24 (0, 0))) := ⟨by rw [← hq_]; exact (by exact bq BK435.out)⟩; have n2_ : Aside0 (w7.heap[gb436]? = some (.cells #[.int .i64 0, .int .i64 0, .int .i64 0, .int .i64 0] 24 (0, 0))) := ⟨by rw [← hq_]; exact (by exact bq BK436.out)⟩; have n3_ : Aside0 (Below w.heap.size w w7) := ⟨by rw [← hq_]; exact zB⟩; clear BK434 BK435 BK436 HB hq_; have BK434 := n0_; have BK435 := n1_; have BK436 := n2_; have HB := n3_; clear n0_ n1_ n2_ n3_))) | ((with_reducible refine gate_dst (N := 7) rfl ?_); refine be 7 #[.int .i64 0, .int .i64 0, .int .i64 0, .int .i64 0] 24 ?_; intro gb437 hg w8 hbox hb; have BK437 := Aside0.mk hbox; have GW437 := zW hg; replace HB := zS hb; have GE437 := GW437; have NB434_437 := zl BK434 hg rfl; have NB437_434 := zg BK434 hg rfl; replace BK434 := zb BK434 hb rfl; have NB435_437 := zl BK435 hg rfl; have NB437_435 := zg BK435 hg rfl; replace BK435 := zb BK435 hb rfl; have NB436_437 := zl BK436 hg rfl; have NB437_436 := zg BK436 hg rfl; replace BK436 := zb BK436 hb rfl; clear hb hbox hg; have hnb9 := NB437_434.out; have hnc9 := NB434_437.out; have hnb10 := NB437_435.out; have hnc10 := NB435_437.out; have hnb11 := NB437_436.out; have hnc11 := NB436_437.out; obtain ⟨hcz12_0, hcz12_1, hcz12_2, hcz12_3, hfz12_0, hfz12_1, hfz12_2, hfz12_3⟩ := zc4 BK437))
 (try simp only [Act.put, List.setIfInBounds_toArray, List.set_cons_zero, List.set_cons_succ])
 go_cut [] (fun wc => ∃ (kq : Nat) (x438000_3 : Int) (x438001_3 : Int) (x438002_3 : Int) (x438003_3 : Int), Aside0 (spec_l2Bitwise.j0 kq x438000_3 x438001_3 x438002_3 x438003_3 = some (r1, r2, r3, r4)) ∧ Aside0 (kq ≤ k) ∧ Aside0 (wc.heap[gb434]? = some (.cells #[.int .i64 a1_0, .int .i64 a1_1, .int .i64 a1_2, .int .i64 a1_3] 24 (0, 0))) ∧ Aside0 (wc.heap[gb435]? = some (.cells #[.int .i64 a2_0, .int .i64 a2_1, .int .i64 a2_2, .int .i64 a2_3] 24 (0, 0))) ∧ Aside0 (wc.heap[gb436]? = some (.cells #[.int .i64 0, .int .i64 0, .int .i64 0, .int .i64 0] 24 (0, 0))) ∧ Aside0 (wc.heap[gb437]? = some (.cells #[.int .i64 x438000_3, .int .i64 x438001_3, .int .i64 x438002_3, .int .i64 x438003_3] 24 (0, 0))) ∧ Aside0 (Below w.heap.size w wc))
 case first =>
  have H := HC4.out
  clear HC4
  by_cases c13 : a0 = 5
  ·rw [if_pos c13] at H
   have c13b0 : (a0 == 5) = true := beq_iff_eq.mpr c13
   have c13b1 : (a0 != 5) = false := bne_eq_false_iff_eq.mpr c13
   clear c13
   (first | rw [c13b0] | (simp only [i64_w, i32_w]; rw [c13b0]) | skip)
   have AC_spec_l2Top := Aside0.mk (show spec_l2Top.f = some 4294967295 from rfl)
   by_cases c14 : a2_1 < a1_1
   ·rw [if_pos c14] at H
    have c14b0 : decide (a2_1 < a1_1) = true := decide_eq_true c14
    clear c14
    have H' := Aside0.mk H
    clear H
    have hnb15 := NB434_435.out
    have hnc15 := NB435_434.out
    have hnb16 := NB434_436.out
    have hnc16 := NB436_434.out
    have hnb17 := NB434_437.out
    have hnc17 := NB437_434.out
    obtain ⟨hcz18_0, hcz18_1, hcz18_2, hcz18_3, hfz18_0, hfz18_1, hfz18_2, hfz18_3⟩ := zc4 BK434
    have hnb19 := NB435_436.out
    have hnc19 := NB436_435.out
    have hnb20 := NB435_437.out
    have hnc20 := NB437_435.out
    obtain ⟨hcz21_0, hcz21_1, hcz21_2, hcz21_3, hfz21_0, hfz21_1, hfz21_2, hfz21_3⟩ := zc4 BK435
    have hnb22 := NB437_436.out
    have hnc22 := NB436_437.out
    obtain ⟨hcz23_0, hcz23_1, hcz23_2, hcz23_3, hfz23_0, hfz23_1, hfz23_2, hfz23_3⟩ := zc4 BK437
    try go_wp2
    have n0_ : Aside0 ((((((w8.setCell ⟨gb437, 0, none⟩ (.int .i64 0)).setCell ⟨gb437, 1, none⟩ (.int .i64 4294967295)).setCell ⟨gb437, 2, none⟩ (.int .i64 0)).setCell ⟨gb437, 3, none⟩ (.int .i64 0)).setCell ⟨gb437, 2, none⟩ (.int .i64 (Go.bits .and .i64 a1_2 a2_2))).heap[gb434]? = some (.cells #[.int .i64 a1_0, .int .i64 a1_1, .int .i64 a1_2, .int .i64 a1_3] 24 (0, 0))) := ⟨by refine fq ?_ NB434_437.out; refine fq ?_ NB434_437.out; refine fq ?_ NB434_437.out; refine fq ?_ NB434_437.out; refine fq ?_ NB434_437.out; exact bq BK434.out⟩
    have n1_ : Aside0 ((((((w8.setCell ⟨gb437, 0, none⟩ (.int .i64 0)).setCell ⟨gb437, 1, none⟩ (.int .i64 4294967295)).setCell ⟨gb437, 2, none⟩ (.int .i64 0)).setCell ⟨gb437, 3, none⟩ (.int .i64 0)).setCell ⟨gb437, 2, none⟩ (.int .i64 (Go.bits .and .i64 a1_2 a2_2))).heap[gb435]? = some (.cells #[.int .i64 a2_0, .int .i64 a2_1, .int .i64 a2_2, .int .i64 a2_3] 24 (0, 0))) := ⟨by refine fq ?_ NB435_437.out; refine fq ?_ NB435_437.out; refine fq ?_ NB435_437.out; refine fq ?_ NB435_437.out; refine fq ?_ NB435_437.out; exact bq BK435.out⟩
    have n2_ : Aside0 ((((((w8.setCell ⟨gb437, 0, none⟩ (.int .i64 0)).setCell ⟨gb437, 1, none⟩ (.int .i64 4294967295)).setCell ⟨gb437, 2, none⟩ (.int .i64 0)).setCell ⟨gb437, 3, none⟩ (.int .i64 0)).setCell ⟨gb437, 2, none⟩ (.int .i64 (Go.bits .and .i64 a1_2 a2_2))).heap[gb436]? = some (.cells #[.int .i64 0, .int .i64 0, .int .i64 0, .int .i64 0] 24 (0, 0))) := ⟨by refine fq ?_ NB436_437.out; refine fq ?_ NB436_437.out; refine fq ?_ NB436_437.out; refine fq ?_ NB436_437.out; refine fq ?_ NB436_437.out; exact bq BK436.out⟩
    have n3_ : Aside0 ((((((w8.setCell ⟨gb437, 0, none⟩ (.int .i64 0)).setCell ⟨gb437, 1, none⟩ (.int .i64 4294967295)).setCell ⟨gb437, 2, none⟩ (.int .i64 0)).setCell ⟨gb437, 3, none⟩ (.int .i64 0)).setCell ⟨gb437, 2, none⟩ (.int .i64 (Go.bits .and .i64 a1_2 a2_2))).heap[gb437]? = some (.cells #[.int .i64 0, .int .i64 4294967295, .int .i64 (Go.bits .and .i64 a1_2 a2_2), .int .i64 0] 24 (0, 0))) := ⟨by refine bq ?_; refine blk_put (cs := #[.int .i64 0, .int .i64 4294967295, .int .i64 0, .int .i64 0]) ?_ 2 _ rfl; refine bq ?_; refine blk_put (cs := #[.int .i64 0, .int .i64 4294967295, .int .i64 0, .int .i64 0]) ?_ 3 _ rfl; refine bq ?_; refine blk_put (cs := #[.int .i64 0, .int .i64 4294967295, .int .i64 0, .int .i64 0]) ?_ 2 _ rfl; refine bq ?_; refine blk_put (cs := #[.int .i64 0, .int .i64 0, .int .i64 0, .int .i64 0]) ?_ 1 _ rfl; refine bq ?_; refine blk_put (cs := #[.int .i64 0, .int .i64 0, .int .i64 0, .int .i64 0]) ?_ 0 _ rfl; exact bq BK437.out⟩
    have n4_ : Aside0 (Below w.heap.size w (((((w8.setCell ⟨gb437, 0, none⟩ (.int .i64 0)).setCell ⟨gb437, 1, none⟩ (.int .i64 4294967295)).setCell ⟨gb437, 2, none⟩ (.int .i64 0)).setCell ⟨gb437, 3, none⟩ (.int .i64 0)).setCell ⟨gb437, 2, none⟩ (.int .i64 (Go.bits .and .i64 a1_2 a2_2)))) := ⟨zB⟩
    (try clear BK434)
    (try clear BK435)
    (try clear BK436)
    (try clear BK437)
    (try clear HB)
    generalize (((((w8.setCell ⟨gb437, 0, none⟩ (.int .i64 0)).setCell ⟨gb437, 1, none⟩ (.int .i64 4294967295)).setCell ⟨gb437, 2, none⟩ (.int .i64 0)).setCell ⟨gb437, 3, none⟩ (.int .i64 0)).setCell ⟨gb437, 2, none⟩ (.int .i64 (Go.bits .and .i64 a1_2 a2_2))) = w24 at n0_ n1_ n2_ n3_ n4_ ⊢
    have BK434 := n0_
    have BK435 := n1_
    have BK436 := n2_
    have BK437 := n3_
    have HB := n4_
    clear n0_ n1_ n2_ n3_ n4_
    replace BK434 := Aside0.mk (blk_drew BK434.out)
    replace BK435 := Aside0.mk (blk_drew BK435.out)
    replace BK436 := Aside0.mk (blk_drew BK436.out)
    replace BK437 := Aside0.mk (blk_drew BK437.out)
    replace HB := Aside0.mk (below_drew1 HB.out)
    refine start_ (n := 18) (S := fun w' => w'.cell? ⟨gb434, 0, none⟩ = some (.int .i64 a1_0) ∧ w'.cell? ⟨gb434, 1, none⟩ = some (.int .i64 a1_1) ∧ w'.cell? ⟨gb434, 2, none⟩ = some (.int .i64 a1_2) ∧ w'.cell? ⟨gb434, 3, none⟩ = some (.int .i64 a1_3) ∧ w'.cell? ⟨gb435, 0, none⟩ = some (.int .i64 a2_0) ∧ w'.cell? ⟨gb435, 1, none⟩ = some (.int .i64 a2_1) ∧ w'.cell? ⟨gb435, 2, none⟩ = some (.int .i64 a2_2) ∧ w'.cell? ⟨gb435, 3, none⟩ = some (.int .i64 a2_3) ∧ w'.cell? ⟨gb437, 2, none⟩ = some (.int .i64 (Go.bits .and .i64 a1_2 a2_2))) (ds := []) #[false, false, false, false, false, false, false, false, false, false, false, false, false, false, false, false, false, false] (by kernel_rfl) rfl rfl ⟨(blk_cell BK434.out 0).trans rfl, (blk_cell BK434.out 1).trans rfl, (blk_cell BK434.out 2).trans rfl, (blk_cell BK434.out 3).trans rfl, (blk_cell BK435.out 0).trans rfl, (blk_cell BK435.out 1).trans rfl, (blk_cell BK435.out 2).trans rfl, (blk_cell BK435.out 3).trans rfl, (blk_cell BK437.out 2).trans rfl⟩ (fun hHeld => ?_); refine with_tabW spec_l2Bitwise.tab7 spec_l2Bitwise.bits7 (fun HT_ HW_ => ?_)
    generalize w24.drew = w25 at BK434 BK435 BK436 BK437 HB hHeld ⊢
    refine pz 0 36 ?_
    refine pz 2 38 ?_
    refine pz 5 41 ?_
    refine pz 7 43 ?_
    refine pz 12 48 ?_
    refine tz 1 37 ?_
    refine tz 3 39 ?_
    refine pz 4 40 ?_
    refine tz 6 42 ?_
    refine tz 8 44 ?_
    refine pz 9 45 ?_
    refine pz 10 46 ?_
    refine tz 13 49 ?_
    refine oz 11 47 fun K hK => ?_
    refine gz Try.func39 #[] ?_
    with_reducible refine (spec_l2Top.calls  4294967295 _ AC_spec_l2Top.out).mono ?_
    rintro e w' ⟨rfl, ⟨nd, rfl⟩⟩
    refine ⟨_, rfl, ?_⟩
    refine hK.out _ _ ⟨(blk_cell BK434.out 0).trans rfl, (blk_cell BK434.out 1).trans rfl, (blk_cell BK434.out 2).trans rfl, (blk_cell BK434.out 3).trans rfl, (blk_cell BK435.out 0).trans rfl, (blk_cell BK435.out 1).trans rfl, (blk_cell BK435.out 2).trans rfl, (blk_cell BK435.out 3).trans rfl, (blk_cell BK437.out 2).trans rfl⟩ (fun hHeld => ?_)
    clear hK K
    refine nz ?_
    refine pz 14 50 ?_
    refine pz 15 51 ?_
    refine pz 16 52 ?_
    refine oN 17 fun K hK => ?_
    have hs26 : w25.cell? ⟨gb437, 3, none⟩ = some (.int .i64 0) := (blk_cell BK437.out 3).trans rfl
    have hfs26 := blk_frozen BK437.out 3
    have hns26_0 := NB434_437.out
    have hns26_1 := NB435_437.out
    have hns26_2 := NB436_437.out
    have hms26_0 := NB437_434.out
    have hms26_1 := NB437_435.out
    have hms26_2 := NB437_436.out
    refine skip_ (w1 := ?_) (by rfl) rfl ?_ ?_
    rotate_left
    ·go_simp
     rfl
    refine hK.out _ _ ⟨((cell_far (p := ⟨gb437, _, none⟩) NB434_437.out _).trans (hHeld.1)), ((cell_far (p := ⟨gb437, _, none⟩) NB434_437.out _).trans (hHeld.2.1)), ((cell_far (p := ⟨gb437, _, none⟩) NB434_437.out _).trans (hHeld.2.2.1)), ((cell_far (p := ⟨gb437, _, none⟩) NB434_437.out _).trans (hHeld.2.2.2.1)), ((cell_far (p := ⟨gb437, _, none⟩) NB435_437.out _).trans (hHeld.2.2.2.2.1)), ((cell_far (p := ⟨gb437, _, none⟩) NB435_437.out _).trans (hHeld.2.2.2.2.2.1)), ((cell_far (p := ⟨gb437, _, none⟩) NB435_437.out _).trans (hHeld.2.2.2.2.2.2.1)), ((cell_far (p := ⟨gb437, _, none⟩) NB435_437.out _).trans (hHeld.2.2.2.2.2.2.2.1)), ((World.cell?_setCell_other _ _ _ _ (by simp)).trans (hHeld.2.2.2.2.2.2.2.2))⟩ (fun hHeld => ?_)
    clear hK K
    refine done_ (done_of HT_.out (by kernel_rfl)) ?_
    obtain ⟨hcz27_0, hcz27_1, hcz27_2, hcz27_3, hfz27_0, hfz27_1, hfz27_2, hfz27_3⟩ := zc4 BK434
    obtain ⟨hcz28_0, hcz28_1, hcz28_2, hcz28_3, hfz28_0, hfz28_1, hfz28_2, hfz28_3⟩ := zc4 BK437
    obtain ⟨hcz29_0, hcz29_1, hcz29_2, hcz29_3, hfz29_0, hfz29_1, hfz29_2, hfz29_3⟩ := zc4 BK435
    try go_wp2
    go_meet
    case rel => exact ⟨_, (0), (a2_1), (Go.bits .and .i64 a1_2 a2_2), (Go.bits .and .i64 (Go.bits .and .i64 (Go.bits .or .i64 a1_2 a1_3) (Go.bits .or .i64 a2_2 a2_3)) (Go.bits .xor .i64 4294967295 (Go.bits .and .i64 a1_2 a2_2))), H', ⟨by first | omega | exact Nat.le_refl _⟩, ⟨by refine fq ?_ NB434_437.out; refine fq ?_ NB434_437.out; refine fq ?_ NB434_437.out; exact bq BK434.out⟩, ⟨by refine fq ?_ NB435_437.out; refine fq ?_ NB435_437.out; refine fq ?_ NB435_437.out; exact bq BK435.out⟩, ⟨by refine fq ?_ NB436_437.out; refine fq ?_ NB436_437.out; refine fq ?_ NB436_437.out; exact bq BK436.out⟩, ⟨by refine bq ?_; refine blk_put (cs := #[.int .i64 0, .int .i64 a1_1, .int .i64 (Go.bits .and .i64 a1_2 a2_2), .int .i64 (Go.bits .and .i64 (Go.bits .and .i64 (Go.bits .or .i64 a1_2 a1_3) (Go.bits .or .i64 a2_2 a2_3)) (Go.bits .xor .i64 4294967295 (Go.bits .and .i64 a1_2 a2_2)))]) ?_ 1 _ rfl; refine bq ?_; refine blk_put (cs := #[.int .i64 0, .int .i64 4294967295, .int .i64 (Go.bits .and .i64 a1_2 a2_2), .int .i64 (Go.bits .and .i64 (Go.bits .and .i64 (Go.bits .or .i64 a1_2 a1_3) (Go.bits .or .i64 a2_2 a2_3)) (Go.bits .xor .i64 4294967295 (Go.bits .and .i64 a1_2 a2_2)))]) ?_ 1 _ rfl; refine bq ?_; refine blk_put (cs := #[.int .i64 0, .int .i64 4294967295, .int .i64 (Go.bits .and .i64 a1_2 a2_2), .int .i64 0]) ?_ 3 _ rfl; exact bq BK437.out⟩, ⟨zB⟩⟩
   ·rw [if_neg c14] at H
    have c14b0 : decide (a2_1 < a1_1) = false := decide_eq_false c14
    clear c14
    have H' := Aside0.mk H
    clear H
    have hnb30 := NB434_435.out
    have hnc30 := NB435_434.out
    have hnb31 := NB434_436.out
    have hnc31 := NB436_434.out
    have hnb32 := NB434_437.out
    have hnc32 := NB437_434.out
    obtain ⟨hcz33_0, hcz33_1, hcz33_2, hcz33_3, hfz33_0, hfz33_1, hfz33_2, hfz33_3⟩ := zc4 BK434
    have hnb34 := NB435_436.out
    have hnc34 := NB436_435.out
    have hnb35 := NB435_437.out
    have hnc35 := NB437_435.out
    obtain ⟨hcz36_0, hcz36_1, hcz36_2, hcz36_3, hfz36_0, hfz36_1, hfz36_2, hfz36_3⟩ := zc4 BK435
    have hnb37 := NB437_436.out
    have hnc37 := NB436_437.out
    obtain ⟨hcz38_0, hcz38_1, hcz38_2, hcz38_3, hfz38_0, hfz38_1, hfz38_2, hfz38_3⟩ := zc4 BK437
    try go_wp2
    have n0_ : Aside0 ((((((w8.setCell ⟨gb437, 0, none⟩ (.int .i64 0)).setCell ⟨gb437, 1, none⟩ (.int .i64 4294967295)).setCell ⟨gb437, 2, none⟩ (.int .i64 0)).setCell ⟨gb437, 3, none⟩ (.int .i64 0)).setCell ⟨gb437, 2, none⟩ (.int .i64 (Go.bits .and .i64 a1_2 a2_2))).heap[gb434]? = some (.cells #[.int .i64 a1_0, .int .i64 a1_1, .int .i64 a1_2, .int .i64 a1_3] 24 (0, 0))) := ⟨by refine fq ?_ NB434_437.out; refine fq ?_ NB434_437.out; refine fq ?_ NB434_437.out; refine fq ?_ NB434_437.out; refine fq ?_ NB434_437.out; exact bq BK434.out⟩
    have n1_ : Aside0 ((((((w8.setCell ⟨gb437, 0, none⟩ (.int .i64 0)).setCell ⟨gb437, 1, none⟩ (.int .i64 4294967295)).setCell ⟨gb437, 2, none⟩ (.int .i64 0)).setCell ⟨gb437, 3, none⟩ (.int .i64 0)).setCell ⟨gb437, 2, none⟩ (.int .i64 (Go.bits .and .i64 a1_2 a2_2))).heap[gb435]? = some (.cells #[.int .i64 a2_0, .int .i64 a2_1, .int .i64 a2_2, .int .i64 a2_3] 24 (0, 0))) := ⟨by refine fq ?_ NB435_437.out; refine fq ?_ NB435_437.out; refine fq ?_ NB435_437.out; refine fq ?_ NB435_437.out; refine fq ?_ NB435_437.out; exact bq BK435.out⟩
    have n2_ : Aside0 ((((((w8.setCell ⟨gb437, 0, none⟩ (.int .i64 0)).setCell ⟨gb437, 1, none⟩ (.int .i64 4294967295)).setCell ⟨gb437, 2, none⟩ (.int .i64 0)).setCell ⟨gb437, 3, none⟩ (.int .i64 0)).setCell ⟨gb437, 2, none⟩ (.int .i64 (Go.bits .and .i64 a1_2 a2_2))).heap[gb436]? = some (.cells #[.int .i64 0, .int .i64 0, .int .i64 0, .int .i64 0] 24 (0, 0))) := ⟨by refine fq ?_ NB436_437.out; refine fq ?_ NB436_437.out; refine fq ?_ NB436_437.out; refine fq ?_ NB436_437.out; refine fq ?_ NB436_437.out; exact bq BK436.out⟩
    have n3_ : Aside0 ((((((w8.setCell ⟨gb437, 0, none⟩ (.int .i64 0)).setCell ⟨gb437, 1, none⟩ (.int .i64 4294967295)).setCell ⟨gb437, 2, none⟩ (.int .i64 0)).setCell ⟨gb437, 3, none⟩ (.int .i64 0)).setCell ⟨gb437, 2, none⟩ (.int .i64 (Go.bits .and .i64 a1_2 a2_2))).heap[gb437]? = some (.cells #[.int .i64 0, .int .i64 4294967295, .int .i64 (Go.bits .and .i64 a1_2 a2_2), .int .i64 0] 24 (0, 0))) := ⟨by refine bq ?_; refine blk_put (cs := #[.int .i64 0, .int .i64 4294967295, .int .i64 0, .int .i64 0]) ?_ 2 _ rfl; refine bq ?_; refine blk_put (cs := #[.int .i64 0, .int .i64 4294967295, .int .i64 0, .int .i64 0]) ?_ 3 _ rfl; refine bq ?_; refine blk_put (cs := #[.int .i64 0, .int .i64 4294967295, .int .i64 0, .int .i64 0]) ?_ 2 _ rfl; refine bq ?_; refine blk_put (cs := #[.int .i64 0, .int .i64 0, .int .i64 0, .int .i64 0]) ?_ 1 _ rfl; refine bq ?_; refine blk_put (cs := #[.int .i64 0, .int .i64 0, .int .i64 0, .int .i64 0]) ?_ 0 _ rfl; exact bq BK437.out⟩
    have n4_ : Aside0 (Below w.heap.size w (((((w8.setCell ⟨gb437, 0, none⟩ (.int .i64 0)).setCell ⟨gb437, 1, none⟩ (.int .i64 4294967295)).setCell ⟨gb437, 2, none⟩ (.int .i64 0)).setCell ⟨gb437, 3, none⟩ (.int .i64 0)).setCell ⟨gb437, 2, none⟩ (.int .i64 (Go.bits .and .i64 a1_2 a2_2)))) := ⟨zB⟩
    (try clear BK434)
    (try clear BK435)
    (try clear BK436)
    (try clear BK437)
    (try clear HB)
    generalize (((((w8.setCell ⟨gb437, 0, none⟩ (.int .i64 0)).setCell ⟨gb437, 1, none⟩ (.int .i64 4294967295)).setCell ⟨gb437, 2, none⟩ (.int .i64 0)).setCell ⟨gb437, 3, none⟩ (.int .i64 0)).setCell ⟨gb437, 2, none⟩ (.int .i64 (Go.bits .and .i64 a1_2 a2_2))) = w39 at n0_ n1_ n2_ n3_ n4_ ⊢
    have BK434 := n0_
    have BK435 := n1_
    have BK436 := n2_
    have BK437 := n3_
    have HB := n4_
    clear n0_ n1_ n2_ n3_ n4_
    replace BK434 := Aside0.mk (blk_drew BK434.out)
    replace BK435 := Aside0.mk (blk_drew BK435.out)
    replace BK436 := Aside0.mk (blk_drew BK436.out)
    replace BK437 := Aside0.mk (blk_drew BK437.out)
    replace HB := Aside0.mk (below_drew1 HB.out)
    refine start_ (n := 18) (S := fun w' => w'.cell? ⟨gb434, 0, none⟩ = some (.int .i64 a1_0) ∧ w'.cell? ⟨gb434, 1, none⟩ = some (.int .i64 a1_1) ∧ w'.cell? ⟨gb434, 2, none⟩ = some (.int .i64 a1_2) ∧ w'.cell? ⟨gb434, 3, none⟩ = some (.int .i64 a1_3) ∧ w'.cell? ⟨gb435, 0, none⟩ = some (.int .i64 a2_0) ∧ w'.cell? ⟨gb435, 1, none⟩ = some (.int .i64 a2_1) ∧ w'.cell? ⟨gb435, 2, none⟩ = some (.int .i64 a2_2) ∧ w'.cell? ⟨gb435, 3, none⟩ = some (.int .i64 a2_3) ∧ w'.cell? ⟨gb437, 2, none⟩ = some (.int .i64 (Go.bits .and .i64 a1_2 a2_2))) (ds := []) #[false, false, false, false, false, false, false, false, false, false, false, false, false, false, false, false, false, false] (by kernel_rfl) rfl rfl ⟨(blk_cell BK434.out 0).trans rfl, (blk_cell BK434.out 1).trans rfl, (blk_cell BK434.out 2).trans rfl, (blk_cell BK434.out 3).trans rfl, (blk_cell BK435.out 0).trans rfl, (blk_cell BK435.out 1).trans rfl, (blk_cell BK435.out 2).trans rfl, (blk_cell BK435.out 3).trans rfl, (blk_cell BK437.out 2).trans rfl⟩ (fun hHeld => ?_); refine with_tabW spec_l2Bitwise.tab7 spec_l2Bitwise.bits7 (fun HT_ HW_ => ?_)
    generalize w39.drew = w40 at BK434 BK435 BK436 BK437 HB hHeld ⊢
    refine pz 0 36 ?_
    refine pz 2 38 ?_
    refine pz 5 41 ?_
    refine pz 7 43 ?_
    refine pz 12 48 ?_
    refine tz 1 37 ?_
    refine tz 3 39 ?_
    refine pz 4 40 ?_
    refine tz 6 42 ?_
    refine tz 8 44 ?_
    refine pz 9 45 ?_
    refine pz 10 46 ?_
    refine tz 13 49 ?_
    refine oz 11 47 fun K hK => ?_
    refine gz Try.func39 #[] ?_
    with_reducible refine (spec_l2Top.calls  4294967295 _ AC_spec_l2Top.out).mono ?_
    rintro e w' ⟨rfl, ⟨nd, rfl⟩⟩
    refine ⟨_, rfl, ?_⟩
    refine hK.out _ _ ⟨(blk_cell BK434.out 0).trans rfl, (blk_cell BK434.out 1).trans rfl, (blk_cell BK434.out 2).trans rfl, (blk_cell BK434.out 3).trans rfl, (blk_cell BK435.out 0).trans rfl, (blk_cell BK435.out 1).trans rfl, (blk_cell BK435.out 2).trans rfl, (blk_cell BK435.out 3).trans rfl, (blk_cell BK437.out 2).trans rfl⟩ (fun hHeld => ?_)
    clear hK K
    refine nz ?_
    refine pz 14 50 ?_
    refine pz 15 51 ?_
    refine pz 16 52 ?_
    refine oN 17 fun K hK => ?_
    have hs41 : w40.cell? ⟨gb437, 3, none⟩ = some (.int .i64 0) := (blk_cell BK437.out 3).trans rfl
    have hfs41 := blk_frozen BK437.out 3
    have hns41_0 := NB434_437.out
    have hns41_1 := NB435_437.out
    have hns41_2 := NB436_437.out
    have hms41_0 := NB437_434.out
    have hms41_1 := NB437_435.out
    have hms41_2 := NB437_436.out
    refine skip_ (w1 := ?_) (by rfl) rfl ?_ ?_
    rotate_left
    ·go_simp
     rfl
    refine hK.out _ _ ⟨((cell_far (p := ⟨gb437, _, none⟩) NB434_437.out _).trans (hHeld.1)), ((cell_far (p := ⟨gb437, _, none⟩) NB434_437.out _).trans (hHeld.2.1)), ((cell_far (p := ⟨gb437, _, none⟩) NB434_437.out _).trans (hHeld.2.2.1)), ((cell_far (p := ⟨gb437, _, none⟩) NB434_437.out _).trans (hHeld.2.2.2.1)), ((cell_far (p := ⟨gb437, _, none⟩) NB435_437.out _).trans (hHeld.2.2.2.2.1)), ((cell_far (p := ⟨gb437, _, none⟩) NB435_437.out _).trans (hHeld.2.2.2.2.2.1)), ((cell_far (p := ⟨gb437, _, none⟩) NB435_437.out _).trans (hHeld.2.2.2.2.2.2.1)), ((cell_far (p := ⟨gb437, _, none⟩) NB435_437.out _).trans (hHeld.2.2.2.2.2.2.2.1)), ((World.cell?_setCell_other _ _ _ _ (by simp)).trans (hHeld.2.2.2.2.2.2.2.2))⟩ (fun hHeld => ?_)
    clear hK K
    refine done_ (done_of HT_.out (by kernel_rfl)) ?_
    obtain ⟨hcz42_0, hcz42_1, hcz42_2, hcz42_3, hfz42_0, hfz42_1, hfz42_2, hfz42_3⟩ := zc4 BK434
    obtain ⟨hcz43_0, hcz43_1, hcz43_2, hcz43_3, hfz43_0, hfz43_1, hfz43_2, hfz43_3⟩ := zc4 BK437
    obtain ⟨hcz44_0, hcz44_1, hcz44_2, hcz44_3, hfz44_0, hfz44_1, hfz44_2, hfz44_3⟩ := zc4 BK435
    try go_wp2
    go_meet
    case rel => exact ⟨_, (0), (a1_1), (Go.bits .and .i64 a1_2 a2_2), (Go.bits .and .i64 (Go.bits .and .i64 (Go.bits .or .i64 a1_2 a1_3) (Go.bits .or .i64 a2_2 a2_3)) (Go.bits .xor .i64 4294967295 (Go.bits .and .i64 a1_2 a2_2))), H', ⟨by first | omega | exact Nat.le_refl _⟩, ⟨by refine fq ?_ NB434_437.out; refine fq ?_ NB434_437.out; exact bq BK434.out⟩, ⟨by refine fq ?_ NB435_437.out; refine fq ?_ NB435_437.out; exact bq BK435.out⟩, ⟨by refine fq ?_ NB436_437.out; refine fq ?_ NB436_437.out; exact bq BK436.out⟩, ⟨by refine bq ?_; refine blk_put (cs := #[.int .i64 0, .int .i64 4294967295, .int .i64 (Go.bits .and .i64 a1_2 a2_2), .int .i64 (Go.bits .and .i64 (Go.bits .and .i64 (Go.bits .or .i64 a1_2 a1_3) (Go.bits .or .i64 a2_2 a2_3)) (Go.bits .xor .i64 4294967295 (Go.bits .and .i64 a1_2 a2_2)))]) ?_ 1 _ rfl; refine bq ?_; refine blk_put (cs := #[.int .i64 0, .int .i64 4294967295, .int .i64 (Go.bits .and .i64 a1_2 a2_2), .int .i64 0]) ?_ 3 _ rfl; exact bq BK437.out⟩, ⟨zB⟩⟩
  ·rw [if_neg c13] at H
   have c13b0 : (a0 == 5) = false := beq_eq_false_iff_ne.mpr c13
   have c13b1 : (a0 != 5) = true := bne_iff_ne.mpr c13
   (first | rw [c13b0] | (simp only [i64_w, i32_w]; rw [c13b0]) | skip)
   by_cases c45 : a0 = 6
   ·rw [if_pos c45] at H
    have c45b0 : (a0 == 6) = true := beq_iff_eq.mpr c45
    have c45b1 : (a0 != 6) = false := bne_eq_false_iff_eq.mpr c45
    clear c45
    have AC_spec_l2Top := Aside0.mk (show spec_l2Top.f = some 4294967295 from rfl)
    by_cases c46 : a2_0 > a1_0
    ·rw [if_pos c46] at H
     have c46b0 : decide (a1_0 < a2_0) = true := decide_eq_true c46
     clear c46
     have H' := Aside0.mk H
     clear H
     have hnb47 := NB434_435.out
     have hnc47 := NB435_434.out
     have hnb48 := NB434_436.out
     have hnc48 := NB436_434.out
     have hnb49 := NB434_437.out
     have hnc49 := NB437_434.out
     obtain ⟨hcz50_0, hcz50_1, hcz50_2, hcz50_3, hfz50_0, hfz50_1, hfz50_2, hfz50_3⟩ := zc4 BK434
     have hnb51 := NB435_436.out
     have hnc51 := NB436_435.out
     have hnb52 := NB435_437.out
     have hnc52 := NB437_435.out
     obtain ⟨hcz53_0, hcz53_1, hcz53_2, hcz53_3, hfz53_0, hfz53_1, hfz53_2, hfz53_3⟩ := zc4 BK435
     have hnb54 := NB437_436.out
     have hnc54 := NB436_437.out
     obtain ⟨hcz55_0, hcz55_1, hcz55_2, hcz55_3, hfz55_0, hfz55_1, hfz55_2, hfz55_3⟩ := zc4 BK437
     try go_wp2
     have n0_ : Aside0 ((((((w8.setCell ⟨gb437, 0, none⟩ (.int .i64 0)).setCell ⟨gb437, 1, none⟩ (.int .i64 4294967295)).setCell ⟨gb437, 2, none⟩ (.int .i64 0)).setCell ⟨gb437, 3, none⟩ (.int .i64 0)).setCell ⟨gb437, 2, none⟩ (.int .i64 (Go.bits .or .i64 a1_2 a2_2))).heap[gb434]? = some (.cells #[.int .i64 a1_0, .int .i64 a1_1, .int .i64 a1_2, .int .i64 a1_3] 24 (0, 0))) := ⟨by refine fq ?_ NB434_437.out; refine fq ?_ NB434_437.out; refine fq ?_ NB434_437.out; refine fq ?_ NB434_437.out; refine fq ?_ NB434_437.out; exact bq BK434.out⟩
     have n1_ : Aside0 ((((((w8.setCell ⟨gb437, 0, none⟩ (.int .i64 0)).setCell ⟨gb437, 1, none⟩ (.int .i64 4294967295)).setCell ⟨gb437, 2, none⟩ (.int .i64 0)).setCell ⟨gb437, 3, none⟩ (.int .i64 0)).setCell ⟨gb437, 2, none⟩ (.int .i64 (Go.bits .or .i64 a1_2 a2_2))).heap[gb435]? = some (.cells #[.int .i64 a2_0, .int .i64 a2_1, .int .i64 a2_2, .int .i64 a2_3] 24 (0, 0))) := ⟨by refine fq ?_ NB435_437.out; refine fq ?_ NB435_437.out; refine fq ?_ NB435_437.out; refine fq ?_ NB435_437.out; refine fq ?_ NB435_437.out; exact bq BK435.out⟩
     have n2_ : Aside0 ((((((w8.setCell ⟨gb437, 0, none⟩ (.int .i64 0)).setCell ⟨gb437, 1, none⟩ (.int .i64 4294967295)).setCell ⟨gb437, 2, none⟩ (.int .i64 0)).setCell ⟨gb437, 3, none⟩ (.int .i64 0)).setCell ⟨gb437, 2, none⟩ (.int .i64 (Go.bits .or .i64 a1_2 a2_2))).heap[gb436]? = some (.cells #[.int .i64 0, .int .i64 0, .int .i64 0, .int .i64 0] 24 (0, 0))) := ⟨by refine fq ?_ NB436_437.out; refine fq ?_ NB436_437.out; refine fq ?_ NB436_437.out; refine fq ?_ NB436_437.out; refine fq ?_ NB436_437.out; exact bq BK436.out⟩
     have n3_ : Aside0 ((((((w8.setCell ⟨gb437, 0, none⟩ (.int .i64 0)).setCell ⟨gb437, 1, none⟩ (.int .i64 4294967295)).setCell ⟨gb437, 2, none⟩ (.int .i64 0)).setCell ⟨gb437, 3, none⟩ (.int .i64 0)).setCell ⟨gb437, 2, none⟩ (.int .i64 (Go.bits .or .i64 a1_2 a2_2))).heap[gb437]? = some (.cells #[.int .i64 0, .int .i64 4294967295, .int .i64 (Go.bits .or .i64 a1_2 a2_2), .int .i64 0] 24 (0, 0))) := ⟨by refine bq ?_; refine blk_put (cs := #[.int .i64 0, .int .i64 4294967295, .int .i64 0, .int .i64 0]) ?_ 2 _ rfl; refine bq ?_; refine blk_put (cs := #[.int .i64 0, .int .i64 4294967295, .int .i64 0, .int .i64 0]) ?_ 3 _ rfl; refine bq ?_; refine blk_put (cs := #[.int .i64 0, .int .i64 4294967295, .int .i64 0, .int .i64 0]) ?_ 2 _ rfl; refine bq ?_; refine blk_put (cs := #[.int .i64 0, .int .i64 0, .int .i64 0, .int .i64 0]) ?_ 1 _ rfl; refine bq ?_; refine blk_put (cs := #[.int .i64 0, .int .i64 0, .int .i64 0, .int .i64 0]) ?_ 0 _ rfl; exact bq BK437.out⟩
     have n4_ : Aside0 (Below w.heap.size w (((((w8.setCell ⟨gb437, 0, none⟩ (.int .i64 0)).setCell ⟨gb437, 1, none⟩ (.int .i64 4294967295)).setCell ⟨gb437, 2, none⟩ (.int .i64 0)).setCell ⟨gb437, 3, none⟩ (.int .i64 0)).setCell ⟨gb437, 2, none⟩ (.int .i64 (Go.bits .or .i64 a1_2 a2_2)))) := ⟨zB⟩
     (try clear BK434)
     (try clear BK435)
     (try clear BK436)
     (try clear BK437)
     (try clear HB)
     generalize (((((w8.setCell ⟨gb437, 0, none⟩ (.int .i64 0)).setCell ⟨gb437, 1, none⟩ (.int .i64 4294967295)).setCell ⟨gb437, 2, none⟩ (.int .i64 0)).setCell ⟨gb437, 3, none⟩ (.int .i64 0)).setCell ⟨gb437, 2, none⟩ (.int .i64 (Go.bits .or .i64 a1_2 a2_2))) = w56 at n0_ n1_ n2_ n3_ n4_ ⊢
     have BK434 := n0_
     have BK435 := n1_
     have BK436 := n2_
     have BK437 := n3_
     have HB := n4_
     clear n0_ n1_ n2_ n3_ n4_
     replace BK434 := Aside0.mk (blk_drew BK434.out)
     replace BK435 := Aside0.mk (blk_drew BK435.out)
     replace BK436 := Aside0.mk (blk_drew BK436.out)
     replace BK437 := Aside0.mk (blk_drew BK437.out)
     replace HB := Aside0.mk (below_drew1 HB.out)
     refine start_ (n := 12) (S := fun w' => w'.cell? ⟨gb434, 0, none⟩ = some (.int .i64 a1_0) ∧ w'.cell? ⟨gb434, 1, none⟩ = some (.int .i64 a1_1) ∧ w'.cell? ⟨gb434, 2, none⟩ = some (.int .i64 a1_2) ∧ w'.cell? ⟨gb434, 3, none⟩ = some (.int .i64 a1_3) ∧ w'.cell? ⟨gb435, 0, none⟩ = some (.int .i64 a2_0) ∧ w'.cell? ⟨gb435, 1, none⟩ = some (.int .i64 a2_1) ∧ w'.cell? ⟨gb435, 2, none⟩ = some (.int .i64 a2_2) ∧ w'.cell? ⟨gb435, 3, none⟩ = some (.int .i64 a2_3) ∧ w'.cell? ⟨gb437, 2, none⟩ = some (.int .i64 (Go.bits .or .i64 a1_2 a2_2))) (ds := []) #[false, false, false, false, false, false, false, false, false, false, false, false] (by kernel_rfl) rfl rfl ⟨(blk_cell BK434.out 0).trans rfl, (blk_cell BK434.out 1).trans rfl, (blk_cell BK434.out 2).trans rfl, (blk_cell BK434.out 3).trans rfl, (blk_cell BK435.out 0).trans rfl, (blk_cell BK435.out 1).trans rfl, (blk_cell BK435.out 2).trans rfl, (blk_cell BK435.out 3).trans rfl, (blk_cell BK437.out 2).trans rfl⟩ (fun hHeld => ?_); refine with_tabW spec_l2Bitwise.tab13 spec_l2Bitwise.bits13 (fun HT_ HW_ => ?_)
     generalize w56.drew = w57 at BK434 BK435 BK436 BK437 HB hHeld ⊢
     refine pz 0 72 ?_
     refine pz 2 74 ?_
     refine pz 6 78 ?_
     refine tz 1 73 ?_
     refine tz 3 75 ?_
     refine pz 4 76 ?_
     refine tz 7 79 ?_
     refine oz 5 77 fun K hK => ?_
     refine gz Try.func39 #[] ?_
     with_reducible refine (spec_l2Top.calls  4294967295 _ AC_spec_l2Top.out).mono ?_
     rintro e w' ⟨rfl, ⟨nd, rfl⟩⟩
     refine ⟨_, rfl, ?_⟩
     refine hK.out _ _ ⟨(blk_cell BK434.out 0).trans rfl, (blk_cell BK434.out 1).trans rfl, (blk_cell BK434.out 2).trans rfl, (blk_cell BK434.out 3).trans rfl, (blk_cell BK435.out 0).trans rfl, (blk_cell BK435.out 1).trans rfl, (blk_cell BK435.out 2).trans rfl, (blk_cell BK435.out 3).trans rfl, (blk_cell BK437.out 2).trans rfl⟩ (fun hHeld => ?_)
     clear hK K
     refine nz ?_
     refine pz 8 80 ?_
     refine pz 9 81 ?_
     refine pz 10 82 ?_
     refine oN 11 fun K hK => ?_
     have hs58 : w57.cell? ⟨gb437, 3, none⟩ = some (.int .i64 0) := (blk_cell BK437.out 3).trans rfl
     have hfs58 := blk_frozen BK437.out 3
     have hns58_0 := NB434_437.out
     have hns58_1 := NB435_437.out
     have hns58_2 := NB436_437.out
     have hms58_0 := NB437_434.out
     have hms58_1 := NB437_435.out
     have hms58_2 := NB437_436.out
     refine skip_ (w1 := ?_) (by rfl) rfl ?_ ?_
     rotate_left
     ·go_simp
      rfl
     refine hK.out _ _ ⟨((cell_far (p := ⟨gb437, _, none⟩) NB434_437.out _).trans (hHeld.1)), ((cell_far (p := ⟨gb437, _, none⟩) NB434_437.out _).trans (hHeld.2.1)), ((cell_far (p := ⟨gb437, _, none⟩) NB434_437.out _).trans (hHeld.2.2.1)), ((cell_far (p := ⟨gb437, _, none⟩) NB434_437.out _).trans (hHeld.2.2.2.1)), ((cell_far (p := ⟨gb437, _, none⟩) NB435_437.out _).trans (hHeld.2.2.2.2.1)), ((cell_far (p := ⟨gb437, _, none⟩) NB435_437.out _).trans (hHeld.2.2.2.2.2.1)), ((cell_far (p := ⟨gb437, _, none⟩) NB435_437.out _).trans (hHeld.2.2.2.2.2.2.1)), ((cell_far (p := ⟨gb437, _, none⟩) NB435_437.out _).trans (hHeld.2.2.2.2.2.2.2.1)), ((World.cell?_setCell_other _ _ _ _ (by simp)).trans (hHeld.2.2.2.2.2.2.2.2))⟩ (fun hHeld => ?_)
     clear hK K
     refine done_ (done_of HT_.out (by kernel_rfl)) ?_
     obtain ⟨hcz59_0, hcz59_1, hcz59_2, hcz59_3, hfz59_0, hfz59_1, hfz59_2, hfz59_3⟩ := zc4 BK434
     obtain ⟨hcz60_0, hcz60_1, hcz60_2, hcz60_3, hfz60_0, hfz60_1, hfz60_2, hfz60_3⟩ := zc4 BK437
     obtain ⟨hcz61_0, hcz61_1, hcz61_2, hcz61_3, hfz61_0, hfz61_1, hfz61_2, hfz61_3⟩ := zc4 BK435
     try go_wp2
     go_meet
     case rel => exact ⟨_, (a2_0), (4294967295), (Go.bits .or .i64 a1_2 a2_2), (Go.bits .and .i64 (Go.bits .or .i64 a1_3 a2_3) (Go.bits .xor .i64 4294967295 (Go.bits .or .i64 a1_2 a2_2))), H', ⟨by first | omega | exact Nat.le_refl _⟩, ⟨by refine fq ?_ NB434_437.out; refine fq ?_ NB434_437.out; refine fq ?_ NB434_437.out; exact bq BK434.out⟩, ⟨by refine fq ?_ NB435_437.out; refine fq ?_ NB435_437.out; refine fq ?_ NB435_437.out; exact bq BK435.out⟩, ⟨by refine fq ?_ NB436_437.out; refine fq ?_ NB436_437.out; refine fq ?_ NB436_437.out; exact bq BK436.out⟩, ⟨by refine bq ?_; refine blk_put (cs := #[.int .i64 a1_0, .int .i64 4294967295, .int .i64 (Go.bits .or .i64 a1_2 a2_2), .int .i64 (Go.bits .and .i64 (Go.bits .or .i64 a1_3 a2_3) (Go.bits .xor .i64 4294967295 (Go.bits .or .i64 a1_2 a2_2)))]) ?_ 0 _ rfl; refine bq ?_; refine blk_put (cs := #[.int .i64 0, .int .i64 4294967295, .int .i64 (Go.bits .or .i64 a1_2 a2_2), .int .i64 (Go.bits .and .i64 (Go.bits .or .i64 a1_3 a2_3) (Go.bits .xor .i64 4294967295 (Go.bits .or .i64 a1_2 a2_2)))]) ?_ 0 _ rfl; refine bq ?_; refine blk_put (cs := #[.int .i64 0, .int .i64 4294967295, .int .i64 (Go.bits .or .i64 a1_2 a2_2), .int .i64 0]) ?_ 3 _ rfl; exact bq BK437.out⟩, ⟨zB⟩⟩
    ·rw [if_neg c46] at H
     have c46b0 : decide (a1_0 < a2_0) = false := decide_eq_false c46
     clear c46
     have H' := Aside0.mk H
     clear H
     have hnb62 := NB434_435.out
     have hnc62 := NB435_434.out
     have hnb63 := NB434_436.out
     have hnc63 := NB436_434.out
     have hnb64 := NB434_437.out
     have hnc64 := NB437_434.out
     obtain ⟨hcz65_0, hcz65_1, hcz65_2, hcz65_3, hfz65_0, hfz65_1, hfz65_2, hfz65_3⟩ := zc4 BK434
     have hnb66 := NB435_436.out
     have hnc66 := NB436_435.out
     have hnb67 := NB435_437.out
     have hnc67 := NB437_435.out
     obtain ⟨hcz68_0, hcz68_1, hcz68_2, hcz68_3, hfz68_0, hfz68_1, hfz68_2, hfz68_3⟩ := zc4 BK435
     have hnb69 := NB437_436.out
     have hnc69 := NB436_437.out
     obtain ⟨hcz70_0, hcz70_1, hcz70_2, hcz70_3, hfz70_0, hfz70_1, hfz70_2, hfz70_3⟩ := zc4 BK437
     try go_wp2
     have n0_ : Aside0 ((((((w8.setCell ⟨gb437, 0, none⟩ (.int .i64 0)).setCell ⟨gb437, 1, none⟩ (.int .i64 4294967295)).setCell ⟨gb437, 2, none⟩ (.int .i64 0)).setCell ⟨gb437, 3, none⟩ (.int .i64 0)).setCell ⟨gb437, 2, none⟩ (.int .i64 (Go.bits .or .i64 a1_2 a2_2))).heap[gb434]? = some (.cells #[.int .i64 a1_0, .int .i64 a1_1, .int .i64 a1_2, .int .i64 a1_3] 24 (0, 0))) := ⟨by refine fq ?_ NB434_437.out; refine fq ?_ NB434_437.out; refine fq ?_ NB434_437.out; refine fq ?_ NB434_437.out; refine fq ?_ NB434_437.out; exact bq BK434.out⟩
     have n1_ : Aside0 ((((((w8.setCell ⟨gb437, 0, none⟩ (.int .i64 0)).setCell ⟨gb437, 1, none⟩ (.int .i64 4294967295)).setCell ⟨gb437, 2, none⟩ (.int .i64 0)).setCell ⟨gb437, 3, none⟩ (.int .i64 0)).setCell ⟨gb437, 2, none⟩ (.int .i64 (Go.bits .or .i64 a1_2 a2_2))).heap[gb435]? = some (.cells #[.int .i64 a2_0, .int .i64 a2_1, .int .i64 a2_2, .int .i64 a2_3] 24 (0, 0))) := ⟨by refine fq ?_ NB435_437.out; refine fq ?_ NB435_437.out; refine fq ?_ NB435_437.out; refine fq ?_ NB435_437.out; refine fq ?_ NB435_437.out; exact bq BK435.out⟩
     have n2_ : Aside0 ((((((w8.setCell ⟨gb437, 0, none⟩ (.int .i64 0)).setCell ⟨gb437, 1, none⟩ (.int .i64 4294967295)).setCell ⟨gb437, 2, none⟩ (.int .i64 0)).setCell ⟨gb437, 3, none⟩ (.int .i64 0)).setCell ⟨gb437, 2, none⟩ (.int .i64 (Go.bits .or .i64 a1_2 a2_2))).heap[gb436]? = some (.cells #[.int .i64 0, .int .i64 0, .int .i64 0, .int .i64 0] 24 (0, 0))) := ⟨by refine fq ?_ NB436_437.out; refine fq ?_ NB436_437.out; refine fq ?_ NB436_437.out; refine fq ?_ NB436_437.out; refine fq ?_ NB436_437.out; exact bq BK436.out⟩
     have n3_ : Aside0 ((((((w8.setCell ⟨gb437, 0, none⟩ (.int .i64 0)).setCell ⟨gb437, 1, none⟩ (.int .i64 4294967295)).setCell ⟨gb437, 2, none⟩ (.int .i64 0)).setCell ⟨gb437, 3, none⟩ (.int .i64 0)).setCell ⟨gb437, 2, none⟩ (.int .i64 (Go.bits .or .i64 a1_2 a2_2))).heap[gb437]? = some (.cells #[.int .i64 0, .int .i64 4294967295, .int .i64 (Go.bits .or .i64 a1_2 a2_2), .int .i64 0] 24 (0, 0))) := ⟨by refine bq ?_; refine blk_put (cs := #[.int .i64 0, .int .i64 4294967295, .int .i64 0, .int .i64 0]) ?_ 2 _ rfl; refine bq ?_; refine blk_put (cs := #[.int .i64 0, .int .i64 4294967295, .int .i64 0, .int .i64 0]) ?_ 3 _ rfl; refine bq ?_; refine blk_put (cs := #[.int .i64 0, .int .i64 4294967295, .int .i64 0, .int .i64 0]) ?_ 2 _ rfl; refine bq ?_; refine blk_put (cs := #[.int .i64 0, .int .i64 0, .int .i64 0, .int .i64 0]) ?_ 1 _ rfl; refine bq ?_; refine blk_put (cs := #[.int .i64 0, .int .i64 0, .int .i64 0, .int .i64 0]) ?_ 0 _ rfl; exact bq BK437.out⟩
     have n4_ : Aside0 (Below w.heap.size w (((((w8.setCell ⟨gb437, 0, none⟩ (.int .i64 0)).setCell ⟨gb437, 1, none⟩ (.int .i64 4294967295)).setCell ⟨gb437, 2, none⟩ (.int .i64 0)).setCell ⟨gb437, 3, none⟩ (.int .i64 0)).setCell ⟨gb437, 2, none⟩ (.int .i64 (Go.bits .or .i64 a1_2 a2_2)))) := ⟨zB⟩
     (try clear BK434)
     (try clear BK435)
     (try clear BK436)
     (try clear BK437)
     (try clear HB)
     generalize (((((w8.setCell ⟨gb437, 0, none⟩ (.int .i64 0)).setCell ⟨gb437, 1, none⟩ (.int .i64 4294967295)).setCell ⟨gb437, 2, none⟩ (.int .i64 0)).setCell ⟨gb437, 3, none⟩ (.int .i64 0)).setCell ⟨gb437, 2, none⟩ (.int .i64 (Go.bits .or .i64 a1_2 a2_2))) = w71 at n0_ n1_ n2_ n3_ n4_ ⊢
     have BK434 := n0_
     have BK435 := n1_
     have BK436 := n2_
     have BK437 := n3_
     have HB := n4_
     clear n0_ n1_ n2_ n3_ n4_
     replace BK434 := Aside0.mk (blk_drew BK434.out)
     replace BK435 := Aside0.mk (blk_drew BK435.out)
     replace BK436 := Aside0.mk (blk_drew BK436.out)
     replace BK437 := Aside0.mk (blk_drew BK437.out)
     replace HB := Aside0.mk (below_drew1 HB.out)
     refine start_ (n := 12) (S := fun w' => w'.cell? ⟨gb434, 0, none⟩ = some (.int .i64 a1_0) ∧ w'.cell? ⟨gb434, 1, none⟩ = some (.int .i64 a1_1) ∧ w'.cell? ⟨gb434, 2, none⟩ = some (.int .i64 a1_2) ∧ w'.cell? ⟨gb434, 3, none⟩ = some (.int .i64 a1_3) ∧ w'.cell? ⟨gb435, 0, none⟩ = some (.int .i64 a2_0) ∧ w'.cell? ⟨gb435, 1, none⟩ = some (.int .i64 a2_1) ∧ w'.cell? ⟨gb435, 2, none⟩ = some (.int .i64 a2_2) ∧ w'.cell? ⟨gb435, 3, none⟩ = some (.int .i64 a2_3) ∧ w'.cell? ⟨gb437, 2, none⟩ = some (.int .i64 (Go.bits .or .i64 a1_2 a2_2))) (ds := []) #[false, false, false, false, false, false, false, false, false, false, false, false] (by kernel_rfl) rfl rfl ⟨(blk_cell BK434.out 0).trans rfl, (blk_cell BK434.out 1).trans rfl, (blk_cell BK434.out 2).trans rfl, (blk_cell BK434.out 3).trans rfl, (blk_cell BK435.out 0).trans rfl, (blk_cell BK435.out 1).trans rfl, (blk_cell BK435.out 2).trans rfl, (blk_cell BK435.out 3).trans rfl, (blk_cell BK437.out 2).trans rfl⟩ (fun hHeld => ?_); refine with_tabW spec_l2Bitwise.tab13 spec_l2Bitwise.bits13 (fun HT_ HW_ => ?_)
     generalize w71.drew = w72 at BK434 BK435 BK436 BK437 HB hHeld ⊢
     refine pz 0 72 ?_
     refine pz 2 74 ?_
     refine pz 6 78 ?_
     refine tz 1 73 ?_
     refine tz 3 75 ?_
     refine pz 4 76 ?_
     refine tz 7 79 ?_
     refine oz 5 77 fun K hK => ?_
     refine gz Try.func39 #[] ?_
     with_reducible refine (spec_l2Top.calls  4294967295 _ AC_spec_l2Top.out).mono ?_
     rintro e w' ⟨rfl, ⟨nd, rfl⟩⟩
     refine ⟨_, rfl, ?_⟩
     refine hK.out _ _ ⟨(blk_cell BK434.out 0).trans rfl, (blk_cell BK434.out 1).trans rfl, (blk_cell BK434.out 2).trans rfl, (blk_cell BK434.out 3).trans rfl, (blk_cell BK435.out 0).trans rfl, (blk_cell BK435.out 1).trans rfl, (blk_cell BK435.out 2).trans rfl, (blk_cell BK435.out 3).trans rfl, (blk_cell BK437.out 2).trans rfl⟩ (fun hHeld => ?_)
     clear hK K
     refine nz ?_
     refine pz 8 80 ?_
     refine pz 9 81 ?_
     refine pz 10 82 ?_
     refine oN 11 fun K hK => ?_
     have hs73 : w72.cell? ⟨gb437, 3, none⟩ = some (.int .i64 0) := (blk_cell BK437.out 3).trans rfl
     have hfs73 := blk_frozen BK437.out 3
     have hns73_0 := NB434_437.out
     have hns73_1 := NB435_437.out
     have hns73_2 := NB436_437.out
     have hms73_0 := NB437_434.out
     have hms73_1 := NB437_435.out
     have hms73_2 := NB437_436.out
     refine skip_ (w1 := ?_) (by rfl) rfl ?_ ?_
     rotate_left
     ·go_simp
      rfl
     refine hK.out _ _ ⟨((cell_far (p := ⟨gb437, _, none⟩) NB434_437.out _).trans (hHeld.1)), ((cell_far (p := ⟨gb437, _, none⟩) NB434_437.out _).trans (hHeld.2.1)), ((cell_far (p := ⟨gb437, _, none⟩) NB434_437.out _).trans (hHeld.2.2.1)), ((cell_far (p := ⟨gb437, _, none⟩) NB434_437.out _).trans (hHeld.2.2.2.1)), ((cell_far (p := ⟨gb437, _, none⟩) NB435_437.out _).trans (hHeld.2.2.2.2.1)), ((cell_far (p := ⟨gb437, _, none⟩) NB435_437.out _).trans (hHeld.2.2.2.2.2.1)), ((cell_far (p := ⟨gb437, _, none⟩) NB435_437.out _).trans (hHeld.2.2.2.2.2.2.1)), ((cell_far (p := ⟨gb437, _, none⟩) NB435_437.out _).trans (hHeld.2.2.2.2.2.2.2.1)), ((World.cell?_setCell_other _ _ _ _ (by simp)).trans (hHeld.2.2.2.2.2.2.2.2))⟩ (fun hHeld => ?_)
     clear hK K
     refine done_ (done_of HT_.out (by kernel_rfl)) ?_
     obtain ⟨hcz74_0, hcz74_1, hcz74_2, hcz74_3, hfz74_0, hfz74_1, hfz74_2, hfz74_3⟩ := zc4 BK434
     obtain ⟨hcz75_0, hcz75_1, hcz75_2, hcz75_3, hfz75_0, hfz75_1, hfz75_2, hfz75_3⟩ := zc4 BK437
     obtain ⟨hcz76_0, hcz76_1, hcz76_2, hcz76_3, hfz76_0, hfz76_1, hfz76_2, hfz76_3⟩ := zc4 BK435
     try go_wp2
     go_meet
     case rel => exact ⟨_, (a1_0), (4294967295), (Go.bits .or .i64 a1_2 a2_2), (Go.bits .and .i64 (Go.bits .or .i64 a1_3 a2_3) (Go.bits .xor .i64 4294967295 (Go.bits .or .i64 a1_2 a2_2))), H', ⟨by first | omega | exact Nat.le_refl _⟩, ⟨by refine fq ?_ NB434_437.out; refine fq ?_ NB434_437.out; exact bq BK434.out⟩, ⟨by refine fq ?_ NB435_437.out; refine fq ?_ NB435_437.out; exact bq BK435.out⟩, ⟨by refine fq ?_ NB436_437.out; refine fq ?_ NB436_437.out; exact bq BK436.out⟩, ⟨by refine bq ?_; refine blk_put (cs := #[.int .i64 0, .int .i64 4294967295, .int .i64 (Go.bits .or .i64 a1_2 a2_2), .int .i64 (Go.bits .and .i64 (Go.bits .or .i64 a1_3 a2_3) (Go.bits .xor .i64 4294967295 (Go.bits .or .i64 a1_2 a2_2)))]) ?_ 0 _ rfl; refine bq ?_; refine blk_put (cs := #[.int .i64 0, .int .i64 4294967295, .int .i64 (Go.bits .or .i64 a1_2 a2_2), .int .i64 0]) ?_ 3 _ rfl; exact bq BK437.out⟩, ⟨zB⟩⟩
   ·rw [if_neg c45] at H
    have c45b0 : (a0 == 6) = false := beq_eq_false_iff_ne.mpr c45
    have c45b1 : (a0 != 6) = true := bne_iff_ne.mpr c45
    have AC_spec_l2Top := Aside0.mk (show spec_l2Top.f = some 4294967295 from rfl)
    have H' := Aside0.mk H
    clear H
    have hnb77 := NB434_435.out
    have hnc77 := NB435_434.out
    have hnb78 := NB434_436.out
    have hnc78 := NB436_434.out
    have hnb79 := NB434_437.out
    have hnc79 := NB437_434.out
    obtain ⟨hcz80_0, hcz80_1, hcz80_2, hcz80_3, hfz80_0, hfz80_1, hfz80_2, hfz80_3⟩ := zc4 BK434
    have hnb81 := NB435_436.out
    have hnc81 := NB436_435.out
    have hnb82 := NB435_437.out
    have hnc82 := NB437_435.out
    obtain ⟨hcz83_0, hcz83_1, hcz83_2, hcz83_3, hfz83_0, hfz83_1, hfz83_2, hfz83_3⟩ := zc4 BK435
    have hnb84 := NB437_436.out
    have hnc84 := NB436_437.out
    obtain ⟨hcz85_0, hcz85_1, hcz85_2, hcz85_3, hfz85_0, hfz85_1, hfz85_2, hfz85_3⟩ := zc4 BK437
    try go_wp2
    have n0_ : Aside0 ((((((w8.setCell ⟨gb437, 0, none⟩ (.int .i64 0)).setCell ⟨gb437, 1, none⟩ (.int .i64 4294967295)).setCell ⟨gb437, 2, none⟩ (.int .i64 0)).setCell ⟨gb437, 3, none⟩ (.int .i64 0)).setCell ⟨gb437, 3, none⟩ (.int .i64 (Go.bits .or .i64 a1_3 a2_3))).heap[gb434]? = some (.cells #[.int .i64 a1_0, .int .i64 a1_1, .int .i64 a1_2, .int .i64 a1_3] 24 (0, 0))) := ⟨by refine fq ?_ NB434_437.out; refine fq ?_ NB434_437.out; refine fq ?_ NB434_437.out; refine fq ?_ NB434_437.out; refine fq ?_ NB434_437.out; exact bq BK434.out⟩
    have n1_ : Aside0 ((((((w8.setCell ⟨gb437, 0, none⟩ (.int .i64 0)).setCell ⟨gb437, 1, none⟩ (.int .i64 4294967295)).setCell ⟨gb437, 2, none⟩ (.int .i64 0)).setCell ⟨gb437, 3, none⟩ (.int .i64 0)).setCell ⟨gb437, 3, none⟩ (.int .i64 (Go.bits .or .i64 a1_3 a2_3))).heap[gb435]? = some (.cells #[.int .i64 a2_0, .int .i64 a2_1, .int .i64 a2_2, .int .i64 a2_3] 24 (0, 0))) := ⟨by refine fq ?_ NB435_437.out; refine fq ?_ NB435_437.out; refine fq ?_ NB435_437.out; refine fq ?_ NB435_437.out; refine fq ?_ NB435_437.out; exact bq BK435.out⟩
    have n2_ : Aside0 ((((((w8.setCell ⟨gb437, 0, none⟩ (.int .i64 0)).setCell ⟨gb437, 1, none⟩ (.int .i64 4294967295)).setCell ⟨gb437, 2, none⟩ (.int .i64 0)).setCell ⟨gb437, 3, none⟩ (.int .i64 0)).setCell ⟨gb437, 3, none⟩ (.int .i64 (Go.bits .or .i64 a1_3 a2_3))).heap[gb436]? = some (.cells #[.int .i64 0, .int .i64 0, .int .i64 0, .int .i64 0] 24 (0, 0))) := ⟨by refine fq ?_ NB436_437.out; refine fq ?_ NB436_437.out; refine fq ?_ NB436_437.out; refine fq ?_ NB436_437.out; refine fq ?_ NB436_437.out; exact bq BK436.out⟩
    have n3_ : Aside0 ((((((w8.setCell ⟨gb437, 0, none⟩ (.int .i64 0)).setCell ⟨gb437, 1, none⟩ (.int .i64 4294967295)).setCell ⟨gb437, 2, none⟩ (.int .i64 0)).setCell ⟨gb437, 3, none⟩ (.int .i64 0)).setCell ⟨gb437, 3, none⟩ (.int .i64 (Go.bits .or .i64 a1_3 a2_3))).heap[gb437]? = some (.cells #[.int .i64 0, .int .i64 4294967295, .int .i64 0, .int .i64 (Go.bits .or .i64 a1_3 a2_3)] 24 (0, 0))) := ⟨by refine bq ?_; refine blk_put (cs := #[.int .i64 0, .int .i64 4294967295, .int .i64 0, .int .i64 0]) ?_ 3 _ rfl; refine bq ?_; refine blk_put (cs := #[.int .i64 0, .int .i64 4294967295, .int .i64 0, .int .i64 0]) ?_ 3 _ rfl; refine bq ?_; refine blk_put (cs := #[.int .i64 0, .int .i64 4294967295, .int .i64 0, .int .i64 0]) ?_ 2 _ rfl; refine bq ?_; refine blk_put (cs := #[.int .i64 0, .int .i64 0, .int .i64 0, .int .i64 0]) ?_ 1 _ rfl; refine bq ?_; refine blk_put (cs := #[.int .i64 0, .int .i64 0, .int .i64 0, .int .i64 0]) ?_ 0 _ rfl; exact bq BK437.out⟩
    have n4_ : Aside0 (Below w.heap.size w (((((w8.setCell ⟨gb437, 0, none⟩ (.int .i64 0)).setCell ⟨gb437, 1, none⟩ (.int .i64 4294967295)).setCell ⟨gb437, 2, none⟩ (.int .i64 0)).setCell ⟨gb437, 3, none⟩ (.int .i64 0)).setCell ⟨gb437, 3, none⟩ (.int .i64 (Go.bits .or .i64 a1_3 a2_3)))) := ⟨zB⟩
    (try clear BK434)
    (try clear BK435)
    (try clear BK436)
    (try clear BK437)
    (try clear HB)
    generalize (((((w8.setCell ⟨gb437, 0, none⟩ (.int .i64 0)).setCell ⟨gb437, 1, none⟩ (.int .i64 4294967295)).setCell ⟨gb437, 2, none⟩ (.int .i64 0)).setCell ⟨gb437, 3, none⟩ (.int .i64 0)).setCell ⟨gb437, 3, none⟩ (.int .i64 (Go.bits .or .i64 a1_3 a2_3))) = w86 at n0_ n1_ n2_ n3_ n4_ ⊢
    have BK434 := n0_
    have BK435 := n1_
    have BK436 := n2_
    have BK437 := n3_
    have HB := n4_
    clear n0_ n1_ n2_ n3_ n4_
    replace BK434 := Aside0.mk (blk_drew BK434.out)
    replace BK435 := Aside0.mk (blk_drew BK435.out)
    replace BK436 := Aside0.mk (blk_drew BK436.out)
    replace BK437 := Aside0.mk (blk_drew BK437.out)
    replace HB := Aside0.mk (below_drew1 HB.out)
    refine start_ (n := 12) (S := fun w' => w'.cell? ⟨gb434, 0, none⟩ = some (.int .i64 a1_0) ∧ w'.cell? ⟨gb434, 1, none⟩ = some (.int .i64 a1_1) ∧ w'.cell? ⟨gb434, 2, none⟩ = some (.int .i64 a1_2) ∧ w'.cell? ⟨gb434, 3, none⟩ = some (.int .i64 a1_3) ∧ w'.cell? ⟨gb435, 0, none⟩ = some (.int .i64 a2_0) ∧ w'.cell? ⟨gb435, 1, none⟩ = some (.int .i64 a2_1) ∧ w'.cell? ⟨gb435, 2, none⟩ = some (.int .i64 a2_2) ∧ w'.cell? ⟨gb435, 3, none⟩ = some (.int .i64 a2_3) ∧ w'.cell? ⟨gb437, 3, none⟩ = some (.int .i64 (Go.bits .or .i64 a1_3 a2_3))) (ds := []) #[false, false, false, false, false, false, false, false, false, false, false, false] (by kernel_rfl) rfl rfl ⟨(blk_cell BK434.out 0).trans rfl, (blk_cell BK434.out 1).trans rfl, (blk_cell BK434.out 2).trans rfl, (blk_cell BK434.out 3).trans rfl, (blk_cell BK435.out 0).trans rfl, (blk_cell BK435.out 1).trans rfl, (blk_cell BK435.out 2).trans rfl, (blk_cell BK435.out 3).trans rfl, (blk_cell BK437.out 3).trans rfl⟩ (fun hHeld => ?_); refine with_tabW spec_l2Bitwise.tab4 spec_l2Bitwise.bits4 (fun HT_ HW_ => ?_)
    generalize w86.drew = w87 at BK434 BK435 BK436 BK437 HB hHeld ⊢
    refine pz 0 17 ?_
    refine pz 2 19 ?_
    refine pz 6 23 ?_
    refine tz 1 18 ?_
    refine tz 3 20 ?_
    refine pz 4 21 ?_
    refine tz 7 24 ?_
    refine oz 5 22 fun K hK => ?_
    refine gz Try.func39 #[] ?_
    with_reducible refine (spec_l2Top.calls  4294967295 _ AC_spec_l2Top.out).mono ?_
    rintro e w' ⟨rfl, ⟨nd, rfl⟩⟩
    refine ⟨_, rfl, ?_⟩
    refine hK.out _ _ ⟨(blk_cell BK434.out 0).trans rfl, (blk_cell BK434.out 1).trans rfl, (blk_cell BK434.out 2).trans rfl, (blk_cell BK434.out 3).trans rfl, (blk_cell BK435.out 0).trans rfl, (blk_cell BK435.out 1).trans rfl, (blk_cell BK435.out 2).trans rfl, (blk_cell BK435.out 3).trans rfl, (blk_cell BK437.out 3).trans rfl⟩ (fun hHeld => ?_)
    clear hK K
    refine nz ?_
    refine pz 8 25 ?_
    refine pz 9 26 ?_
    refine pz 10 27 ?_
    refine oN 11 fun K hK => ?_
    have hs88 : w87.cell? ⟨gb437, 2, none⟩ = some (.int .i64 0) := (blk_cell BK437.out 2).trans rfl
    have hfs88 := blk_frozen BK437.out 2
    have hns88_0 := NB434_437.out
    have hns88_1 := NB435_437.out
    have hns88_2 := NB436_437.out
    have hms88_0 := NB437_434.out
    have hms88_1 := NB437_435.out
    have hms88_2 := NB437_436.out
    refine skip_ (w1 := ?_) (by rfl) rfl ?_ ?_
    rotate_left
    ·go_simp
     rfl
    refine hK.out _ _ ⟨((cell_far (p := ⟨gb437, _, none⟩) NB434_437.out _).trans (hHeld.1)), ((cell_far (p := ⟨gb437, _, none⟩) NB434_437.out _).trans (hHeld.2.1)), ((cell_far (p := ⟨gb437, _, none⟩) NB434_437.out _).trans (hHeld.2.2.1)), ((cell_far (p := ⟨gb437, _, none⟩) NB434_437.out _).trans (hHeld.2.2.2.1)), ((cell_far (p := ⟨gb437, _, none⟩) NB435_437.out _).trans (hHeld.2.2.2.2.1)), ((cell_far (p := ⟨gb437, _, none⟩) NB435_437.out _).trans (hHeld.2.2.2.2.2.1)), ((cell_far (p := ⟨gb437, _, none⟩) NB435_437.out _).trans (hHeld.2.2.2.2.2.2.1)), ((cell_far (p := ⟨gb437, _, none⟩) NB435_437.out _).trans (hHeld.2.2.2.2.2.2.2.1)), ((World.cell?_setCell_other _ _ _ _ (by simp)).trans (hHeld.2.2.2.2.2.2.2.2))⟩ (fun hHeld => ?_)
    clear hK K
    refine done_ (done_of HT_.out (by kernel_rfl)) ?_
    try go_wp2
    go_meet
    case rel => exact ⟨_, (0), (4294967295), (Go.bits .and .i64 (Go.bits .xor .i64 a1_2 a2_2) (Go.bits .xor .i64 4294967295 (Go.bits .or .i64 a1_3 a2_3))), (Go.bits .or .i64 a1_3 a2_3), H', ⟨by first | omega | exact Nat.le_refl _⟩, ⟨by refine fq ?_ NB434_437.out; exact bq BK434.out⟩, ⟨by refine fq ?_ NB435_437.out; exact bq BK435.out⟩, ⟨by refine fq ?_ NB436_437.out; exact bq BK436.out⟩, ⟨by refine bq ?_; refine blk_put (cs := #[.int .i64 0, .int .i64 4294967295, .int .i64 0, .int .i64 (Go.bits .or .i64 a1_3 a2_3)]) ?_ 2 _ rfl; exact bq BK437.out⟩, ⟨zB⟩⟩
 case rest =>
  clear HC4
  try clear p2
  try clear c3
  try clear c4
  try clear c5
  try clear c6
  try clear c7
  try clear c8
  try clear c39
  try clear c45
  try clear c45b0
  try clear c45b1
  try clear c46
  try clear c46b0
  try clear c51
  try clear c52
  try clear c54
  try clear c62
  try clear c63
  try clear c64
  try clear c66
  try clear c67
  try clear c69
  try clear c77
  try clear c78
  try clear c79
  try clear c81
  try clear c82
  try clear c84
  try clear hcz53_0 hcz53_1 hcz53_2 hcz53_3 hfz53_0 hfz53_1 hfz53_2 hfz53_3
  try clear hcz55_0 hcz55_1 hcz55_2 hcz55_3 hfz55_0 hfz55_1 hfz55_2 hfz55_3
  try clear hcz59_0 hcz59_1 hcz59_2 hcz59_3 hfz59_0 hfz59_1 hfz59_2 hfz59_3
  try clear hcz60_0 hcz60_1 hcz60_2 hcz60_3 hfz60_0 hfz60_1 hfz60_2 hfz60_3
  try clear hcz61_0 hcz61_1 hcz61_2 hcz61_3 hfz61_0 hfz61_1 hfz61_2 hfz61_3
  try clear hcz65_0 hcz65_1 hcz65_2 hcz65_3 hfz65_0 hfz65_1 hfz65_2 hfz65_3
  try clear hcz68_0 hcz68_1 hcz68_2 hcz68_3 hfz68_0 hfz68_1 hfz68_2 hfz68_3
  try clear hcz70_0 hcz70_1 hcz70_2 hcz70_3 hfz70_0 hfz70_1 hfz70_2 hfz70_3
  try clear hcz74_0 hcz74_1 hcz74_2 hcz74_3 hfz74_0 hfz74_1 hfz74_2 hfz74_3
  try clear hcz75_0 hcz75_1 hcz75_2 hcz75_3 hfz75_0 hfz75_1 hfz75_2 hfz75_3
  try clear hcz76_0 hcz76_1 hcz76_2 hcz76_3 hfz76_0 hfz76_1 hfz76_2 hfz76_3
  try clear hcz80_0 hcz80_1 hcz80_2 hcz80_3 hfz80_0 hfz80_1 hfz80_2 hfz80_3
  try clear hcz83_0 hcz83_1 hcz83_2 hcz83_3 hfz83_0 hfz83_1 hfz83_2 hfz83_3
  try clear hcz85_0 hcz85_1 hcz85_2 hcz85_3 hfz85_0 hfz85_1 hfz85_2 hfz85_3
  try clear hfz50_0 hfz50_1 hfz50_2 hfz50_3
  obtain ⟨kq, x438000_3, x438001_3, x438002_3, x438003_3, HA, HJ3, BK434, BK435, BK436, BK437, HB⟩ := hcut
  cases kq with
  | zero => exact absurd HA.out (by simp [spec_l2Bitwise.j0])
  | succ kj3 =>
   have H := HA.out
   clear HA
   simp only [spec_l2Bitwise.j0] at H
   replace H := Option.bind_eq_some_iff.mp H
   obtain ⟨⟨t438, t439, t440, t441⟩, A890, H⟩ := H
   try dsimp only at H
   have A89 := Aside0.mk A890
   clear A890
   simp only [Option.some.injEq, Prod.mk.injEq] at H
   obtain ⟨rfl, rfl, rfl, rfl⟩ := H
   have hnb90 := NB437_434.out
   have hnc90 := NB434_437.out
   have hnb91 := NB437_435.out
   have hnc91 := NB435_437.out
   have hnb92 := NB437_436.out
   have hnc92 := NB436_437.out
   obtain ⟨hcz93_0, hcz93_1, hcz93_2, hcz93_3, hfz93_0, hfz93_1, hfz93_2, hfz93_3⟩ := zc4 BK437
   go_wp2_with (first | ((with_reducible refine gate_callee (f := 27) rfl ?_); refine gl 95 Try.func27 #[.agg #[.int .i64 x438000_3, .int .i64 x438001_3, .int .i64 x438002_3, .int .i64 x438003_3]] ?_; (with_reducible refine (spec_l2Tidy.calls kj3 x438000_3 x438001_3 x438002_3 x438003_3 t438 t439 t440 t441 _ A89.out).mono ?_); rintro e w94 ⟨rfl, hb⟩; refine ⟨_, rfl, ?_⟩; replace BK434 := zb BK434 hb rfl; replace BK435 := zb BK435 hb rfl; replace BK436 := zb BK436 hb rfl; replace BK437 := zb BK437 hb rfl; replace HB := zS hb; try clear hb; have hnb95 := NB436_434.out; have hnc95 := NB434_436.out; have hnb96 := NB436_435.out; have hnc96 := NB435_436.out; obtain ⟨hcz97_0, hcz97_1, hcz97_2, hcz97_3, hfz97_0, hfz97_1, hfz97_2, hfz97_3⟩ := zc4 BK436))
   refine bodyPost_ret (results_cell_row rfl _ _ gb436 24 #[.int .i64 t438, .int .i64 t439, .int .i64 t440, .int .i64 t441] (0, 0) _ rfl (by refine bq ?_; refine blk_put (cs := #[.int .i64 t438, .int .i64 t439, .int .i64 t440, .int .i64 0]) ?_ 3 _ rfl; refine bq ?_; refine blk_put (cs := #[.int .i64 t438, .int .i64 t439, .int .i64 0, .int .i64 0]) ?_ 2 _ rfl; refine bq ?_; refine blk_put (cs := #[.int .i64 t438, .int .i64 0, .int .i64 0, .int .i64 0]) ?_ 1 _ rfl; refine bq ?_; refine blk_put (cs := #[.int .i64 0, .int .i64 0, .int .i64 0, .int .i64 0]) ?_ 0 _ rfl; exact bq BK436.out) Try.underlying24 rfl (by kernel_rfl)) rfl ?_
   exact ⟨zR, zB⟩

end Go.Proofs.Ytdhijcfohbkpoaa.Q
