/- The machine's side of this seat's laws: Go functions as Lean functions, and their contracts. By a program of this work over the kit's print. -/
import Derived.Test.YtjengfiaphgjbaaQ0
import Derived.Test.YtjengfiaphgjbaaQ7
namespace Go.Proofs.Ytjengfiaphgjbaa.Q
open Go.RowKit Go.Proofs.YtjengfiaphgjbaaW.PrintWords Go.Proofs.YtjengfiaphgjbaaW.PrintLast Go.Proofs.YtjengfiaphgjbaaW.PrintMore
attribute [local go_sem] max2_int min2_int max_two min_two max_three min_three max_four min_four Go.Proofs.YtjengfiaphgjbaaN.not_i64 Go.Proofs.YtjengfiaphgjbaaN.isSome_setCell   -- for this text's walks alone
set_option linter.unusedVariables false
set_option linter.unusedSimpArgs false

/-! ### impl_Range_least: function 26 -/
def impl_Range_least.j0 : Nat → Int → Int → Int → Int → Int → Option (Int)
 | 0, _, _, _, _, _ => none
 | k + 1, x3, x257000, x257001, x257002, x257003 => if x3 < 0 then (some (-1)) else ((impl_Range_has.f x257000 x257001 x257002 x257003 x3).bind fun t258 => (if t258 = true then (some x3) else (some (-1))))
def impl_Range_least.f (k : Nat) (a0_0 : Int) (a0_1 : Int) (a0_2 : Int) (a0_3 : Int) : Option (Int) := if (Go.bits .andNot .i64 a0_0 a0_3) = a0_2 then (impl_Range_least.j0 k a0_0 a0_0 a0_1 a0_2 a0_3) else ((impl_Range_above.f k a0_0 a0_1 a0_2 a0_3).bind fun t257 => (impl_Range_least.j0 k t257 a0_0 a0_1 a0_2 a0_3))


set_option maxHeartbeats 8000000 in
set_option maxRecDepth 100000 in
theorem impl_Range_least.calls (k : Nat) (a0_0 : Int) (a0_1 : Int) (a0_2 : Int) (a0_3 : Int) (r : Int) (w : World) (h : impl_Range_least.f k a0_0 a0_1 a0_2 a0_3 = some r) :
  Calls Try.prog 26 #[.agg #[.int .i64 a0_0, .int .i64 a0_1, .int .i64 a0_2, .int .i64 a0_3]] w fun e w' => e = .returned (.int .i64 r) ∧ Below w.heap.size w w' := by
 have hu24 := Try.underlying24
 have HB := Aside0.mk (Below.refl w.heap.size w)
 have H : (if (Go.bits .andNot .i64 a0_0 a0_3) = a0_2 then (impl_Range_least.j0 k a0_0 a0_0 a0_1 a0_2 a0_3) else ((impl_Range_above.f k a0_0 a0_1 a0_2 a0_3).bind fun t257 => (impl_Range_least.j0 k t257 a0_0 a0_1 a0_2 a0_3))) = some r := h
 clear h
 have HC2 := Aside0.mk H
 clear H
 go_enter Try.func26, Try.ntmps26
 go_upto_if 12 with (first | ((with_reducible refine gate_dst (N := 1) rfl ?_); refine be 1 #[.int .i64 a0_0, .int .i64 a0_1, .int .i64 a0_2, .int .i64 a0_3] 24 ?_; intro gb256 hg w3 hbox hb; have BK256 := Aside0.mk hbox; have GW256 := zW hg; replace HB := zS hb; have GE256 := GW256; clear hb hbox hg; obtain ⟨hcz4_0, hcz4_1, hcz4_2, hcz4_3, hfz4_0, hfz4_1, hfz4_2, hfz4_3⟩ := zc4 BK256))
 (try simp only [Act.put, List.setIfInBounds_toArray, List.set_cons_zero, List.set_cons_succ])
 go_cut [3] (fun v3 wc => ∃ (kq : Nat) (x3_1 : Int), v3 = .int .i64 x3_1 ∧ Aside0 (impl_Range_least.j0 kq x3_1 a0_0 a0_1 a0_2 a0_3 = some r) ∧ Aside0 (kq ≤ k) ∧ Aside0 (wc.heap[gb256]? = some (.cells #[.int .i64 a0_0, .int .i64 a0_1, .int .i64 a0_2, .int .i64 a0_3] 24 (0, 0))) ∧ Aside0 (Below w.heap.size w wc))
 case first =>
  have H := HC2.out
  clear HC2
  by_cases c5 : (Go.bits .andNot .i64 a0_0 a0_3) = a0_2
  ·rw [if_pos c5] at H
   have c5b0 : ((Go.bits .andNot .i64 a0_0 a0_3) == a0_2) = true := beq_iff_eq.mpr c5
   have c5b1 : ((Go.bits .andNot .i64 a0_0 a0_3) != a0_2) = false := bne_eq_false_iff_eq.mpr c5
   clear c5
   (first | rw [c5b0] | (simp only [i64_w, i32_w]; rw [c5b0]) | skip)
   have H' := Aside0.mk H
   clear H
   go_wp2
   go_meet
   case rel => exact ⟨_, (a0_0), (by first | rfl | (simp; done) | (simp [*]; done)), H', ⟨by first | omega | exact Nat.le_refl _⟩, ⟨by exact bq BK256.out⟩, ⟨zB⟩⟩
  ·rw [if_neg c5] at H
   have c5b0 : ((Go.bits .andNot .i64 a0_0 a0_3) == a0_2) = false := beq_eq_false_iff_ne.mpr c5
   have c5b1 : ((Go.bits .andNot .i64 a0_0 a0_3) != a0_2) = true := bne_iff_ne.mpr c5
   (first | rw [c5b0] | (simp only [i64_w, i32_w]; rw [c5b0]) | skip)
   replace H := Option.bind_eq_some_iff.mp H
   obtain ⟨t257, A60, H⟩ := H
   try dsimp only at H
   have A6 := Aside0.mk A60
   clear A60
   have H' := Aside0.mk H
   clear H
   obtain ⟨hcz7_0, hcz7_1, hcz7_2, hcz7_3, hfz7_0, hfz7_1, hfz7_2, hfz7_3⟩ := zc4 BK256
   go_wp2_with (first | ((with_reducible refine gate_callee (f := 35) rfl ?_); refine gl 14 Try.func35 #[.agg #[.int .i64 a0_0, .int .i64 a0_1, .int .i64 a0_2, .int .i64 a0_3]] ?_; (with_reducible refine (impl_Range_above.calls k a0_0 a0_1 a0_2 a0_3 t257 _ A6.out).mono ?_); rintro e w8 ⟨rfl, hb⟩; refine ⟨_, rfl, ?_⟩; replace BK256 := zb BK256 hb rfl; replace HB := zS hb; try clear hb))
   go_meet
   case rel => exact ⟨_, (t257), (by first | rfl | (simp; done) | (simp [*]; done)), H', ⟨by first | omega | exact Nat.le_refl _⟩, ⟨by exact bq BK256.out⟩, ⟨zB⟩⟩
 case rest =>
  clear HC2
  try clear c2
  try clear p2
  try clear c3
  try clear c5
  try clear c5b0
  try clear c5b1
  try clear hcz4_0 hcz4_1 hcz4_2 hcz4_3 hfz4_0 hfz4_1 hfz4_2 hfz4_3
  try clear hcz7_0 hcz7_1 hcz7_2 hcz7_3 hfz7_0 hfz7_1 hfz7_2 hfz7_3
  obtain ⟨kq, x3_1, rfl, HA, HJ1, BK256, HB⟩ := hcut
  cases kq with
  | zero => exact absurd HA.out (by simp [impl_Range_least.j0])
  | succ kj1 =>
   have H := HA.out
   clear HA
   simp only [impl_Range_least.j0] at H
   by_cases c9 : x3_1 < 0
   ·rw [if_pos c9] at H
    have c9b0 : decide (x3_1 < 0) = true := decide_eq_true c9
    clear c9
    obtain rfl := Option.some.inj H
    go_wp2
    go_ret
    exact ⟨zR, zB⟩
   ·rw [if_neg c9] at H
    have c9b0 : decide (x3_1 < 0) = false := decide_eq_false c9
    clear c9
    replace H := Option.bind_eq_some_iff.mp H
    obtain ⟨t258, A100, H⟩ := H
    try dsimp only at H
    have A10 := Aside0.mk A100
    clear A100
    by_cases c11 : t258 = true
    ·subst c11
     rw [if_pos rfl] at H
     obtain rfl := Option.some.inj H
     obtain ⟨hcz12_0, hcz12_1, hcz12_2, hcz12_3, hfz12_0, hfz12_1, hfz12_2, hfz12_3⟩ := zc4 BK256
     go_wp2_with (first | (go_at_call 36; (with_reducible refine (impl_Range_has.calls a0_0 a0_1 a0_2 a0_3 x3_1 true _ A10.out).mono ?_); rintro e w13 ⟨rfl, hb⟩; replace BK256 := zb BK256 hb rfl; replace HB := zS hb; try clear hb))
     go_ret
     exact ⟨zR, zB⟩
    ·replace c11 := Bool.eq_false_iff.mpr c11
     subst c11
     rw [if_neg (show ¬ (false = true) by decide)] at H
     obtain rfl := Option.some.inj H
     obtain ⟨hcz14_0, hcz14_1, hcz14_2, hcz14_3, hfz14_0, hfz14_1, hfz14_2, hfz14_3⟩ := zc4 BK256
     go_wp2_with (first | (go_at_call 36; (with_reducible refine (impl_Range_has.calls a0_0 a0_1 a0_2 a0_3 x3_1 false _ A10.out).mono ?_); rintro e w15 ⟨rfl, hb⟩; replace BK256 := zb BK256 hb rfl; replace HB := zS hb; try clear hb))
     go_ret
     exact ⟨zR, zB⟩

/-! ### impl_Range_some: function 14 -/
def impl_Range_some.f (k : Nat) (a0_0 : Int) (a0_1 : Int) (a0_2 : Int) (a0_3 : Int) : Option (Bool) := (impl_RangeOk.f a0_0 a0_1 a0_2 a0_3).bind fun t260 => (if t260 = true then ((impl_Range_least.f k a0_0 a0_1 a0_2 a0_3).bind fun t261 => (some (decide (t261 ≥ 0)))) else (some false))

set_option maxHeartbeats 8000000 in
set_option maxRecDepth 100000 in
theorem impl_Range_some.calls (k : Nat) (a0_0 : Int) (a0_1 : Int) (a0_2 : Int) (a0_3 : Int) (r : Bool) (w : World) (h : impl_Range_some.f k a0_0 a0_1 a0_2 a0_3 = some r) :
  Calls Try.prog 14 #[.agg #[.int .i64 a0_0, .int .i64 a0_1, .int .i64 a0_2, .int .i64 a0_3]] w fun e w' => e = .returned (.bool r) ∧ Below w.heap.size w w' := by
 have hu24 := Try.underlying24
 have HB := Aside0.mk (Below.refl w.heap.size w)
 have H : ((impl_RangeOk.f a0_0 a0_1 a0_2 a0_3).bind fun t260 => (if t260 = true then ((impl_Range_least.f k a0_0 a0_1 a0_2 a0_3).bind fun t261 => (some (decide (t261 ≥ 0)))) else (some false))) = some r := h
 clear h
 replace H := Option.bind_eq_some_iff.mp H
 obtain ⟨t260, A20, H⟩ := H
 try dsimp only at H
 have A2 := Aside0.mk A20
 clear A20
 by_cases c3 : t260 = true
 ·subst c3
  rw [if_pos rfl] at H
  replace H := Option.bind_eq_some_iff.mp H
  obtain ⟨t261, A40, H⟩ := H
  try dsimp only at H
  have A4 := Aside0.mk A40
  clear A40
  obtain rfl := Option.some.inj H
  go_enter Try.func14, Try.ntmps14
  go_wp2_with (first | ((with_reducible refine gate_dst (N := 1) rfl ?_); refine be 1 #[.int .i64 a0_0, .int .i64 a0_1, .int .i64 a0_2, .int .i64 a0_3] 24 ?_; intro gb259 hg w5 hbox hb; have BK259 := Aside0.mk hbox; have GW259 := zW hg; replace HB := zS hb; have GE259 := GW259; clear hb hbox hg; obtain ⟨hcz6_0, hcz6_1, hcz6_2, hcz6_3, hfz6_0, hfz6_1, hfz6_2, hfz6_3⟩ := zc4 BK259) | ((with_reducible refine gate_callee (f := 25) rfl ?_); refine gl 4 Try.func25 #[.agg #[.int .i64 a0_0, .int .i64 a0_1, .int .i64 a0_2, .int .i64 a0_3]] ?_; (with_reducible refine (impl_RangeOk.calls a0_0 a0_1 a0_2 a0_3 true _ A2.out).mono ?_); rintro e w7 ⟨rfl, hb⟩; refine ⟨_, rfl, ?_⟩; replace BK259 := zb BK259 hb rfl; replace HB := zS hb; try clear hb; obtain ⟨hcz8_0, hcz8_1, hcz8_2, hcz8_3, hfz8_0, hfz8_1, hfz8_2, hfz8_3⟩ := zc4 BK259) | (go_at_call 26; (with_reducible refine (impl_Range_least.calls k a0_0 a0_1 a0_2 a0_3 t261 _ A4.out).mono ?_); rintro e w9 ⟨rfl, hb⟩; replace BK259 := zb BK259 hb rfl; replace HB := zS hb; try clear hb))
  go_ret
  exact ⟨zR, zB⟩
 ·replace c3 := Bool.eq_false_iff.mpr c3
  subst c3
  rw [if_neg (show ¬ (false = true) by decide)] at H
  obtain rfl := Option.some.inj H
  go_enter Try.func14, Try.ntmps14
  go_wp2_with (first | ((with_reducible refine gate_dst (N := 1) rfl ?_); refine be 1 #[.int .i64 a0_0, .int .i64 a0_1, .int .i64 a0_2, .int .i64 a0_3] 24 ?_; intro gb259 hg w10 hbox hb; have BK259 := Aside0.mk hbox; have GW259 := zW hg; replace HB := zS hb; have GE259 := GW259; clear hb hbox hg; obtain ⟨hcz11_0, hcz11_1, hcz11_2, hcz11_3, hfz11_0, hfz11_1, hfz11_2, hfz11_3⟩ := zc4 BK259) | ((with_reducible refine gate_callee (f := 25) rfl ?_); refine gl 4 Try.func25 #[.agg #[.int .i64 a0_0, .int .i64 a0_1, .int .i64 a0_2, .int .i64 a0_3]] ?_; (with_reducible refine (impl_RangeOk.calls a0_0 a0_1 a0_2 a0_3 false _ A2.out).mono ?_); rintro e w12 ⟨rfl, hb⟩; refine ⟨_, rfl, ?_⟩; replace BK259 := zb BK259 hb rfl; replace HB := zS hb; try clear hb))
  go_ret
  exact ⟨zR, zB⟩

/-! ### impl_noRange: function 15 -/
def impl_noRange.f  : Option (Int × Int × Int × Int) := some (1, 0, 0, 0)
set_option maxHeartbeats 8000000 in
set_option maxRecDepth 100000 in
theorem impl_noRange.calls  (r1 : Int) (r2 : Int) (r3 : Int) (r4 : Int) (w : World) (h : impl_noRange.f  = some (r1, r2, r3, r4)) :
  Calls Try.prog 15 #[] w fun e w' => e = .returned (.agg #[.int .i64 r1, .int .i64 r2, .int .i64 r3, .int .i64 r4]) ∧ Below w.heap.size w w' := by
 have hu24 := Try.underlying24
 have HB := Aside0.mk (Below.refl w.heap.size w)
 have H : (some (1, 0, 0, 0)) = some (r1, r2, r3, r4) := h
 clear h
 simp only [Option.some.injEq, Prod.mk.injEq] at H
 obtain ⟨rfl, rfl, rfl, rfl⟩ := H
 go_enter Try.func15, Try.ntmps15
 go_wp2_with (first | ((with_reducible refine gate_dst (N := 0) rfl ?_); refine be 0 #[.int .i64 0, .int .i64 0, .int .i64 0, .int .i64 0] 24 ?_; intro gb262 hg w1 hbox hb; have BK262 := Aside0.mk hbox; have GW262 := zW hg; replace HB := zS hb; have GE262 := GW262; clear hb hbox hg; obtain ⟨hcz2_0, hcz2_1, hcz2_2, hcz2_3, hfz2_0, hfz2_1, hfz2_2, hfz2_3⟩ := zc4 BK262))
 refine bodyPost_ret (results_cell_row rfl _ _ gb262 24 #[.int .i64 1, .int .i64 0, .int .i64 0, .int .i64 0] (0, 0) _ rfl (by refine bq ?_; refine blk_put (cs := #[.int .i64 1, .int .i64 0, .int .i64 0, .int .i64 0]) ?_ 3 _ rfl; refine bq ?_; refine blk_put (cs := #[.int .i64 1, .int .i64 0, .int .i64 0, .int .i64 0]) ?_ 2 _ rfl; refine bq ?_; refine blk_put (cs := #[.int .i64 1, .int .i64 0, .int .i64 0, .int .i64 0]) ?_ 1 _ rfl; refine bq ?_; refine blk_put (cs := #[.int .i64 0, .int .i64 0, .int .i64 0, .int .i64 0]) ?_ 0 _ rfl; exact bq BK262.out) Try.underlying24 rfl (by kernel_rfl)) rfl ?_
 exact ⟨zR, zB⟩

/-! ### bits_Len: function 37 -/
def bits_Len.f (a0 : Int) : Option (Int) := if 0 ≤ a0 then (if a0 ≤ 18446744073709551615 then some ((Lib.bitLen a0.toNat : Nat) : Int) else none) else none
theorem bits_Len.calls (a0 : Int) (r : Int) (w : World) (h : bits_Len.f a0 = some r) :
  Calls Try.prog 37 #[.int .u64 a0] w fun e w' => e = .returned (.int .i64 r) ∧ Drawn0 w w' := by
 unfold bits_Len.f at h
 split at h
 ·split at h
  ·obtain rfl := Option.some.inj h
   refine (Try.bits_Len a0 w ‹_› ‹_›).mono ?_
   rintro e w' ⟨rfl, rfl⟩
   exact ⟨rfl, Drawn0.refl _⟩
  ·cases h
 ·cases h


/-! ### impl_Range_tidy: function 27 -/
def impl_Range_tidy.f (a0_0 : Int) (a0_1 : Int) (a0_2 : Int) (a0_3 : Int) : Option (Int × Int × Int × Int) := (bits_Len.f (IntKind.u64.wrap (Go.bits .xor .i64 a0_0 a0_1))).bind fun t265 => (if 0 ≤ t265 then (some (mx a0_0 (Go.bits .andNot .i64 (Go.bits .or .i64 a0_2 (Go.bits .andNot .i64 a0_0 (wrap64 ((shl .i64 1 t265) - 1)))) (Go.bits .and .i64 a0_3 (wrap64 ((shl .i64 1 t265) - 1)))), mn a0_1 (Go.bits .or .i64 (Go.bits .andNot .i64 (Go.bits .or .i64 a0_2 (Go.bits .andNot .i64 a0_0 (wrap64 ((shl .i64 1 t265) - 1)))) (Go.bits .and .i64 a0_3 (wrap64 ((shl .i64 1 t265) - 1)))) (Go.bits .and .i64 a0_3 (wrap64 ((shl .i64 1 t265) - 1)))), Go.bits .andNot .i64 (Go.bits .or .i64 a0_2 (Go.bits .andNot .i64 a0_0 (wrap64 ((shl .i64 1 t265) - 1)))) (Go.bits .and .i64 a0_3 (wrap64 ((shl .i64 1 t265) - 1))), Go.bits .and .i64 a0_3 (wrap64 ((shl .i64 1 t265) - 1)))) else (none))
def impl_Range_tidy.T4 : Bool × List (List Nat × List Nat) := (true, [([], []), ([0], [0]), ([], []), ([2], [2]), ([1, 3], [1, 3]), ([], []), ([5], [5]), ([], []), ([7], [7]), ([], []), ([9], [9]), ([8, 10], [8, 10]), ([6, 11], [6, 11]), ([0, 1, 2, 3, 4, 7, 8, 9, 10], []), ([13, 4, 0, 1, 2, 3, 4, 7, 8, 9, 10], [4, 13]), ([0, 1, 2, 3, 4, 5, 6, 7, 8, 9, 10, 11, 12, 13, 14], []), ([15, 12, 14, 0, 1, 2, 3, 4, 5, 6, 7, 8, 9, 10, 11, 12, 13, 14], [12, 15])])
def impl_Range_tidy.B4 : List Nat := [0, 1, 0, 4, 15, 0, 32, 0, 128, 0, 512, 1920, 4064, 1951, 10143, 32767, 65535]
theorem impl_Range_tidy.tab4 : rtab .any (opsOf Try.f27 4) = impl_Range_tidy.T4 := by kernel_rfl
theorem impl_Range_tidy.bits4 : waitsOk impl_Range_tidy.T4.2 impl_Range_tidy.B4 = true := by kernel_rfl
set_option maxHeartbeats 8000000 in
set_option maxRecDepth 100000 in
theorem impl_Range_tidy.calls (a0_0 : Int) (a0_1 : Int) (a0_2 : Int) (a0_3 : Int) (r1 : Int) (r2 : Int) (r3 : Int) (r4 : Int) (w : World) (h : impl_Range_tidy.f a0_0 a0_1 a0_2 a0_3 = some (r1, r2, r3, r4)) :
  Calls Try.prog 27 #[.agg #[.int .i64 a0_0, .int .i64 a0_1, .int .i64 a0_2, .int .i64 a0_3]] w fun e w' => e = .returned (.agg #[.int .i64 r1, .int .i64 r2, .int .i64 r3, .int .i64 r4]) ∧ Below w.heap.size w w' := by
 have hu24 := Try.underlying24
 have HB := Aside0.mk (Below.refl w.heap.size w)
 have H : ((bits_Len.f (IntKind.u64.wrap (Go.bits .xor .i64 a0_0 a0_1))).bind fun t265 => (if 0 ≤ t265 then (some (mx a0_0 (Go.bits .andNot .i64 (Go.bits .or .i64 a0_2 (Go.bits .andNot .i64 a0_0 (wrap64 ((shl .i64 1 t265) - 1)))) (Go.bits .and .i64 a0_3 (wrap64 ((shl .i64 1 t265) - 1)))), mn a0_1 (Go.bits .or .i64 (Go.bits .andNot .i64 (Go.bits .or .i64 a0_2 (Go.bits .andNot .i64 a0_0 (wrap64 ((shl .i64 1 t265) - 1)))) (Go.bits .and .i64 a0_3 (wrap64 ((shl .i64 1 t265) - 1)))) (Go.bits .and .i64 a0_3 (wrap64 ((shl .i64 1 t265) - 1)))), Go.bits .andNot .i64 (Go.bits .or .i64 a0_2 (Go.bits .andNot .i64 a0_0 (wrap64 ((shl .i64 1 t265) - 1)))) (Go.bits .and .i64 a0_3 (wrap64 ((shl .i64 1 t265) - 1))), Go.bits .and .i64 a0_3 (wrap64 ((shl .i64 1 t265) - 1)))) else (none))) = some (r1, r2, r3, r4) := h
 clear h
 replace H := Option.bind_eq_some_iff.mp H
 obtain ⟨t265, A20, H⟩ := H
 try dsimp only at H
 have A2 := Aside0.mk A20
 clear A20
 by_cases c3 : 0 ≤ t265
 ·rw [if_pos c3] at H
  have c3b0 := eq_true c3
  have c3b1 : decide (0 ≤ t265) = true := decide_eq_true c3
  clear c3
  obtain ⟨ji4, hji4⟩ : ∃ j_ : Int, (shl .i64 1 t265) = j_ := ⟨_, rfl⟩
  replace H : (some (mx a0_0 (Go.bits .andNot .i64 (Go.bits .or .i64 a0_2 (Go.bits .andNot .i64 a0_0 (wrap64 ((ji4) - 1)))) (Go.bits .and .i64 a0_3 (wrap64 ((ji4) - 1)))), mn a0_1 (Go.bits .or .i64 (Go.bits .andNot .i64 (Go.bits .or .i64 a0_2 (Go.bits .andNot .i64 a0_0 (wrap64 ((ji4) - 1)))) (Go.bits .and .i64 a0_3 (wrap64 ((ji4) - 1)))) (Go.bits .and .i64 a0_3 (wrap64 ((ji4) - 1)))), Go.bits .andNot .i64 (Go.bits .or .i64 a0_2 (Go.bits .andNot .i64 a0_0 (wrap64 ((ji4) - 1)))) (Go.bits .and .i64 a0_3 (wrap64 ((ji4) - 1))), Go.bits .and .i64 a0_3 (wrap64 ((ji4) - 1)))) = some (r1, r2, r3, r4) := by first | (rw [hji4] at H; exact H) | (simp only [hji4] at H ⊢; exact H)
  (try rw [hji4] at A2)
  have hji4_ : (IntKind.i64.wrap (1 * 2 ^ min t265.toNat 64)) = ji4 := hji4
  have hji4z : t265 ≤ 64 → (IntKind.i64.wrap (1 * 2 ^ t265.toNat)) = ji4 := shl_small hji4
  have hji4u : (IntKind.i64.wrap (2 ^ min t265.toNat 64)) = ji4 := by have h_ := hji4_; rw [Int.one_mul] at h_; exact h_
  have hji4v : t265 ≤ 64 → (IntKind.i64.wrap (2 ^ t265.toNat)) = ji4 := fun hle_ => by have h_ := hji4z hle_; rw [Int.one_mul] at h_; exact h_
  have hji4y : (wrap64 (1 * 2 ^ min t265.toNat 64)) = ji4 := (i64_w _).symm.trans hji4_
  have hji4x : t265 ≤ 64 → (wrap64 (1 * 2 ^ t265.toNat)) = ji4 := fun h_ => (i64_w _).symm.trans (hji4z h_)
  obtain ⟨ji5, hji5⟩ : ∃ j_ : Int, (mx a0_0 (Go.bits .andNot .i64 (Go.bits .or .i64 a0_2 (Go.bits .andNot .i64 a0_0 (wrap64 ((ji4) - 1)))) (Go.bits .and .i64 a0_3 (wrap64 ((ji4) - 1))))) = j_ := ⟨_, rfl⟩
  replace H : (some (ji5, mn a0_1 (Go.bits .or .i64 (Go.bits .andNot .i64 (Go.bits .or .i64 a0_2 (Go.bits .andNot .i64 a0_0 (wrap64 ((ji4) - 1)))) (Go.bits .and .i64 a0_3 (wrap64 ((ji4) - 1)))) (Go.bits .and .i64 a0_3 (wrap64 ((ji4) - 1)))), Go.bits .andNot .i64 (Go.bits .or .i64 a0_2 (Go.bits .andNot .i64 a0_0 (wrap64 ((ji4) - 1)))) (Go.bits .and .i64 a0_3 (wrap64 ((ji4) - 1))), Go.bits .and .i64 a0_3 (wrap64 ((ji4) - 1)))) = some (r1, r2, r3, r4) := by first | (rw [hji5] at H; exact H) | (simp only [hji5] at H ⊢; exact H)
  (try rw [hji5] at A2)
  have hji5_ : (if a0_0 < (Go.bits .andNot .i64 (Go.bits .or .i64 a0_2 (Go.bits .andNot .i64 a0_0 (wrap64 ((ji4) - 1)))) (Go.bits .and .i64 a0_3 (wrap64 ((ji4) - 1)))) then (Go.bits .andNot .i64 (Go.bits .or .i64 a0_2 (Go.bits .andNot .i64 a0_0 (wrap64 ((ji4) - 1)))) (Go.bits .and .i64 a0_3 (wrap64 ((ji4) - 1)))) else a0_0) = ji5 := hji5
  obtain ⟨ji6, hji6⟩ : ∃ j_ : Int, (mn a0_1 (Go.bits .or .i64 (Go.bits .andNot .i64 (Go.bits .or .i64 a0_2 (Go.bits .andNot .i64 a0_0 (wrap64 ((ji4) - 1)))) (Go.bits .and .i64 a0_3 (wrap64 ((ji4) - 1)))) (Go.bits .and .i64 a0_3 (wrap64 ((ji4) - 1))))) = j_ := ⟨_, rfl⟩
  replace H : (some (ji5, ji6, Go.bits .andNot .i64 (Go.bits .or .i64 a0_2 (Go.bits .andNot .i64 a0_0 (wrap64 ((ji4) - 1)))) (Go.bits .and .i64 a0_3 (wrap64 ((ji4) - 1))), Go.bits .and .i64 a0_3 (wrap64 ((ji4) - 1)))) = some (r1, r2, r3, r4) := by first | (rw [hji6] at H; exact H) | (simp only [hji6] at H ⊢; exact H)
  (try rw [hji6] at A2)
  have hji6_ : (if (Go.bits .or .i64 (Go.bits .andNot .i64 (Go.bits .or .i64 a0_2 (Go.bits .andNot .i64 a0_0 (wrap64 ((ji4) - 1)))) (Go.bits .and .i64 a0_3 (wrap64 ((ji4) - 1)))) (Go.bits .and .i64 a0_3 (wrap64 ((ji4) - 1)))) < a0_1 then (Go.bits .or .i64 (Go.bits .andNot .i64 (Go.bits .or .i64 a0_2 (Go.bits .andNot .i64 a0_0 (wrap64 ((ji4) - 1)))) (Go.bits .and .i64 a0_3 (wrap64 ((ji4) - 1)))) (Go.bits .and .i64 a0_3 (wrap64 ((ji4) - 1)))) else a0_1) = ji6 := hji6
  simp only [Option.some.injEq, Prod.mk.injEq] at H
  obtain ⟨rfl, rfl, rfl, rfl⟩ := H
  go_enter Try.func27, Try.ntmps27
  try go_wp2_with (first | ((with_reducible refine gate_dst (N := 1) rfl ?_); refine be 1 #[.int .i64 a0_0, .int .i64 a0_1, .int .i64 a0_2, .int .i64 a0_3] 24 ?_; intro gb263 hg w7 hbox hb; have BK263 := Aside0.mk hbox; have GW263 := zW hg; replace HB := zS hb; have GE263 := GW263; clear hb hbox hg) | ((with_reducible refine gate_dst (N := 2) rfl ?_); refine be 2 #[.int .i64 0, .int .i64 0, .int .i64 0, .int .i64 0] 24 ?_; intro gb264 hg w8 hbox hb; have BK264 := Aside0.mk hbox; have GW264 := zW hg; replace HB := zS hb; have GE264 := GW264; have NB263_264 := zl BK263 hg rfl; have NB264_263 := zg BK263 hg rfl; replace BK263 := zb BK263 hb rfl; clear hb hbox hg; have hnb9 := NB263_264.out; have hnc9 := NB264_263.out; obtain ⟨hcz10_0, hcz10_1, hcz10_2, hcz10_3, hfz10_0, hfz10_1, hfz10_2, hfz10_3⟩ := zc4 BK263) | ((with_reducible refine gate_callee (f := 37) rfl ?_); refine gl 11 Try.func37 #[.int .u64 (IntKind.u64.wrap (Go.bits .xor .i64 a0_0 a0_1))] ?_; (with_reducible refine (bits_Len.calls (IntKind.u64.wrap (Go.bits .xor .i64 a0_0 a0_1)) t265 _ A2.out).mono ?_); rintro e w' ⟨rfl, ⟨nd, rfl⟩⟩; refine ⟨_, rfl, ?_⟩; (try (rw [drewN_self w8]; generalize hq_ : World.drewN w8 _ = w8; have n0_ : Aside0 (w8.heap[gb263]? = some (.cells #[.int .i64 a0_0, .int .i64 a0_1, .int .i64 a0_2, .int .i64 a0_3] 24 (0, 0))) := ⟨by rw [← hq_]; exact (by exact bq BK263.out)⟩; have n1_ : Aside0 (w8.heap[gb264]? = some (.cells #[.int .i64 0, .int .i64 0, .int .i64 0, .int .i64 0] 24 (0, 0))) := ⟨by rw [← hq_]; exact (by exact bq BK264.out)⟩; have n2_ : Aside0 (Below w.heap.size w w8) := ⟨by rw [← hq_]; exact zB⟩; clear BK263 BK264 HB hq_; have BK263 := n0_; have BK264 := n1_; have HB := n2_; clear n0_ n1_ n2_)); obtain ⟨hcz11_0, hcz11_1, hcz11_2, hcz11_3, hfz11_0, hfz11_1, hfz11_2, hfz11_3⟩ := zc4 BK263) | ((with_reducible refine gate_dst (N := 4) rfl ?_); refine be 4 #[.int .i64 0, .int .i64 0, .int .i64 0, .int .i64 0] 24 ?_; intro gb266 hg w12 hbox hb; have BK266 := Aside0.mk hbox; have GW266 := zW hg; replace HB := zS hb; have GE266 := GW266; have NB263_266 := zl BK263 hg rfl; have NB266_263 := zg BK263 hg rfl; replace BK263 := zb BK263 hb rfl; have NB264_266 := zl BK264 hg rfl; have NB266_264 := zg BK264 hg rfl; replace BK264 := zb BK264 hb rfl; clear hb hbox hg; have hnb13 := NB266_263.out; have hnc13 := NB263_266.out; have hnb14 := NB266_264.out; have hnc14 := NB264_266.out; obtain ⟨hcz15_0, hcz15_1, hcz15_2, hcz15_3, hfz15_0, hfz15_1, hfz15_2, hfz15_3⟩ := zc4 BK266; obtain ⟨hcz16_0, hcz16_1, hcz16_2, hcz16_3, hfz16_0, hfz16_1, hfz16_2, hfz16_3⟩ := zc4 BK263))
  have n0_ : Aside0 ((((((w12.setCell ⟨gb266, 0, none⟩ (.int .i64 0)).setCell ⟨gb266, 1, none⟩ (.int .i64 0)).setCell ⟨gb266, 2, none⟩ (.int .i64 0)).setCell ⟨gb266, 3, none⟩ (.int .i64 (Go.bits .and .i64 a0_3 (wrap64 ((ji4) - 1))))).setCell ⟨gb266, 2, none⟩ (.int .i64 (Go.bits .andNot .i64 (Go.bits .or .i64 a0_2 (Go.bits .andNot .i64 a0_0 (wrap64 ((ji4) - 1)))) (Go.bits .and .i64 a0_3 (wrap64 ((ji4) - 1)))))).heap[gb263]? = some (.cells #[.int .i64 a0_0, .int .i64 a0_1, .int .i64 a0_2, .int .i64 a0_3] 24 (0, 0))) := ⟨by refine fq ?_ NB263_266.out; refine fq ?_ NB263_266.out; refine fq ?_ NB263_266.out; refine fq ?_ NB263_266.out; refine fq ?_ NB263_266.out; exact bq BK263.out⟩
  have n1_ : Aside0 ((((((w12.setCell ⟨gb266, 0, none⟩ (.int .i64 0)).setCell ⟨gb266, 1, none⟩ (.int .i64 0)).setCell ⟨gb266, 2, none⟩ (.int .i64 0)).setCell ⟨gb266, 3, none⟩ (.int .i64 (Go.bits .and .i64 a0_3 (wrap64 ((ji4) - 1))))).setCell ⟨gb266, 2, none⟩ (.int .i64 (Go.bits .andNot .i64 (Go.bits .or .i64 a0_2 (Go.bits .andNot .i64 a0_0 (wrap64 ((ji4) - 1)))) (Go.bits .and .i64 a0_3 (wrap64 ((ji4) - 1)))))).heap[gb264]? = some (.cells #[.int .i64 0, .int .i64 0, .int .i64 0, .int .i64 0] 24 (0, 0))) := ⟨by refine fq ?_ NB264_266.out; refine fq ?_ NB264_266.out; refine fq ?_ NB264_266.out; refine fq ?_ NB264_266.out; refine fq ?_ NB264_266.out; exact bq BK264.out⟩
  have n2_ : Aside0 ((((((w12.setCell ⟨gb266, 0, none⟩ (.int .i64 0)).setCell ⟨gb266, 1, none⟩ (.int .i64 0)).setCell ⟨gb266, 2, none⟩ (.int .i64 0)).setCell ⟨gb266, 3, none⟩ (.int .i64 (Go.bits .and .i64 a0_3 (wrap64 ((ji4) - 1))))).setCell ⟨gb266, 2, none⟩ (.int .i64 (Go.bits .andNot .i64 (Go.bits .or .i64 a0_2 (Go.bits .andNot .i64 a0_0 (wrap64 ((ji4) - 1)))) (Go.bits .and .i64 a0_3 (wrap64 ((ji4) - 1)))))).heap[gb266]? = some (.cells #[.int .i64 0, .int .i64 0, .int .i64 (Go.bits .andNot .i64 (Go.bits .or .i64 a0_2 (Go.bits .andNot .i64 a0_0 (wrap64 ((ji4) - 1)))) (Go.bits .and .i64 a0_3 (wrap64 ((ji4) - 1)))), .int .i64 (Go.bits .and .i64 a0_3 (wrap64 ((ji4) - 1)))] 24 (0, 0))) := ⟨by refine bq ?_; refine blk_put (cs := #[.int .i64 0, .int .i64 0, .int .i64 0, .int .i64 (Go.bits .and .i64 a0_3 (wrap64 ((ji4) - 1)))]) ?_ 2 _ rfl; refine bq ?_; refine blk_put (cs := #[.int .i64 0, .int .i64 0, .int .i64 0, .int .i64 0]) ?_ 3 _ rfl; refine bq ?_; refine blk_put (cs := #[.int .i64 0, .int .i64 0, .int .i64 0, .int .i64 0]) ?_ 2 _ rfl; refine bq ?_; refine blk_put (cs := #[.int .i64 0, .int .i64 0, .int .i64 0, .int .i64 0]) ?_ 1 _ rfl; refine bq ?_; refine blk_put (cs := #[.int .i64 0, .int .i64 0, .int .i64 0, .int .i64 0]) ?_ 0 _ rfl; exact bq BK266.out⟩
  have n3_ : Aside0 (Below w.heap.size w (((((w12.setCell ⟨gb266, 0, none⟩ (.int .i64 0)).setCell ⟨gb266, 1, none⟩ (.int .i64 0)).setCell ⟨gb266, 2, none⟩ (.int .i64 0)).setCell ⟨gb266, 3, none⟩ (.int .i64 (Go.bits .and .i64 a0_3 (wrap64 ((ji4) - 1))))).setCell ⟨gb266, 2, none⟩ (.int .i64 (Go.bits .andNot .i64 (Go.bits .or .i64 a0_2 (Go.bits .andNot .i64 a0_0 (wrap64 ((ji4) - 1)))) (Go.bits .and .i64 a0_3 (wrap64 ((ji4) - 1))))))) := ⟨zB⟩
  (try clear BK263)
  (try clear BK264)
  (try clear BK266)
  (try clear HB)
  generalize (((((w12.setCell ⟨gb266, 0, none⟩ (.int .i64 0)).setCell ⟨gb266, 1, none⟩ (.int .i64 0)).setCell ⟨gb266, 2, none⟩ (.int .i64 0)).setCell ⟨gb266, 3, none⟩ (.int .i64 (Go.bits .and .i64 a0_3 (wrap64 ((ji4) - 1))))).setCell ⟨gb266, 2, none⟩ (.int .i64 (Go.bits .andNot .i64 (Go.bits .or .i64 a0_2 (Go.bits .andNot .i64 a0_0 (wrap64 ((ji4) - 1)))) (Go.bits .and .i64 a0_3 (wrap64 ((ji4) - 1)))))) = w17 at n0_ n1_ n2_ n3_ ⊢
  have BK263 := n0_
  have BK264 := n1_
  have BK266 := n2_
  have HB := n3_
  clear n0_ n1_ n2_ n3_
  replace BK263 := Aside0.mk (blk_drew BK263.out)
  replace BK264 := Aside0.mk (blk_drew BK264.out)
  replace BK266 := Aside0.mk (blk_drew BK266.out)
  replace HB := Aside0.mk (below_drew1 HB.out)
  refine start_ (n := 17) (S := fun w' => w'.cell? ⟨gb263, 0, none⟩ = some (.int .i64 a0_0) ∧ w'.cell? ⟨gb263, 1, none⟩ = some (.int .i64 a0_1) ∧ w'.cell? ⟨gb263, 2, none⟩ = some (.int .i64 a0_2) ∧ w'.cell? ⟨gb263, 3, none⟩ = some (.int .i64 a0_3) ∧ w'.cell? ⟨gb266, 2, none⟩ = some (.int .i64 (Go.bits .andNot .i64 (Go.bits .or .i64 a0_2 (Go.bits .andNot .i64 a0_0 (wrap64 ((ji4) - 1)))) (Go.bits .and .i64 a0_3 (wrap64 ((ji4) - 1))))) ∧ w'.cell? ⟨gb266, 3, none⟩ = some (.int .i64 (Go.bits .and .i64 a0_3 (wrap64 ((ji4) - 1))))) (ds := []) #[false, false, false, false, false, false, false, false, false, false, false, false, false, false, false, false, false] (by kernel_rfl) rfl rfl ⟨(blk_cell BK263.out 0).trans rfl, (blk_cell BK263.out 1).trans rfl, (blk_cell BK263.out 2).trans rfl, (blk_cell BK263.out 3).trans rfl, (blk_cell BK266.out 2).trans rfl, (blk_cell BK266.out 3).trans rfl⟩ (fun hHeld => ?_); refine with_tabW impl_Range_tidy.tab4 impl_Range_tidy.bits4 (fun HT_ HW_ => ?_)
  generalize w17.drew = w18 at BK263 BK264 BK266 HB hHeld ⊢
  refine pz 0 30 ?_
  refine pz 2 32 ?_
  refine pz 5 35 ?_
  refine pz 7 37 ?_
  refine pz 9 39 ?_
  refine tz 1 31 ?_
  refine tz 3 33 ?_
  refine pz 4 34 ?_
  refine tz 6 36 ?_
  refine tz 8 38 ?_
  refine tz 10 40 ?_
  refine pz 11 41 ?_
  refine pz 12 42 ?_
  refine pz 13 43 ?_
  refine oN 14 fun K hK => ?_
  have hs19 : w18.cell? ⟨gb266, 0, none⟩ = some (.int .i64 0) := (blk_cell BK266.out 0).trans rfl
  have hfs19 := blk_frozen BK266.out 0
  have hns19_0 := NB263_266.out
  have hns19_1 := NB264_266.out
  have hms19_0 := NB266_263.out
  have hms19_1 := NB266_264.out
  refine skip_ (w1 := ?_) (by rfl) rfl ?_ ?_
  rotate_left
  ·go_simp
   rfl
  refine hK.out _ _ ⟨((cell_far (p := ⟨gb266, _, none⟩) NB263_266.out _).trans (hHeld.1)), ((cell_far (p := ⟨gb266, _, none⟩) NB263_266.out _).trans (hHeld.2.1)), ((cell_far (p := ⟨gb266, _, none⟩) NB263_266.out _).trans (hHeld.2.2.1)), ((cell_far (p := ⟨gb266, _, none⟩) NB263_266.out _).trans (hHeld.2.2.2.1)), ((World.cell?_setCell_other _ _ _ _ (by simp)).trans (hHeld.2.2.2.2.1)), ((World.cell?_setCell_other _ _ _ _ (by simp)).trans (hHeld.2.2.2.2.2))⟩ (fun hHeld => ?_)
  clear hK K
  refine pz 15 44 ?_
  refine oN 16 fun K hK => ?_
  have hs20 : w18.cell? ⟨gb266, 1, none⟩ = some (.int .i64 0) := (blk_cell BK266.out 1).trans rfl
  have hfs20 := blk_frozen BK266.out 1
  have hns20_0 := NB263_266.out
  have hns20_1 := NB264_266.out
  have hms20_0 := NB266_263.out
  have hms20_1 := NB266_264.out
  refine skip_ (w1 := ?_) (by rfl) rfl ?_ ?_
  rotate_left
  ·go_simp
   rfl
  refine hK.out _ _ ⟨((cell_far (p := ⟨gb266, _, none⟩) NB263_266.out _).trans (hHeld.1)), ((cell_far (p := ⟨gb266, _, none⟩) NB263_266.out _).trans (hHeld.2.1)), ((cell_far (p := ⟨gb266, _, none⟩) NB263_266.out _).trans (hHeld.2.2.1)), ((cell_far (p := ⟨gb266, _, none⟩) NB263_266.out _).trans (hHeld.2.2.2.1)), ((World.cell?_setCell_other _ _ _ _ (by simp)).trans (hHeld.2.2.2.2.1)), ((World.cell?_setCell_other _ _ _ _ (by simp)).trans (hHeld.2.2.2.2.2))⟩ (fun hHeld => ?_)
  clear hK K
  refine done_ (done_of HT_.out (by kernel_rfl)) ?_
  have hcz21_0 : w18.cell? ⟨gb266, 0, none⟩ = some (.int .i64 0) := (blk_cell BK266.out 0).trans rfl
  have hcz21_1 : w18.cell? ⟨gb266, 1, none⟩ = some (.int .i64 0) := (blk_cell BK266.out 1).trans rfl
  have hcz21_2 : w18.cell? ⟨gb266, 2, none⟩ = some (.int .i64 (Go.bits .andNot .i64 (Go.bits .or .i64 a0_2 (Go.bits .andNot .i64 a0_0 (wrap64 ((ji4) - 1)))) (Go.bits .and .i64 a0_3 (wrap64 ((ji4) - 1))))) := (blk_cell BK266.out 2).trans rfl
  have hcz21_3 : w18.cell? ⟨gb266, 3, none⟩ = some (.int .i64 (Go.bits .and .i64 a0_3 (wrap64 ((ji4) - 1)))) := (blk_cell BK266.out 3).trans rfl
  have hfz21_0 := blk_frozen BK266.out 0
  have hfz21_1 := blk_frozen BK266.out 1
  have hfz21_2 := blk_frozen BK266.out 2
  have hfz21_3 := blk_frozen BK266.out 3
  obtain ⟨hcz22_0, hcz22_1, hcz22_2, hcz22_3, hfz22_0, hfz22_1, hfz22_2, hfz22_3⟩ := zc4 BK264
  try go_wp2
  refine bodyPost_ret (results_cell_row rfl _ _ gb264 24 #[.int .i64 ji5, .int .i64 ji6, .int .i64 (Go.bits .andNot .i64 (Go.bits .or .i64 a0_2 (Go.bits .andNot .i64 a0_0 (wrap64 ((ji4) - 1)))) (Go.bits .and .i64 a0_3 (wrap64 ((ji4) - 1)))), .int .i64 (Go.bits .and .i64 a0_3 (wrap64 ((ji4) - 1)))] (0, 0) _ rfl (by refine bq ?_; refine blk_put (cs := #[.int .i64 ji5, .int .i64 ji6, .int .i64 (Go.bits .andNot .i64 (Go.bits .or .i64 a0_2 (Go.bits .andNot .i64 a0_0 (wrap64 ((ji4) - 1)))) (Go.bits .and .i64 a0_3 (wrap64 ((ji4) - 1)))), .int .i64 0]) ?_ 3 _ rfl; refine bq ?_; refine blk_put (cs := #[.int .i64 ji5, .int .i64 ji6, .int .i64 0, .int .i64 0]) ?_ 2 _ rfl; refine bq ?_; refine blk_put (cs := #[.int .i64 ji5, .int .i64 0, .int .i64 0, .int .i64 0]) ?_ 1 _ rfl; refine bq ?_; refine blk_put (cs := #[.int .i64 0, .int .i64 0, .int .i64 0, .int .i64 0]) ?_ 0 _ rfl; refine fq ?_ NB264_266.out; refine fq ?_ NB264_266.out; exact bq BK264.out) Try.underlying24 rfl (by kernel_rfl)) rfl ?_
  exact ⟨by first | rfl | (simp [errW_none, errW_some] <;> rfl) | (simp only [← hji4, ← hji5, ← hji6]; first | rfl | (simp [errW_none, errW_some] <;> rfl)) | (simp [*, errW_none, errW_some] <;> rfl), zB⟩
 ·rw [if_neg c3] at H
  exact absurd H (by simp)

/-! ### impl_below: function 28 -/
mutual
def impl_below.j0 : Nat → Int → Int → Int → Int → Int → Int → Int → Int → Option (Int × Int × Int × Int × Int × Int × Int × Int × Bool)
 | 0, _, _, _, _, _, _, _, _ => none
 | k + 1, x268000, x268001, x268002, x268003, x269000, x269001, x269002, x269003 => (impl_Range_some.f k x268000 x268001 x268002 x268003).bind fun t271 => (if t271 = true then ((impl_Range_some.f k x269000 x269001 x269002 x269003).bind fun t272 => (impl_below.j1 k (!t272) x268000 x268001 x268002 x268003 x269000 x269001 x269002 x269003)) else (impl_below.j1 k true x268000 x268001 x268002 x268003 x269000 x269001 x269002 x269003))
def impl_below.j1 : Nat → Bool → Int → Int → Int → Int → Int → Int → Int → Int → Option (Int × Int × Int × Int × Int × Int × Int × Int × Bool)
 | 0, _, _, _, _, _, _, _, _, _ => none
 | k + 1, x43, x268000, x268001, x268002, x268003, x269000, x269001, x269002, x269003 => if x43 = true then ((impl_noRange.f).bind fun bt273 => ((impl_noRange.f).bind fun bt277 => (some (bt273.1, bt273.2.1, bt273.2.2.1, bt273.2.2.2, bt277.1, bt277.2.1, bt277.2.2.1, bt277.2.2.2, false)))) else ((impl_Range_tidy.f x268000 x268001 x268002 x268003).bind fun bt281 => ((impl_Range_tidy.f x269000 x269001 x269002 x269003).bind fun bt285 => (some (bt281.1, bt281.2.1, bt281.2.2.1, bt281.2.2.2, bt285.1, bt285.2.1, bt285.2.2.1, bt285.2.2.2, true))))
end
def impl_below.f (k : Nat) (a0_0 : Int) (a0_1 : Int) (a0_2 : Int) (a0_3 : Int) (a1_0 : Int) (a1_1 : Int) (a1_2 : Int) (a1_3 : Int) (a2 : Bool) : Option (Int × Int × Int × Int × Int × Int × Int × Int × Bool) := if a2 = true then (impl_below.j0 k a0_0 (mn a0_1 (wrap64 (a1_1 - 1))) a0_2 a0_3 (mx a1_0 (wrap64 (a0_0 + 1))) a1_1 a1_2 a1_3) else (impl_below.j0 k (mx a0_0 a1_0) a0_1 a0_2 a0_3 a1_0 (mn a1_1 a0_1) a1_2 a1_3)


set_option maxHeartbeats 8000000 in
set_option maxRecDepth 100000 in
theorem impl_below.calls (k : Nat) (a0_0 : Int) (a0_1 : Int) (a0_2 : Int) (a0_3 : Int) (a1_0 : Int) (a1_1 : Int) (a1_2 : Int) (a1_3 : Int) (a2 : Bool) (r1 : Int) (r2 : Int) (r3 : Int) (r4 : Int) (r5 : Int) (r6 : Int) (r7 : Int) (r8 : Int) (r9 : Bool) (w : World) (h : impl_below.f k a0_0 a0_1 a0_2 a0_3 a1_0 a1_1 a1_2 a1_3 a2 = some (r1, r2, r3, r4, r5, r6, r7, r8, r9)) :
  Calls Try.prog 28 #[.agg #[.int .i64 a0_0, .int .i64 a0_1, .int .i64 a0_2, .int .i64 a0_3], .agg #[.int .i64 a1_0, .int .i64 a1_1, .int .i64 a1_2, .int .i64 a1_3], .bool a2] w fun e w' => e = .returned (.tuple #[.agg #[.int .i64 r1, .int .i64 r2, .int .i64 r3, .int .i64 r4], .agg #[.int .i64 r5, .int .i64 r6, .int .i64 r7, .int .i64 r8], .bool r9]) ∧ Below w.heap.size w w' := by
 have hu24 := Try.underlying24
 have HB := Aside0.mk (Below.refl w.heap.size w)
 have H : (if a2 = true then (impl_below.j0 k a0_0 (mn a0_1 (wrap64 (a1_1 - 1))) a0_2 a0_3 (mx a1_0 (wrap64 (a0_0 + 1))) a1_1 a1_2 a1_3) else (impl_below.j0 k (mx a0_0 a1_0) a0_1 a0_2 a0_3 a1_0 (mn a1_1 a0_1) a1_2 a1_3)) = some (r1, r2, r3, r4, r5, r6, r7, r8, r9) := h
 clear h
 have HC4 := Aside0.mk H
 clear H
 go_enter Try.func28, Try.ntmps28
 go_upto_if 9 with (first | ((with_reducible refine gate_dst (N := 3) rfl ?_); refine be 3 #[.int .i64 a0_0, .int .i64 a0_1, .int .i64 a0_2, .int .i64 a0_3] 24 ?_; intro gb267 hg w5 hbox hb; have BK267 := Aside0.mk hbox; have GW267 := zW hg; replace HB := zS hb; have GE267 := GW267; clear hb hbox hg) | ((with_reducible refine gate_dst (N := 4) rfl ?_); refine be 4 #[.int .i64 a1_0, .int .i64 a1_1, .int .i64 a1_2, .int .i64 a1_3] 24 ?_; intro gb268 hg w6 hbox hb; have BK268 := Aside0.mk hbox; have GW268 := zW hg; replace HB := zS hb; have GE268 := GW268; have NB267_268 := zl BK267 hg rfl; have NB268_267 := zg BK267 hg rfl; replace BK267 := zb BK267 hb rfl; clear hb hbox hg) | ((with_reducible refine gate_dst (N := 6) rfl ?_); refine be 6 #[.int .i64 0, .int .i64 0, .int .i64 0, .int .i64 0] 24 ?_; intro gb269 hg w7 hbox hb; have BK269 := Aside0.mk hbox; have GW269 := zW hg; replace HB := zS hb; have GE269 := GW269; have NB267_269 := zl BK267 hg rfl; have NB269_267 := zg BK267 hg rfl; replace BK267 := zb BK267 hb rfl; have NB268_269 := zl BK268 hg rfl; have NB269_268 := zg BK268 hg rfl; replace BK268 := zb BK268 hb rfl; clear hb hbox hg) | ((with_reducible refine gate_dst (N := 7) rfl ?_); refine be 7 #[.int .i64 0, .int .i64 0, .int .i64 0, .int .i64 0] 24 ?_; intro gb270 hg w8 hbox hb; have BK270 := Aside0.mk hbox; have GW270 := zW hg; replace HB := zS hb; have GE270 := GW270; have NB267_270 := zl BK267 hg rfl; have NB270_267 := zg BK267 hg rfl; replace BK267 := zb BK267 hb rfl; have NB268_270 := zl BK268 hg rfl; have NB270_268 := zg BK268 hg rfl; replace BK268 := zb BK268 hb rfl; have NB269_270 := zl BK269 hg rfl; have NB270_269 := zg BK269 hg rfl; replace BK269 := zb BK269 hb rfl; clear hb hbox hg))
 (try simp only [Act.put, List.setIfInBounds_toArray, List.set_cons_zero, List.set_cons_succ])
 go_cut [] (fun wc => ∃ (kq : Nat) (x268000_3 : Int) (x268001_3 : Int) (x269000_3 : Int) (x269001_3 : Int), Aside0 (impl_below.j0 kq x268000_3 x268001_3 a0_2 a0_3 x269000_3 x269001_3 a1_2 a1_3 = some (r1, r2, r3, r4, r5, r6, r7, r8, r9)) ∧ Aside0 (kq ≤ k) ∧ Aside0 (wc.heap[gb267]? = some (.cells #[.int .i64 x268000_3, .int .i64 x268001_3, .int .i64 a0_2, .int .i64 a0_3] 24 (0, 0))) ∧ Aside0 (wc.heap[gb268]? = some (.cells #[.int .i64 x269000_3, .int .i64 x269001_3, .int .i64 a1_2, .int .i64 a1_3] 24 (0, 0))) ∧ Aside0 (wc.heap[gb269]? = some (.cells #[.int .i64 0, .int .i64 0, .int .i64 0, .int .i64 0] 24 (0, 0))) ∧ Aside0 (wc.heap[gb270]? = some (.cells #[.int .i64 0, .int .i64 0, .int .i64 0, .int .i64 0] 24 (0, 0))) ∧ Aside0 (Below w.heap.size w wc))
 case first =>
  have H := HC4.out
  clear HC4
  by_cases c9 : a2 = true
  ·subst c9
   rw [if_pos rfl] at H
   obtain ⟨ji10, hji10⟩ : ∃ j_ : Int, (mn a0_1 (wrap64 (a1_1 - 1))) = j_ := ⟨_, rfl⟩
   replace H : (impl_below.j0 k a0_0 ji10 a0_2 a0_3 (mx a1_0 (wrap64 (a0_0 + 1))) a1_1 a1_2 a1_3) = some (r1, r2, r3, r4, r5, r6, r7, r8, r9) := by first | (rw [hji10] at H; exact H) | (simp only [hji10] at H ⊢; exact H)
   have hji10_ : (if (wrap64 (a1_1 - 1)) < a0_1 then (wrap64 (a1_1 - 1)) else a0_1) = ji10 := hji10
   obtain ⟨ji11, hji11⟩ : ∃ j_ : Int, (mx a1_0 (wrap64 (a0_0 + 1))) = j_ := ⟨_, rfl⟩
   replace H : (impl_below.j0 k a0_0 ji10 a0_2 a0_3 ji11 a1_1 a1_2 a1_3) = some (r1, r2, r3, r4, r5, r6, r7, r8, r9) := by first | (rw [hji11] at H; exact H) | (simp only [hji11] at H ⊢; exact H)
   have hji11_ : (if a1_0 < (wrap64 (a0_0 + 1)) then (wrap64 (a0_0 + 1)) else a1_0) = ji11 := hji11
   have H' := Aside0.mk H
   clear H
   have hnb12 := NB267_268.out
   have hnc12 := NB268_267.out
   have hnb13 := NB267_269.out
   have hnc13 := NB269_267.out
   have hnb14 := NB267_270.out
   have hnc14 := NB270_267.out
   obtain ⟨hcz15_0, hcz15_1, hcz15_2, hcz15_3, hfz15_0, hfz15_1, hfz15_2, hfz15_3⟩ := zc4 BK267
   have hnb16 := NB268_269.out
   have hnc16 := NB269_268.out
   have hnb17 := NB268_270.out
   have hnc17 := NB270_268.out
   obtain ⟨hcz18_0, hcz18_1, hcz18_2, hcz18_3, hfz18_0, hfz18_1, hfz18_2, hfz18_3⟩ := zc4 BK268
   go_wp2
   go_meet
   case rel => exact ⟨_, (a0_0), (ji10), (ji11), (a1_1), H', ⟨by first | omega | exact Nat.le_refl _⟩, ⟨by refine fq ?_ NB267_268.out; refine bq ?_; refine blk_put (cs := #[.int .i64 a0_0, .int .i64 a0_1, .int .i64 a0_2, .int .i64 a0_3]) ?_ 1 _ rfl; exact bq BK267.out⟩, ⟨by refine bq ?_; refine blk_put (cs := #[.int .i64 a1_0, .int .i64 a1_1, .int .i64 a1_2, .int .i64 a1_3]) ?_ 0 _ rfl; refine fq ?_ NB268_267.out; exact bq BK268.out⟩, ⟨by refine fq ?_ NB269_268.out; refine fq ?_ NB269_267.out; exact bq BK269.out⟩, ⟨by refine fq ?_ NB270_268.out; refine fq ?_ NB270_267.out; exact bq BK270.out⟩, ⟨zB⟩⟩
  ·replace c9 := Bool.eq_false_iff.mpr c9
   subst c9
   rw [if_neg (show ¬ (false = true) by decide)] at H
   obtain ⟨ji19, hji19⟩ : ∃ j_ : Int, (mn a1_1 a0_1) = j_ := ⟨_, rfl⟩
   replace H : (impl_below.j0 k (mx a0_0 a1_0) a0_1 a0_2 a0_3 a1_0 ji19 a1_2 a1_3) = some (r1, r2, r3, r4, r5, r6, r7, r8, r9) := by first | (rw [hji19] at H; exact H) | (simp only [hji19] at H ⊢; exact H)
   have hji19_ : (if a0_1 < a1_1 then a0_1 else a1_1) = ji19 := hji19
   obtain ⟨ji20, hji20⟩ : ∃ j_ : Int, (mx a0_0 a1_0) = j_ := ⟨_, rfl⟩
   replace H : (impl_below.j0 k ji20 a0_1 a0_2 a0_3 a1_0 ji19 a1_2 a1_3) = some (r1, r2, r3, r4, r5, r6, r7, r8, r9) := by first | (rw [hji20] at H; exact H) | (simp only [hji20] at H ⊢; exact H)
   have hji20_ : (if a0_0 < a1_0 then a1_0 else a0_0) = ji20 := hji20
   have H' := Aside0.mk H
   clear H
   have hnb21 := NB268_267.out
   have hnc21 := NB267_268.out
   have hnb22 := NB268_269.out
   have hnc22 := NB269_268.out
   have hnb23 := NB268_270.out
   have hnc23 := NB270_268.out
   obtain ⟨hcz24_0, hcz24_1, hcz24_2, hcz24_3, hfz24_0, hfz24_1, hfz24_2, hfz24_3⟩ := zc4 BK268
   have hnb25 := NB267_269.out
   have hnc25 := NB269_267.out
   have hnb26 := NB267_270.out
   have hnc26 := NB270_267.out
   obtain ⟨hcz27_0, hcz27_1, hcz27_2, hcz27_3, hfz27_0, hfz27_1, hfz27_2, hfz27_3⟩ := zc4 BK267
   go_wp2
   go_meet
   case rel => exact ⟨_, (ji20), (a0_1), (a1_0), (ji19), H', ⟨by first | omega | exact Nat.le_refl _⟩, ⟨by refine bq ?_; refine blk_put (cs := #[.int .i64 a0_0, .int .i64 a0_1, .int .i64 a0_2, .int .i64 a0_3]) ?_ 0 _ rfl; refine fq ?_ NB267_268.out; exact bq BK267.out⟩, ⟨by refine fq ?_ NB268_267.out; refine bq ?_; refine blk_put (cs := #[.int .i64 a1_0, .int .i64 a1_1, .int .i64 a1_2, .int .i64 a1_3]) ?_ 1 _ rfl; exact bq BK268.out⟩, ⟨by refine fq ?_ NB269_267.out; refine fq ?_ NB269_268.out; exact bq BK269.out⟩, ⟨by refine fq ?_ NB270_267.out; refine fq ?_ NB270_268.out; exact bq BK270.out⟩, ⟨zB⟩⟩
 case rest =>
  clear HC4
  try clear c1
  try clear c2
  try clear p2
  try clear p6
  try clear c9
  try clear c12
  try clear c13
  try clear c14
  try clear c16
  try clear c17
  try clear c21
  try clear c22
  try clear c23
  try clear c25
  try clear c26
  try clear hcz15_0 hcz15_1 hcz15_2 hcz15_3 hfz15_0 hfz15_1 hfz15_2 hfz15_3
  try clear hcz18_0 hcz18_1 hcz18_2 hcz18_3 hfz18_0 hfz18_1 hfz18_2 hfz18_3
  try clear hcz24_0 hcz24_1 hcz24_2 hcz24_3 hfz24_0 hfz24_1 hfz24_2 hfz24_3
  try clear hcz27_0 hcz27_1 hcz27_2 hcz27_3 hfz27_0 hfz27_1 hfz27_2 hfz27_3
  obtain ⟨kq, x268000_3, x268001_3, x269000_3, x269001_3, HA, HJ3, BK267, BK268, BK269, BK270, HB⟩ := hcut
  cases kq with
  | zero => exact absurd HA.out (by simp [impl_below.j0])
  | succ kj3 =>
   have H := HA.out
   clear HA
   simp only [impl_below.j0] at H
   have HC28 := Aside0.mk H
   clear H
   go_upto_region 6 with (fail)
   go_cut [43] (fun v43 wc => ∃ (kq : Nat) (x43_27 : Bool), v43 = .bool x43_27 ∧ Aside0 (impl_below.j1 kq x43_27 x268000_3 x268001_3 a0_2 a0_3 x269000_3 x269001_3 a1_2 a1_3 = some (r1, r2, r3, r4, r5, r6, r7, r8, r9)) ∧ Aside0 (kq ≤ kj3) ∧ Aside0 (wc.heap[gb267]? = some (.cells #[.int .i64 x268000_3, .int .i64 x268001_3, .int .i64 a0_2, .int .i64 a0_3] 24 (0, 0))) ∧ Aside0 (wc.heap[gb268]? = some (.cells #[.int .i64 x269000_3, .int .i64 x269001_3, .int .i64 a1_2, .int .i64 a1_3] 24 (0, 0))) ∧ Aside0 (wc.heap[gb269]? = some (.cells #[.int .i64 0, .int .i64 0, .int .i64 0, .int .i64 0] 24 (0, 0))) ∧ Aside0 (wc.heap[gb270]? = some (.cells #[.int .i64 0, .int .i64 0, .int .i64 0, .int .i64 0] 24 (0, 0))) ∧ Aside0 (Below w.heap.size w wc))
   case first =>
    have H := HC28.out
    clear HC28
    replace H := Option.bind_eq_some_iff.mp H
    obtain ⟨t271, A290, H⟩ := H
    try dsimp only at H
    have A29 := Aside0.mk A290
    clear A290
    by_cases c30 : t271 = true
    ·subst c30
     rw [if_pos rfl] at H
     replace H := Option.bind_eq_some_iff.mp H
     obtain ⟨t272, A310, H⟩ := H
     try dsimp only at H
     have A31 := Aside0.mk A310
     clear A310
     have H' := Aside0.mk H
     clear H
     have hnb32 := NB267_268.out
     have hnc32 := NB268_267.out
     have hnb33 := NB267_269.out
     have hnc33 := NB269_267.out
     have hnb34 := NB267_270.out
     have hnc34 := NB270_267.out
     obtain ⟨hcz35_0, hcz35_1, hcz35_2, hcz35_3, hfz35_0, hfz35_1, hfz35_2, hfz35_3⟩ := zc4 BK267
     go_wp2_with (first | ((with_reducible refine gate_callee (f := 14) rfl ?_); refine gl 37 Try.func14 #[.agg #[.int .i64 x268000_3, .int .i64 x268001_3, .int .i64 a0_2, .int .i64 a0_3]] ?_; (with_reducible refine (impl_Range_some.calls kj3 x268000_3 x268001_3 a0_2 a0_3 true _ A29.out).mono ?_); rintro e w36 ⟨rfl, hb⟩; refine ⟨_, rfl, ?_⟩; replace BK267 := zb BK267 hb rfl; replace BK268 := zb BK268 hb rfl; replace BK269 := zb BK269 hb rfl; replace BK270 := zb BK270 hb rfl; replace HB := zS hb; try clear hb; have hnb37 := NB268_269.out; have hnc37 := NB269_268.out; have hnb38 := NB268_270.out; have hnc38 := NB270_268.out; obtain ⟨hcz39_0, hcz39_1, hcz39_2, hcz39_3, hfz39_0, hfz39_1, hfz39_2, hfz39_3⟩ := zc4 BK268) | (go_at_call 14; (with_reducible refine (impl_Range_some.calls kj3 x269000_3 x269001_3 a1_2 a1_3 t272 _ A31.out).mono ?_); rintro e w40 ⟨rfl, hb⟩; replace BK267 := zb BK267 hb rfl; replace BK268 := zb BK268 hb rfl; replace BK269 := zb BK269 hb rfl; replace BK270 := zb BK270 hb rfl; replace HB := zS hb; try clear hb))
     go_meet
     case rel => exact ⟨_, (!t272), (by first | rfl | (simp; done) | (simp [*]; done)), H', ⟨by have := HJ3.out; first | omega | exact Nat.le_refl _⟩, ⟨by exact bq BK267.out⟩, ⟨by exact bq BK268.out⟩, ⟨by exact bq BK269.out⟩, ⟨by exact bq BK270.out⟩, ⟨zB⟩⟩
    ·replace c30 := Bool.eq_false_iff.mpr c30
     subst c30
     rw [if_neg (show ¬ (false = true) by decide)] at H
     have H' := Aside0.mk H
     clear H
     have hnb41 := NB267_268.out
     have hnc41 := NB268_267.out
     have hnb42 := NB267_269.out
     have hnc42 := NB269_267.out
     have hnb43 := NB267_270.out
     have hnc43 := NB270_267.out
     obtain ⟨hcz44_0, hcz44_1, hcz44_2, hcz44_3, hfz44_0, hfz44_1, hfz44_2, hfz44_3⟩ := zc4 BK267
     go_wp2_with (first | ((with_reducible refine gate_callee (f := 14) rfl ?_); refine gl 37 Try.func14 #[.agg #[.int .i64 x268000_3, .int .i64 x268001_3, .int .i64 a0_2, .int .i64 a0_3]] ?_; (with_reducible refine (impl_Range_some.calls kj3 x268000_3 x268001_3 a0_2 a0_3 false _ A29.out).mono ?_); rintro e w45 ⟨rfl, hb⟩; refine ⟨_, rfl, ?_⟩; replace BK267 := zb BK267 hb rfl; replace BK268 := zb BK268 hb rfl; replace BK269 := zb BK269 hb rfl; replace BK270 := zb BK270 hb rfl; replace HB := zS hb; try clear hb))
     go_meet
     case rel => exact ⟨_, (true), (by first | rfl | (simp; done) | (simp [*]; done)), H', ⟨by have := HJ3.out; first | omega | exact Nat.le_refl _⟩, ⟨by exact bq BK267.out⟩, ⟨by exact bq BK268.out⟩, ⟨by exact bq BK269.out⟩, ⟨by exact bq BK270.out⟩, ⟨zB⟩⟩
   case rest =>
    clear HC28
    try clear c1
    try clear c2
    try clear p2 p2
    try clear c3
    try clear c4
    try clear p6 p6
    try clear c9
    try clear c12
    try clear c13
    try clear c14
    try clear c16
    try clear c17
    try clear c21
    try clear c22
    try clear c23
    try clear c25
    try clear c26
    try clear c28
    try clear c30
    try clear c32
    try clear c33
    try clear c34
    try clear c37
    try clear c38
    try clear c41
    try clear c42
    try clear c43
    try clear hcz15_0 hcz15_1 hcz15_2 hcz15_3 hfz15_0 hfz15_1 hfz15_2 hfz15_3
    try clear hcz18_0 hcz18_1 hcz18_2 hcz18_3 hfz18_0 hfz18_1 hfz18_2 hfz18_3
    try clear hcz24_0 hcz24_1 hcz24_2 hcz24_3 hfz24_0 hfz24_1 hfz24_2 hfz24_3
    try clear hcz27_0 hcz27_1 hcz27_2 hcz27_3 hfz27_0 hfz27_1 hfz27_2 hfz27_3
    try clear hcz35_0 hcz35_1 hcz35_2 hcz35_3 hfz35_0 hfz35_1 hfz35_2 hfz35_3
    try clear hcz39_0 hcz39_1 hcz39_2 hcz39_3 hfz39_0 hfz39_1 hfz39_2 hfz39_3
    try clear hcz44_0 hcz44_1 hcz44_2 hcz44_3 hfz44_0 hfz44_1 hfz44_2 hfz44_3
    obtain ⟨kq, x43_27, rfl, HA, HJ27, BK267, BK268, BK269, BK270, HB⟩ := hcut
    cases kq with
    | zero => exact absurd HA.out (by simp [impl_below.j1])
    | succ kj27 =>
     have H := HA.out
     clear HA
     simp only [impl_below.j1] at H
     by_cases c46 : x43_27 = true
     ·subst c46
      rw [if_pos rfl] at H
      replace H := Option.bind_eq_some_iff.mp H
      obtain ⟨⟨t273, t274, t275, t276⟩, A470, H⟩ := H
      try dsimp only at H
      have A47 := Aside0.mk A470
      clear A470
      replace H := Option.bind_eq_some_iff.mp H
      obtain ⟨⟨t277, t278, t279, t280⟩, A480, H⟩ := H
      try dsimp only at H
      have A48 := Aside0.mk A480
      clear A480
      simp only [Option.some.injEq, Prod.mk.injEq] at H
      obtain ⟨rfl, rfl, rfl, rfl, rfl, rfl, rfl, rfl, rfl⟩ := H
      go_wp2_with (first | ((with_reducible refine gate_callee (f := 15) rfl ?_); refine gl 44 Try.func15 #[] ?_; (with_reducible refine (impl_noRange.calls  t273 t274 t275 t276 _ A47.out).mono ?_); rintro e w49 ⟨rfl, hb⟩; refine ⟨_, rfl, ?_⟩; replace BK267 := zb BK267 hb rfl; replace BK268 := zb BK268 hb rfl; replace BK269 := zb BK269 hb rfl; replace BK270 := zb BK270 hb rfl; replace HB := zS hb; try clear hb) | ((with_reducible refine gate_callee (f := 15) rfl ?_); refine gl 45 Try.func15 #[] ?_; (with_reducible refine (impl_noRange.calls  t277 t278 t279 t280 _ A48.out).mono ?_); rintro e w50 ⟨rfl, hb⟩; refine ⟨_, rfl, ?_⟩; replace BK267 := zb BK267 hb rfl; replace BK268 := zb BK268 hb rfl; replace BK269 := zb BK269 hb rfl; replace BK270 := zb BK270 hb rfl; replace HB := zS hb; try clear hb; have hnb51 := NB269_267.out; have hnc51 := NB267_269.out; have hnb52 := NB269_268.out; have hnc52 := NB268_269.out; have hnb53 := NB269_270.out; have hnc53 := NB270_269.out; obtain ⟨hcz54_0, hcz54_1, hcz54_2, hcz54_3, hfz54_0, hfz54_1, hfz54_2, hfz54_3⟩ := zc4 BK269; have hnb55 := NB270_267.out; have hnc55 := NB267_270.out; have hnb56 := NB270_268.out; have hnc56 := NB268_270.out; obtain ⟨hcz57_0, hcz57_1, hcz57_2, hcz57_3, hfz57_0, hfz57_1, hfz57_2, hfz57_3⟩ := zc4 BK270))
      refine bodyPost_ret (results_list (rs := [.cell 6 24, .cell 7 24, .tmp 8]) rfl (by simp) (.cell gb269 24 #[.int .i64 t273, .int .i64 t274, .int .i64 t275, .int .i64 t276] (0, 0) _ rfl (by refine fq ?_ NB269_270.out; refine fq ?_ NB269_270.out; refine fq ?_ NB269_270.out; refine fq ?_ NB269_270.out; refine bq ?_; refine blk_put (cs := #[.int .i64 t273, .int .i64 t274, .int .i64 t275, .int .i64 0]) ?_ 3 _ rfl; refine bq ?_; refine blk_put (cs := #[.int .i64 t273, .int .i64 t274, .int .i64 0, .int .i64 0]) ?_ 2 _ rfl; refine bq ?_; refine blk_put (cs := #[.int .i64 t273, .int .i64 0, .int .i64 0, .int .i64 0]) ?_ 1 _ rfl; refine bq ?_; refine blk_put (cs := #[.int .i64 0, .int .i64 0, .int .i64 0, .int .i64 0]) ?_ 0 _ rfl; exact bq BK269.out) Try.underlying24 rfl (by kernel_rfl) (.cell gb270 24 #[.int .i64 t277, .int .i64 t278, .int .i64 t279, .int .i64 t280] (0, 0) _ rfl (by refine bq ?_; refine blk_put (cs := #[.int .i64 t277, .int .i64 t278, .int .i64 t279, .int .i64 0]) ?_ 3 _ rfl; refine bq ?_; refine blk_put (cs := #[.int .i64 t277, .int .i64 t278, .int .i64 0, .int .i64 0]) ?_ 2 _ rfl; refine bq ?_; refine blk_put (cs := #[.int .i64 t277, .int .i64 0, .int .i64 0, .int .i64 0]) ?_ 1 _ rfl; refine bq ?_; refine blk_put (cs := #[.int .i64 0, .int .i64 0, .int .i64 0, .int .i64 0]) ?_ 0 _ rfl; refine fq ?_ NB270_269.out; refine fq ?_ NB270_269.out; refine fq ?_ NB270_269.out; refine fq ?_ NB270_269.out; exact bq BK270.out) Try.underlying24 rfl (by kernel_rfl) (.tmp .nil)))) rfl ?_
      exact ⟨zR, zB⟩
     ·replace c46 := Bool.eq_false_iff.mpr c46
      subst c46
      rw [if_neg (show ¬ (false = true) by decide)] at H
      replace H := Option.bind_eq_some_iff.mp H
      obtain ⟨⟨t281, t282, t283, t284⟩, A580, H⟩ := H
      try dsimp only at H
      have A58 := Aside0.mk A580
      clear A580
      replace H := Option.bind_eq_some_iff.mp H
      obtain ⟨⟨t285, t286, t287, t288⟩, A590, H⟩ := H
      try dsimp only at H
      have A59 := Aside0.mk A590
      clear A590
      simp only [Option.some.injEq, Prod.mk.injEq] at H
      obtain ⟨rfl, rfl, rfl, rfl, rfl, rfl, rfl, rfl, rfl⟩ := H
      try go_wp2
      replace BK267 := Aside0.mk (blk_drew BK267.out)
      replace BK268 := Aside0.mk (blk_drew BK268.out)
      replace BK269 := Aside0.mk (blk_drew BK269.out)
      replace BK270 := Aside0.mk (blk_drew BK270.out)
      replace HB := Aside0.mk (below_drew1 HB.out)
      refine start_ (n := 7) (S := fun w' => w'.cell? ⟨gb267, 0, none⟩ = some (.int .i64 x268000_3) ∧ w'.cell? ⟨gb267, 1, none⟩ = some (.int .i64 x268001_3) ∧ w'.cell? ⟨gb267, 2, none⟩ = some (.int .i64 a0_2) ∧ w'.cell? ⟨gb267, 3, none⟩ = some (.int .i64 a0_3) ∧ w'.cell? ⟨gb268, 0, none⟩ = some (.int .i64 x269000_3) ∧ w'.cell? ⟨gb268, 1, none⟩ = some (.int .i64 x269001_3) ∧ w'.cell? ⟨gb268, 2, none⟩ = some (.int .i64 a1_2) ∧ w'.cell? ⟨gb268, 3, none⟩ = some (.int .i64 a1_3)) (ds := []) #[false, false, false, false, false, false, false] (by kernel_rfl) rfl rfl ⟨(blk_cell BK267.out 0).trans rfl, (blk_cell BK267.out 1).trans rfl, (blk_cell BK267.out 2).trans rfl, (blk_cell BK267.out 3).trans rfl, (blk_cell BK268.out 0).trans rfl, (blk_cell BK268.out 1).trans rfl, (blk_cell BK268.out 2).trans rfl, (blk_cell BK268.out 3).trans rfl⟩ (fun hHeld => ?_)
      generalize wc.drew = w60 at BK267 BK268 BK269 BK270 HB hHeld ⊢
      refine tz 0 46 ?_
      refine tz 2 48 ?_
      refine oz 1 47 fun K hK => ?_
      refine gz Try.func27 #[.agg #[.int .i64 x268000_3, .int .i64 x268001_3, .int .i64 a0_2, .int .i64 a0_3]] ?_
      with_reducible refine (impl_Range_tidy.calls x268000_3 x268001_3 a0_2 a0_3 t281 t282 t283 t284 _ A58.out).mono ?_
      rintro e w61 ⟨rfl, hb⟩
      refine ⟨_, rfl, ?_⟩
      replace BK267 := zb BK267 hb rfl
      replace BK268 := zb BK268 hb rfl
      replace BK269 := zb BK269 hb rfl
      replace BK270 := zb BK270 hb rfl
      replace HB := zS hb
      try clear hb
      refine hK.out _ _ ⟨(blk_cell BK267.out 0).trans rfl, (blk_cell BK267.out 1).trans rfl, (blk_cell BK267.out 2).trans rfl, (blk_cell BK267.out 3).trans rfl, (blk_cell BK268.out 0).trans rfl, (blk_cell BK268.out 1).trans rfl, (blk_cell BK268.out 2).trans rfl, (blk_cell BK268.out 3).trans rfl⟩ (fun hHeld => ?_)
      clear hK K
      refine nz ?_
      refine oz 3 49 fun K hK => ?_
      refine gz Try.func27 #[.agg #[.int .i64 x269000_3, .int .i64 x269001_3, .int .i64 a1_2, .int .i64 a1_3]] ?_
      with_reducible refine (impl_Range_tidy.calls x269000_3 x269001_3 a1_2 a1_3 t285 t286 t287 t288 _ A59.out).mono ?_
      rintro e w62 ⟨rfl, hb⟩
      refine ⟨_, rfl, ?_⟩
      replace BK267 := zb BK267 hb rfl
      replace BK268 := zb BK268 hb rfl
      replace BK269 := zb BK269 hb rfl
      replace BK270 := zb BK270 hb rfl
      replace HB := zS hb
      try clear hb
      refine hK.out _ _ ⟨(blk_cell BK267.out 0).trans rfl, (blk_cell BK267.out 1).trans rfl, (blk_cell BK267.out 2).trans rfl, (blk_cell BK267.out 3).trans rfl, (blk_cell BK268.out 0).trans rfl, (blk_cell BK268.out 1).trans rfl, (blk_cell BK268.out 2).trans rfl, (blk_cell BK268.out 3).trans rfl⟩ (fun hHeld => ?_)
      clear hK K
      refine nz ?_
      refine oN 4 fun K hK => ?_
      have hs63 : w62.cell? ⟨gb269, 0, none⟩ = some (.int .i64 0) := (blk_cell BK269.out 0).trans rfl
      have hfs63 := blk_frozen BK269.out 0
      have hns63_0 := NB267_269.out
      have hns63_1 := NB268_269.out
      have hns63_3 := NB270_269.out
      have hms63_0 := NB269_267.out
      have hms63_1 := NB269_268.out
      have hms63_3 := NB269_270.out
      have hs64 : w62.cell? ⟨gb269, 1, none⟩ = some (.int .i64 0) := (blk_cell BK269.out 1).trans rfl
      have hfs64 := blk_frozen BK269.out 1
      have hns64_0 := NB267_269.out
      have hns64_1 := NB268_269.out
      have hns64_3 := NB270_269.out
      have hms64_0 := NB269_267.out
      have hms64_1 := NB269_268.out
      have hms64_3 := NB269_270.out
      have hs65 : w62.cell? ⟨gb269, 2, none⟩ = some (.int .i64 0) := (blk_cell BK269.out 2).trans rfl
      have hfs65 := blk_frozen BK269.out 2
      have hns65_0 := NB267_269.out
      have hns65_1 := NB268_269.out
      have hns65_3 := NB270_269.out
      have hms65_0 := NB269_267.out
      have hms65_1 := NB269_268.out
      have hms65_3 := NB269_270.out
      have hs66 : w62.cell? ⟨gb269, 3, none⟩ = some (.int .i64 0) := (blk_cell BK269.out 3).trans rfl
      have hfs66 := blk_frozen BK269.out 3
      have hns66_0 := NB267_269.out
      have hns66_1 := NB268_269.out
      have hns66_3 := NB270_269.out
      have hms66_0 := NB269_267.out
      have hms66_1 := NB269_268.out
      have hms66_3 := NB269_270.out
      refine skip_ (w1 := ?_) (by rfl) rfl ?_ ?_
      rotate_left
      ·go_simp
       rfl
      refine hK.out _ _ ⟨((cell_far (p := ⟨gb269, _, none⟩) NB267_269.out _).trans (((cell_far (p := ⟨gb269, _, none⟩) NB267_269.out _).trans (((cell_far (p := ⟨gb269, _, none⟩) NB267_269.out _).trans (((cell_far (p := ⟨gb269, _, none⟩) NB267_269.out _).trans (hHeld.1)))))))), ((cell_far (p := ⟨gb269, _, none⟩) NB267_269.out _).trans (((cell_far (p := ⟨gb269, _, none⟩) NB267_269.out _).trans (((cell_far (p := ⟨gb269, _, none⟩) NB267_269.out _).trans (((cell_far (p := ⟨gb269, _, none⟩) NB267_269.out _).trans (hHeld.2.1)))))))), ((cell_far (p := ⟨gb269, _, none⟩) NB267_269.out _).trans (((cell_far (p := ⟨gb269, _, none⟩) NB267_269.out _).trans (((cell_far (p := ⟨gb269, _, none⟩) NB267_269.out _).trans (((cell_far (p := ⟨gb269, _, none⟩) NB267_269.out _).trans (hHeld.2.2.1)))))))), ((cell_far (p := ⟨gb269, _, none⟩) NB267_269.out _).trans (((cell_far (p := ⟨gb269, _, none⟩) NB267_269.out _).trans (((cell_far (p := ⟨gb269, _, none⟩) NB267_269.out _).trans (((cell_far (p := ⟨gb269, _, none⟩) NB267_269.out _).trans (hHeld.2.2.2.1)))))))), ((cell_far (p := ⟨gb269, _, none⟩) NB268_269.out _).trans (((cell_far (p := ⟨gb269, _, none⟩) NB268_269.out _).trans (((cell_far (p := ⟨gb269, _, none⟩) NB268_269.out _).trans (((cell_far (p := ⟨gb269, _, none⟩) NB268_269.out _).trans (hHeld.2.2.2.2.1)))))))), ((cell_far (p := ⟨gb269, _, none⟩) NB268_269.out _).trans (((cell_far (p := ⟨gb269, _, none⟩) NB268_269.out _).trans (((cell_far (p := ⟨gb269, _, none⟩) NB268_269.out _).trans (((cell_far (p := ⟨gb269, _, none⟩) NB268_269.out _).trans (hHeld.2.2.2.2.2.1)))))))), ((cell_far (p := ⟨gb269, _, none⟩) NB268_269.out _).trans (((cell_far (p := ⟨gb269, _, none⟩) NB268_269.out _).trans (((cell_far (p := ⟨gb269, _, none⟩) NB268_269.out _).trans (((cell_far (p := ⟨gb269, _, none⟩) NB268_269.out _).trans (hHeld.2.2.2.2.2.2.1)))))))), ((cell_far (p := ⟨gb269, _, none⟩) NB268_269.out _).trans (((cell_far (p := ⟨gb269, _, none⟩) NB268_269.out _).trans (((cell_far (p := ⟨gb269, _, none⟩) NB268_269.out _).trans (((cell_far (p := ⟨gb269, _, none⟩) NB268_269.out _).trans (hHeld.2.2.2.2.2.2.2))))))))⟩ (fun hHeld => ?_)
      clear hK K
      refine oN 5 fun K hK => ?_
      have hs67 : w62.cell? ⟨gb270, 0, none⟩ = some (.int .i64 0) := (blk_cell BK270.out 0).trans rfl
      have hfs67 := blk_frozen BK270.out 0
      have hns67_0 := NB267_270.out
      have hns67_1 := NB268_270.out
      have hns67_2 := NB269_270.out
      have hms67_0 := NB270_267.out
      have hms67_1 := NB270_268.out
      have hms67_2 := NB270_269.out
      have hs68 : w62.cell? ⟨gb270, 1, none⟩ = some (.int .i64 0) := (blk_cell BK270.out 1).trans rfl
      have hfs68 := blk_frozen BK270.out 1
      have hns68_0 := NB267_270.out
      have hns68_1 := NB268_270.out
      have hns68_2 := NB269_270.out
      have hms68_0 := NB270_267.out
      have hms68_1 := NB270_268.out
      have hms68_2 := NB270_269.out
      have hs69 : w62.cell? ⟨gb270, 2, none⟩ = some (.int .i64 0) := (blk_cell BK270.out 2).trans rfl
      have hfs69 := blk_frozen BK270.out 2
      have hns69_0 := NB267_270.out
      have hns69_1 := NB268_270.out
      have hns69_2 := NB269_270.out
      have hms69_0 := NB270_267.out
      have hms69_1 := NB270_268.out
      have hms69_2 := NB270_269.out
      have hs70 : w62.cell? ⟨gb270, 3, none⟩ = some (.int .i64 0) := (blk_cell BK270.out 3).trans rfl
      have hfs70 := blk_frozen BK270.out 3
      have hns70_0 := NB267_270.out
      have hns70_1 := NB268_270.out
      have hns70_2 := NB269_270.out
      have hms70_0 := NB270_267.out
      have hms70_1 := NB270_268.out
      have hms70_2 := NB270_269.out
      refine skip_ (w1 := ?_) (by rfl) rfl ?_ ?_
      rotate_left
      ·go_simp
       rfl
      refine hK.out _ _ ⟨((cell_far (p := ⟨gb270, _, none⟩) NB267_270.out _).trans (((cell_far (p := ⟨gb270, _, none⟩) NB267_270.out _).trans (((cell_far (p := ⟨gb270, _, none⟩) NB267_270.out _).trans (((cell_far (p := ⟨gb270, _, none⟩) NB267_270.out _).trans (hHeld.1)))))))), ((cell_far (p := ⟨gb270, _, none⟩) NB267_270.out _).trans (((cell_far (p := ⟨gb270, _, none⟩) NB267_270.out _).trans (((cell_far (p := ⟨gb270, _, none⟩) NB267_270.out _).trans (((cell_far (p := ⟨gb270, _, none⟩) NB267_270.out _).trans (hHeld.2.1)))))))), ((cell_far (p := ⟨gb270, _, none⟩) NB267_270.out _).trans (((cell_far (p := ⟨gb270, _, none⟩) NB267_270.out _).trans (((cell_far (p := ⟨gb270, _, none⟩) NB267_270.out _).trans (((cell_far (p := ⟨gb270, _, none⟩) NB267_270.out _).trans (hHeld.2.2.1)))))))), ((cell_far (p := ⟨gb270, _, none⟩) NB267_270.out _).trans (((cell_far (p := ⟨gb270, _, none⟩) NB267_270.out _).trans (((cell_far (p := ⟨gb270, _, none⟩) NB267_270.out _).trans (((cell_far (p := ⟨gb270, _, none⟩) NB267_270.out _).trans (hHeld.2.2.2.1)))))))), ((cell_far (p := ⟨gb270, _, none⟩) NB268_270.out _).trans (((cell_far (p := ⟨gb270, _, none⟩) NB268_270.out _).trans (((cell_far (p := ⟨gb270, _, none⟩) NB268_270.out _).trans (((cell_far (p := ⟨gb270, _, none⟩) NB268_270.out _).trans (hHeld.2.2.2.2.1)))))))), ((cell_far (p := ⟨gb270, _, none⟩) NB268_270.out _).trans (((cell_far (p := ⟨gb270, _, none⟩) NB268_270.out _).trans (((cell_far (p := ⟨gb270, _, none⟩) NB268_270.out _).trans (((cell_far (p := ⟨gb270, _, none⟩) NB268_270.out _).trans (hHeld.2.2.2.2.2.1)))))))), ((cell_far (p := ⟨gb270, _, none⟩) NB268_270.out _).trans (((cell_far (p := ⟨gb270, _, none⟩) NB268_270.out _).trans (((cell_far (p := ⟨gb270, _, none⟩) NB268_270.out _).trans (((cell_far (p := ⟨gb270, _, none⟩) NB268_270.out _).trans (hHeld.2.2.2.2.2.2.1)))))))), ((cell_far (p := ⟨gb270, _, none⟩) NB268_270.out _).trans (((cell_far (p := ⟨gb270, _, none⟩) NB268_270.out _).trans (((cell_far (p := ⟨gb270, _, none⟩) NB268_270.out _).trans (((cell_far (p := ⟨gb270, _, none⟩) NB268_270.out _).trans (hHeld.2.2.2.2.2.2.2))))))))⟩ (fun hHeld => ?_)
      clear hK K
      refine pz 6 8 ?_
      refine done_ (by kernel_rfl) ?_
      try go_wp2
      refine bodyPost_ret (results_list (rs := [.cell 6 24, .cell 7 24, .tmp 8]) rfl (by simp) (.cell gb269 24 #[.int .i64 t281, .int .i64 t282, .int .i64 t283, .int .i64 t284] (0, 0) _ rfl (by refine fq ?_ NB269_270.out; refine fq ?_ NB269_270.out; refine fq ?_ NB269_270.out; refine fq ?_ NB269_270.out; refine bq ?_; refine blk_put (cs := #[.int .i64 t281, .int .i64 t282, .int .i64 t283, .int .i64 0]) ?_ 3 _ rfl; refine bq ?_; refine blk_put (cs := #[.int .i64 t281, .int .i64 t282, .int .i64 0, .int .i64 0]) ?_ 2 _ rfl; refine bq ?_; refine blk_put (cs := #[.int .i64 t281, .int .i64 0, .int .i64 0, .int .i64 0]) ?_ 1 _ rfl; refine bq ?_; refine blk_put (cs := #[.int .i64 0, .int .i64 0, .int .i64 0, .int .i64 0]) ?_ 0 _ rfl; exact bq BK269.out) Try.underlying24 rfl (by kernel_rfl) (.cell gb270 24 #[.int .i64 t285, .int .i64 t286, .int .i64 t287, .int .i64 t288] (0, 0) _ rfl (by refine bq ?_; refine blk_put (cs := #[.int .i64 t285, .int .i64 t286, .int .i64 t287, .int .i64 0]) ?_ 3 _ rfl; refine bq ?_; refine blk_put (cs := #[.int .i64 t285, .int .i64 t286, .int .i64 0, .int .i64 0]) ?_ 2 _ rfl; refine bq ?_; refine blk_put (cs := #[.int .i64 t285, .int .i64 0, .int .i64 0, .int .i64 0]) ?_ 1 _ rfl; refine bq ?_; refine blk_put (cs := #[.int .i64 0, .int .i64 0, .int .i64 0, .int .i64 0]) ?_ 0 _ rfl; refine fq ?_ NB270_269.out; refine fq ?_ NB270_269.out; refine fq ?_ NB270_269.out; refine fq ?_ NB270_269.out; exact bq BK270.out) Try.underlying24 rfl (by kernel_rfl) (.tmp .nil)))) rfl ?_
      exact ⟨zR, zB⟩

end Go.Proofs.Ytjengfiaphgjbaa.Q
