/- The machine's side of this seat's laws: Go functions as Lean functions, and their contracts. By a program of this work over the kit's print. -/
import Derived.Test.YthhcdkmfpdpieaaQ0
import Derived.Test.YthhcdkmfpdpieaaQ1
import Derived.Test.YthhcdkmfpdpieaaQ2
import Derived.Test.YthhcdkmfpdpieaaQ3
import Derived.Test.YthhcdkmfpdpieaaQ13
import Derived.Test.YthhcdkmfpdpieaaQ14
import Derived.Test.YthhcdkmfpdpieaaQ16
import Derived.Test.YthhcdkmfpdpieaaQ17
namespace Go.Proofs.Ythhcdkmfpdpieaa.Q
open Go.RowKit Go.Proofs.YthhcdkmfpdpieaaW.PrintWords Go.Proofs.YthhcdkmfpdpieaaW.PrintLast Go.Proofs.YthhcdkmfpdpieaaW.PrintMore
attribute [local go_sem] max2_int min2_int max_two min_two max_three min_three max_four min_four Go.Proofs.YthhcdkmfpdpieaaN.not_i64 Go.Proofs.YthhcdkmfpdpieaaN.isSome_setCell   -- for this text's walks alone
set_option linter.unusedVariables false
set_option linter.unusedSimpArgs false

attribute [local go_sem high] eqA24
/-! ### spec_DrawInsPut: function 8 -/
def spec_DrawInsPut.f (k : Nat) (l0 : List Int) : Option (Int × Int × Int × Int × Int × Int) := (spec_l20Open.f l0).bind fun bt490 => ((spec_l20Ins.f k bt490.1 bt490.2).bind fun bt493 => (some (bt493.1, bt493.2.1, bt493.2.2.1, bt493.2.2.2.1, bt493.2.2.2.2.1, bt493.2.2.2.2.2.1)))

set_option maxHeartbeats 8000000 in
set_option maxRecDepth 100000 in
theorem spec_DrawInsPut.calls (k : Nat) (A0 : Option Addr) (c0 : Nat) (l0 : List Int) (r1 : Int) (r2 : Int) (r3 : Int) (r4 : Int) (r5 : Int) (r6 : Int) (w : World) (hr0 : Kd.C (Kd.int .u8) w A0 l0.length l0) (hc0 : l0.length ≤ c0) (h : spec_DrawInsPut.f k l0 = some (r1, r2, r3, r4, r5, r6)) :
  Calls Try.prog 8 #[.slice A0 l0.length c0] w fun e w' => e = .returned (.agg #[.int .i64 r1, .int .i64 r2, .int .i64 r3, .int .i64 r4, .int .i64 r5, .int .i64 r6]) ∧ Below w.heap.size w w' := by
 have hu24 := Try.underlying24
 have HR0 := Aside0.mk hr0
 have HC0 := Aside0.mk hc0
 clear hr0 hc0
 have HB := Aside0.mk (Below.refl w.heap.size w)
 have H : ((spec_l20Open.f l0).bind fun bt490 => ((spec_l20Ins.f k bt490.1 bt490.2).bind fun bt493 => (some (bt493.1, bt493.2.1, bt493.2.2.1, bt493.2.2.2.1, bt493.2.2.2.2.1, bt493.2.2.2.2.2.1)))) = some (r1, r2, r3, r4, r5, r6) := h
 clear h
 replace H := Option.bind_eq_some_iff.mp H
 obtain ⟨⟨t490, t491⟩, A20, H⟩ := H
 try dsimp only at H
 have A2 := Aside0.mk A20
 clear A20
 replace H := Option.bind_eq_some_iff.mp H
 obtain ⟨⟨t493, t494, t495, t496, t497, t498, t499⟩, A30, H⟩ := H
 try dsimp only at H
 have A3 := Aside0.mk A30
 clear A30
 simp only [Option.some.injEq, Prod.mk.injEq] at H
 obtain ⟨rfl, rfl, rfl, rfl, rfl, rfl⟩ := H
 go_enter Try.func8, Try.ntmps8
 go_wp2_with (first | ((with_reducible refine gate_dst (N := 2) rfl ?_); refine be 2 #[.int .i64 0, .int .i64 0, .int .i64 0, .int .i64 0, .int .i64 0, .int .i64 0] 24 ?_; intro gb489 hg w4 hbox hb; have BK489 := Aside0.mk hbox; have GW489 := zW hg; replace HB := zS hb; have GE489 := GW489; clear hb hbox hg) | ((with_reducible refine gate_callee (f := 27) rfl ?_); refine gl 4 Try.func27 #[.slice A0 l0.length c0] ?_; (with_reducible refine (spec_l20Open.calls _ _ l0 t490 t491 w _ ?side1 ?side2 ?side3 A2.out).mono ?_); (case side1 => repeat (first | (with_reducible first | exact HB.out | apply below_alloc | apply pw_below_drewN | apply below_drew1 | refine below_set ?_ GE489.out) | exact HB.out)); (case side2 => exact HR0.out); (case side3 => exact HC0.out); rintro e w5 ⟨g492, rfl, hi, hb, hb2⟩; refine ⟨_, rfl, ?_⟩; replace HB := Aside0.mk hb; have HI492 := Aside0.mk hi; have NB492_489 := Aside0.mk (IsS61.ne_blk hi (blk_below (g := gb489) (o := .cells #[.int .i64 0, .int .i64 0, .int .i64 0, .int .i64 0, .int .i64 0, .int .i64 0] 24 (0, 0)) (by exact bq BK489.out) hb2) (by decide)); have NB489_492 := Aside0.mk (Ne.symm (IsS61.ne_blk hi (blk_below (g := gb489) (o := .cells #[.int .i64 0, .int .i64 0, .int .i64 0, .int .i64 0, .int .i64 0, .int .i64 0] 24 (0, 0)) (by exact bq BK489.out) hb2) (by decide))); replace BK489 := zq BK489 hb2; (try clear hb); (try clear hb2); (try clear hk); (try clear hi)) | ((with_reducible refine gate_callee (f := 26) rfl ?_); refine gl 5 Try.func26 #[.pointer (some ⟨g492, 0, none⟩)] ?_; (with_reducible refine (spec_l20Ins.calls k g492 t490 t491 t493 t494 t495 t496 t497 t498 t499 w _ ?side1 ?side2 A3.out).mono ?_); (case side1 => repeat (first | (with_reducible first | exact HI492.out | apply IsS61.alloc | apply IsS61.drewN | apply IsS61.drew | apply IsS61.set_1 | refine IsS61.far ?_ NB492_489.out _) | exact HI492.out)); (case side2 => repeat (first | (with_reducible first | exact HB.out | apply below_alloc | apply pw_below_drewN | apply below_drew1 | refine below_set ?_ (IsS61.ge HI492.out) | refine below_set ?_ GE489.out) | exact HB.out)); rintro e w6 ⟨rfl, hi, hb, hk⟩; refine ⟨_, rfl, ?_⟩; replace BK489 := Aside0.mk (KeepBut.blk hk (g' := gb489) (o := .cells #[.int .i64 0, .int .i64 0, .int .i64 0, .int .i64 0, .int .i64 0, .int .i64 0] 24 (0, 0)) (by exact bq BK489.out) NB489_492.out (by simp)); replace HB := Aside0.mk hb; replace HI492 := Aside0.mk hi; (try clear hb); (try clear hb2); (try clear hk); (try clear hi); have hnb7 := NB489_492.out; have hnc7 := NB492_489.out; obtain ⟨hcz8_0, hcz8_1, hcz8_2, hcz8_3, hcz8_4, hcz8_5, hfz8_0, hfz8_1, hfz8_2, hfz8_3, hfz8_4, hfz8_5⟩ := zc6 BK489))
 refine bodyPost_ret (results_cell_row rfl _ _ gb489 24 #[.int .i64 t493, .int .i64 t494, .int .i64 t495, .int .i64 t496, .int .i64 t497, .int .i64 t498] (0, 0) _ rfl (by refine bq ?_; refine blk_put (cs := #[.int .i64 t493, .int .i64 t494, .int .i64 t495, .int .i64 t496, .int .i64 t497, .int .i64 0]) ?_ 5 _ rfl; refine bq ?_; refine blk_put (cs := #[.int .i64 t493, .int .i64 t494, .int .i64 t495, .int .i64 t496, .int .i64 0, .int .i64 0]) ?_ 4 _ rfl; refine bq ?_; refine blk_put (cs := #[.int .i64 t493, .int .i64 t494, .int .i64 t495, .int .i64 0, .int .i64 0, .int .i64 0]) ?_ 3 _ rfl; refine bq ?_; refine blk_put (cs := #[.int .i64 t493, .int .i64 t494, .int .i64 0, .int .i64 0, .int .i64 0, .int .i64 0]) ?_ 2 _ rfl; refine bq ?_; refine blk_put (cs := #[.int .i64 t493, .int .i64 0, .int .i64 0, .int .i64 0, .int .i64 0, .int .i64 0]) ?_ 1 _ rfl; refine bq ?_; refine blk_put (cs := #[.int .i64 0, .int .i64 0, .int .i64 0, .int .i64 0, .int .i64 0, .int .i64 0]) ?_ 0 _ rfl; exact bq BK489.out) Try.underlying24 rfl (by kernel_rfl)) rfl ?_
 exact ⟨zR, by repeat (first | (with_reducible first | exact HB.out | apply below_alloc | apply pw_below_drewN | apply below_drew1 | refine below_set ?_ (IsS61.ge HI492.out) | refine below_set ?_ GE489.out) | exact HB.out)⟩

/-! ### spec_InsOk: function 12 -/
def spec_InsOk.f (a0_0 : Int) (a0_1 : Int) (a0_2 : Int) (a0_3 : Int) (a0_4 : Int) (a0_5 : Int) : Option (Bool) := (spec_l1InsOk.f a0_0 a0_1 a0_2 a0_3 a0_4 a0_5).bind fun t543 => (some t543)
set_option maxHeartbeats 8000000 in
set_option maxRecDepth 100000 in
theorem spec_InsOk.calls (a0_0 : Int) (a0_1 : Int) (a0_2 : Int) (a0_3 : Int) (a0_4 : Int) (a0_5 : Int) (r : Bool) (w : World) (h : spec_InsOk.f a0_0 a0_1 a0_2 a0_3 a0_4 a0_5 = some r) :
  Calls Try.prog 12 #[.agg #[.int .i64 a0_0, .int .i64 a0_1, .int .i64 a0_2, .int .i64 a0_3, .int .i64 a0_4, .int .i64 a0_5]] w fun e w' => e = .returned (.bool r) ∧ Below w.heap.size w w' := by
 have hu24 := Try.underlying24
 have HB := Aside0.mk (Below.refl w.heap.size w)
 have H : ((spec_l1InsOk.f a0_0 a0_1 a0_2 a0_3 a0_4 a0_5).bind fun t543 => (some t543)) = some r := h
 clear h
 replace H := Option.bind_eq_some_iff.mp H
 obtain ⟨t543, A20, H⟩ := H
 try dsimp only at H
 have A2 := Aside0.mk A20
 clear A20
 obtain rfl := Option.some.inj H
 go_enter Try.func12, Try.ntmps12
 go_wp2_with (first | ((with_reducible refine gate_dst (N := 1) rfl ?_); refine be 1 #[.int .i64 a0_0, .int .i64 a0_1, .int .i64 a0_2, .int .i64 a0_3, .int .i64 a0_4, .int .i64 a0_5] 24 ?_; intro gb542 hg w3 hbox hb; have BK542 := Aside0.mk hbox; have GW542 := zW hg; replace HB := zS hb; have GE542 := GW542; clear hb hbox hg; obtain ⟨hcz4_0, hcz4_1, hcz4_2, hcz4_3, hcz4_4, hcz4_5, hfz4_0, hfz4_1, hfz4_2, hfz4_3, hfz4_4, hfz4_5⟩ := zc6 BK542) | ((with_reducible refine gate_callee (f := 28) rfl ?_); refine gl 4 Try.func28 #[.agg #[.int .i64 a0_0, .int .i64 a0_1, .int .i64 a0_2, .int .i64 a0_3, .int .i64 a0_4, .int .i64 a0_5]] ?_; (with_reducible refine (spec_l1InsOk.calls a0_0 a0_1 a0_2 a0_3 a0_4 a0_5 t543 _ A2.out).mono ?_); rintro e w5 ⟨rfl, hb⟩; refine ⟨_, rfl, ?_⟩; replace BK542 := zb BK542 hb rfl; replace HB := zS hb; try clear hb))
 go_ret
 exact ⟨zR, zB⟩

/-! ### laws_FnInsPut: function 3 -/
def laws_FnInsPut.j0 : Nat → ByteArray → Bool → Int → Int → Int → Int → Int → Int → Option (Bool)
 | 0, _, _, _, _, _, _, _, _ => none
 | k + 1, x4, x31, x555000, x555001, x555002, x555003, x555004, x555005 => if x31 = true then (none) else ((impl_InsGet.f k x4).bind fun bt560 => (if x4.toList = ([] : List UInt8) then (some true) else (if bt560.2.2.2.2.2.2 = true then (if (bt560.1 == x555000 && (bt560.2.1 == x555001 && (bt560.2.2.1 == x555002 && (bt560.2.2.2.1 == x555003 && (bt560.2.2.2.2.1 == x555004 && (bt560.2.2.2.2.2.1 == x555005)))))) = true then (some ((x4.size : Int) == 8)) else (none)) else (none))))
def laws_FnInsPut.f (k : Nat) (l0 : List Int) : Option (Bool) := if (l0.length : Int) > 1048576 then (some true) else ((spec_DrawInsPut.f k l0).bind fun bt548 => ((impl_InsPut.f k bt548.1 bt548.2.1 bt548.2.2.1 bt548.2.2.2.1 bt548.2.2.2.2.1 bt548.2.2.2.2.2).bind fun t555 => ((spec_InsPut.f bt548.1 bt548.2.1 bt548.2.2.1 bt548.2.2.2.1 bt548.2.2.2.2.1 bt548.2.2.2.2.2).bind fun t556 => (if t555.toList = t556.toList then ((impl_InsOk.f bt548.1 bt548.2.1 bt548.2.2.1 bt548.2.2.2.1 bt548.2.2.2.2.1 bt548.2.2.2.2.2).bind fun t557 => (if ((t555.toList != ([] : List UInt8)) != t557) = true then (laws_FnInsPut.j0 k t555 true bt548.1 bt548.2.1 bt548.2.2.1 bt548.2.2.2.1 bt548.2.2.2.2.1 bt548.2.2.2.2.2) else ((impl_InsOk.f bt548.1 bt548.2.1 bt548.2.2.1 bt548.2.2.2.1 bt548.2.2.2.2.1 bt548.2.2.2.2.2).bind fun t558 => ((spec_InsOk.f bt548.1 bt548.2.1 bt548.2.2.1 bt548.2.2.2.1 bt548.2.2.2.2.1 bt548.2.2.2.2.2).bind fun t559 => (laws_FnInsPut.j0 k t555 (t558 != t559) bt548.1 bt548.2.1 bt548.2.2.1 bt548.2.2.2.1 bt548.2.2.2.2.1 bt548.2.2.2.2.2))))) else (laws_FnInsPut.j0 k t555 true bt548.1 bt548.2.1 bt548.2.2.1 bt548.2.2.2.1 bt548.2.2.2.2.1 bt548.2.2.2.2.2)))))


def laws_FnInsPut.T5 : Bool × List (List Nat × List Nat) := (true, [([], []), ([], []), ([1], [1]), ([0, 2], [0, 2]), ([3, 2], [3]), ([4], [4]), ([5, 4], [4, 5]), ([4], [4]), ([7, 4, 4], [4, 7]), ([6, 8, 4], [4, 6, 8]), ([4, 9], [4, 9]), ([10, 8], [10]), ([11], [11]), ([12, 11, 11], [11, 12]), ([11], [11]), ([14, 13, 11], [11, 14]), ([13, 15, 11], [11, 13, 15]), ([11, 16], [11, 16])])
def laws_FnInsPut.B5 : List Nat := [0, 0, 2, 7, 15, 31, 63, 31, 159, 511, 1023, 2047, 4095, 8191, 4095, 32767, 65535, 131071]
theorem laws_FnInsPut.tab5 : rtab .any (opsOf Try.f3 5) = laws_FnInsPut.T5 := by kernel_rfl
theorem laws_FnInsPut.bits5 : waitsOk laws_FnInsPut.T5.2 laws_FnInsPut.B5 = true := by kernel_rfl
set_option maxHeartbeats 8000000 in
set_option maxRecDepth 100000 in
theorem laws_FnInsPut.calls (k : Nat) (A0 : Option Addr) (c0 : Nat) (l0 : List Int) (r : Bool) (w : World) (hr0 : Kd.C (Kd.int .u8) w A0 l0.length l0) (hc0 : l0.length ≤ c0) (h : laws_FnInsPut.f k l0 = some r) :
  Calls Try.prog 3 #[.slice A0 l0.length c0] w fun e w' => e = .returned (.bool r) ∧ Below w.heap.size w w' := by
 have hu24 := Try.underlying24
 have HR0 := Aside0.mk hr0
 have HC0 := Aside0.mk hc0
 clear hr0 hc0
 have HB := Aside0.mk (Below.refl w.heap.size w)
 have H : (if (l0.length : Int) > 1048576 then (some true) else ((spec_DrawInsPut.f k l0).bind fun bt548 => ((impl_InsPut.f k bt548.1 bt548.2.1 bt548.2.2.1 bt548.2.2.2.1 bt548.2.2.2.2.1 bt548.2.2.2.2.2).bind fun t555 => ((spec_InsPut.f bt548.1 bt548.2.1 bt548.2.2.1 bt548.2.2.2.1 bt548.2.2.2.2.1 bt548.2.2.2.2.2).bind fun t556 => (if t555.toList = t556.toList then ((impl_InsOk.f bt548.1 bt548.2.1 bt548.2.2.1 bt548.2.2.2.1 bt548.2.2.2.2.1 bt548.2.2.2.2.2).bind fun t557 => (if ((t555.toList != ([] : List UInt8)) != t557) = true then (laws_FnInsPut.j0 k t555 true bt548.1 bt548.2.1 bt548.2.2.1 bt548.2.2.2.1 bt548.2.2.2.2.1 bt548.2.2.2.2.2) else ((impl_InsOk.f bt548.1 bt548.2.1 bt548.2.2.1 bt548.2.2.2.1 bt548.2.2.2.2.1 bt548.2.2.2.2.2).bind fun t558 => ((spec_InsOk.f bt548.1 bt548.2.1 bt548.2.2.1 bt548.2.2.2.1 bt548.2.2.2.2.1 bt548.2.2.2.2.2).bind fun t559 => (laws_FnInsPut.j0 k t555 (t558 != t559) bt548.1 bt548.2.1 bt548.2.2.1 bt548.2.2.2.1 bt548.2.2.2.2.1 bt548.2.2.2.2.2))))) else (laws_FnInsPut.j0 k t555 true bt548.1 bt548.2.1 bt548.2.2.1 bt548.2.2.2.1 bt548.2.2.2.2.1 bt548.2.2.2.2.2)))))) = some r := h
 clear h
 by_cases c2 : (l0.length : Int) > 1048576
 ·rw [if_pos c2] at H
  have c2b0 : decide (1048576 < (l0.length : Int)) = true := decide_eq_true c2
  have c2b1 : decide (1048576 < l0.length) = true := decide_eq_true (by omega)
  clear c2
  obtain rfl := Option.some.inj H
  go_enter Try.func3, Try.ntmps3
  go_wp2
  go_ret
  exact ⟨zR, zB⟩
 ·rw [if_neg c2] at H
  have c2b0 : decide (1048576 < (l0.length : Int)) = false := decide_eq_false c2
  have c2b1 : decide (1048576 < l0.length) = false := decide_eq_false (by omega)
  clear c2
  replace H := Option.bind_eq_some_iff.mp H
  obtain ⟨⟨t548, t549, t550, t551, t552, t553⟩, A30, H⟩ := H
  try dsimp only at H
  have A3 := Aside0.mk A30
  clear A30
  replace H := Option.bind_eq_some_iff.mp H
  obtain ⟨t555, A40, H⟩ := H
  try dsimp only at H
  have A4 := Aside0.mk A40
  clear A40
  have HC5 := Aside0.mk H
  clear H
  go_enter Try.func3, Try.ntmps3
  go_upto_region 5 with (first | ((with_reducible refine gate_callee (f := 8) rfl ?_); refine gl 11 Try.func8 #[.slice A0 l0.length c0] ?_; (with_reducible refine (spec_DrawInsPut.calls k _ _ l0 t548 t549 t550 t551 t552 t553 _ ?side1 ?side2 A3.out).mono ?_); (case side1 => repeat (first | exact HR0.out | (with_reducible refine Kd.C_alloc ?_ _) | (with_reducible refine Kd.C_drewN ?_ _) | (with_reducible refine Kd.C_drew ?_))); (case side2 => exact HC0.out); rintro e w6 ⟨rfl, hb⟩; refine ⟨_, rfl, ?_⟩; replace HB := zS hb; try clear hb) | ((with_reducible refine gate_dst (N := 3) rfl ?_); (try (refine gate_guard (by rfl) ?_; dsimp only)); refine be 3 #[.int .i64 0, .int .i64 0, .int .i64 0, .int .i64 0, .int .i64 0, .int .i64 0] 24 ?_; intro gb554 hg w7 hbox hb; have BK554 := Aside0.mk hbox; have GW554 := zW hg; replace HB := zS hb; have GE554 := GW554; clear hb hbox hg; obtain ⟨hcz8_0, hcz8_1, hcz8_2, hcz8_3, hcz8_4, hcz8_5, hfz8_0, hfz8_1, hfz8_2, hfz8_3, hfz8_4, hfz8_5⟩ := zc6 BK554) | ((with_reducible refine gate_callee (f := 9) rfl ?_); refine gl 13 Try.func9 #[.agg #[.int .i64 t548, .int .i64 t549, .int .i64 t550, .int .i64 t551, .int .i64 t552, .int .i64 t553]] ?_; (with_reducible refine (impl_InsPut.calls k t548 t549 t550 t551 t552 t553 t555 _ A4.out).mono ?_); rintro e w9 ⟨rfl, hb⟩; refine ⟨_, rfl, ?_⟩; replace BK554 := Aside0.mk (blk_below (g := gb554) (o := .cells #[.int .i64 t548, .int .i64 t549, .int .i64 t550, .int .i64 t551, .int .i64 t552, .int .i64 t553] 24 (0, 0)) (by refine bq ?_; refine blk_put (cs := #[.int .i64 t548, .int .i64 t549, .int .i64 t550, .int .i64 t551, .int .i64 t552, .int .i64 0]) ?_ 5 _ rfl; refine bq ?_; refine blk_put (cs := #[.int .i64 t548, .int .i64 t549, .int .i64 t550, .int .i64 t551, .int .i64 0, .int .i64 0]) ?_ 4 _ rfl; refine bq ?_; refine blk_put (cs := #[.int .i64 t548, .int .i64 t549, .int .i64 t550, .int .i64 0, .int .i64 0, .int .i64 0]) ?_ 3 _ rfl; refine bq ?_; refine blk_put (cs := #[.int .i64 t548, .int .i64 t549, .int .i64 0, .int .i64 0, .int .i64 0, .int .i64 0]) ?_ 2 _ rfl; refine bq ?_; refine blk_put (cs := #[.int .i64 t548, .int .i64 0, .int .i64 0, .int .i64 0, .int .i64 0, .int .i64 0]) ?_ 1 _ rfl; refine bq ?_; refine blk_put (cs := #[.int .i64 0, .int .i64 0, .int .i64 0, .int .i64 0, .int .i64 0, .int .i64 0]) ?_ 0 _ rfl; exact bq BK554.out) hb); replace HB := zS hb; try clear hb))
  (try simp only [Act.put, List.setIfInBounds_toArray, List.set_cons_zero, List.set_cons_succ])
  go_cut [31] (fun v31 wc => ∃ (kq : Nat) (x31_4 : Bool), v31 = .bool x31_4 ∧ Aside0 (laws_FnInsPut.j0 kq t555 x31_4 t548 t549 t550 t551 t552 t553 = some r) ∧ Aside0 (kq ≤ k) ∧ Aside0 (wc.heap[gb554]? = some (.cells #[.int .i64 t548, .int .i64 t549, .int .i64 t550, .int .i64 t551, .int .i64 t552, .int .i64 t553] 24 (0, 0))) ∧ Aside0 (Below w.heap.size w wc))
  case first =>
   have H := HC5.out
   clear HC5
   replace H := Option.bind_eq_some_iff.mp H
   obtain ⟨t556, A100, H⟩ := H
   try dsimp only at H
   have A10 := Aside0.mk A100
   clear A100
   by_cases c11 : t555.toList = t556.toList
   ·rw [if_pos c11] at H
    have c11b0 : (t555.toList == t556.toList) = true := beq_iff_eq.mpr c11
    have c11b1 : (t555.toList != t556.toList) = false := bne_eq_false_iff_eq.mpr c11
    clear c11
    (first | rw [c11b0] | (simp only [i64_w, i32_w]; rw [c11b0]) | skip)
    replace H := Option.bind_eq_some_iff.mp H
    obtain ⟨t557, A120, H⟩ := H
    try dsimp only at H
    have A12 := Aside0.mk A120
    clear A120
    by_cases c13 : ((t555.toList != ([] : List UInt8)) != t557) = true
    ·rw [if_pos c13] at H
     have c13b0 : ((t555.toList != ([] : List UInt8)) != t557) = true := c13
     (try (have c13b1 : decide ((t555.toList != ([] : List UInt8)) = t557) = false := by simpa using c13))
     (try (have c13b2 : ((t555.toList != ([] : List UInt8)) == t557) = false := by simpa using c13))
     (try (have c13b4 : ((!t555.toList.isEmpty) == t557) = false := by rw [show ∀ l : List UInt8, (!l.isEmpty) = (l != ([] : List UInt8)) from fun l => by cases l <;> rfl]; exact c13b2))
     (try (have c13b3 : ¬ ((t555.toList != ([] : List UInt8)) = t557) := by simpa using c13))
     clear c13
     have H' := Aside0.mk H
     clear H
     try go_wp2
     replace BK554 := Aside0.mk (blk_drew BK554.out)
     replace HB := Aside0.mk (below_drew1 HB.out)
     refine start_ (n := 18) (S := fun w' => w'.cell? ⟨gb554, 0, none⟩ = some (.int .i64 t548) ∧ w'.cell? ⟨gb554, 1, none⟩ = some (.int .i64 t549) ∧ w'.cell? ⟨gb554, 2, none⟩ = some (.int .i64 t550) ∧ w'.cell? ⟨gb554, 3, none⟩ = some (.int .i64 t551) ∧ w'.cell? ⟨gb554, 4, none⟩ = some (.int .i64 t552) ∧ w'.cell? ⟨gb554, 5, none⟩ = some (.int .i64 t553)) (ds := []) #[false, false, false, false, false, false, false, false, false, false, false, false, false, false, false, false, false, false] (by kernel_rfl) rfl rfl ⟨(blk_cell BK554.out 0).trans rfl, (blk_cell BK554.out 1).trans rfl, (blk_cell BK554.out 2).trans rfl, (blk_cell BK554.out 3).trans rfl, (blk_cell BK554.out 4).trans rfl, (blk_cell BK554.out 5).trans rfl⟩ (fun hHeld => ?_); refine with_tabW laws_FnInsPut.tab5 laws_FnInsPut.bits5 (fun HT_ HW_ => ?_)
     generalize w9.drew = w14 at BK554 HB hHeld ⊢
     refine pz 0 14 ?_
     refine tz 1 15 ?_
     refine oz 2 16 fun K hK => ?_
     refine gz Try.func10 #[.agg #[.int .i64 t548, .int .i64 t549, .int .i64 t550, .int .i64 t551, .int .i64 t552, .int .i64 t553]] ?_
     with_reducible refine (spec_InsPut.calls t548 t549 t550 t551 t552 t553 t556 _ A10.out).mono ?_
     rintro e w15 ⟨rfl, hb⟩
     refine ⟨_, rfl, ?_⟩
     replace BK554 := zb BK554 hb rfl
     replace HB := zS hb
     try clear hb
     refine hK.out _ _ ⟨(blk_cell BK554.out 0).trans rfl, (blk_cell BK554.out 1).trans rfl, (blk_cell BK554.out 2).trans rfl, (blk_cell BK554.out 3).trans rfl, (blk_cell BK554.out 4).trans rfl, (blk_cell BK554.out 5).trans rfl⟩ (fun hHeld => ?_)
     clear hK K
     refine nz ?_
     refine pz 3 17 ?_
     refine pz 4 18 ?_
     refine pz 5 19 ?_
     refine pz 6 20 ?_
     refine tz 7 21 ?_
     refine oz 8 22 fun K hK => ?_
     refine gz Try.func11 #[.agg #[.int .i64 t548, .int .i64 t549, .int .i64 t550, .int .i64 t551, .int .i64 t552, .int .i64 t553]] ?_
     with_reducible refine (impl_InsOk.calls t548 t549 t550 t551 t552 t553 t557 _ A12.out).mono ?_
     rintro e w16 ⟨rfl, hb⟩
     refine ⟨_, rfl, ?_⟩
     replace BK554 := zb BK554 hb rfl
     replace HB := zS hb
     try clear hb
     refine hK.out _ _ ⟨(blk_cell BK554.out 0).trans rfl, (blk_cell BK554.out 1).trans rfl, (blk_cell BK554.out 2).trans rfl, (blk_cell BK554.out 3).trans rfl, (blk_cell BK554.out 4).trans rfl, (blk_cell BK554.out 5).trans rfl⟩ (fun hHeld => ?_)
     clear hK K
     refine nz ?_
     refine pz 9 23 ?_
     refine pz 10 24 ?_
     refine pz 11 25 ?_
     refine uz 12 26 ?_
     refine uz 13 27 ?_
     refine uz 14 28 ?_
     refine uz 15 29 ?_
     refine uz 16 30 ?_
     refine pz 17 31 ?_
     refine done_ (done_of HT_.out (by kernel_rfl)) ?_
     try go_wp2
     go_meet
     case rel => exact ⟨_, (true), (by first | rfl | (simp; done) | (simp [*]; done)), H', ⟨by first | omega | exact Nat.le_refl _⟩, ⟨by exact bq BK554.out⟩, ⟨zB⟩⟩
    ·rw [if_neg c13] at H
     have c13b0 : ((t555.toList != ([] : List UInt8)) != t557) = false := by simpa using c13
     (try (have c13b1 : decide ((t555.toList != ([] : List UInt8)) = t557) = true := by simpa using c13))
     (try (have c13b2 : ((t555.toList != ([] : List UInt8)) == t557) = true := by simpa using c13))
     (try (have c13b4 : ((!t555.toList.isEmpty) == t557) = true := by rw [show ∀ l : List UInt8, (!l.isEmpty) = (l != ([] : List UInt8)) from fun l => by cases l <;> rfl]; exact c13b2))
     clear c13
     replace H := Option.bind_eq_some_iff.mp H
     obtain ⟨t558, A170, H⟩ := H
     try dsimp only at H
     have A17 := Aside0.mk A170
     clear A170
     replace H := Option.bind_eq_some_iff.mp H
     obtain ⟨t559, A180, H⟩ := H
     try dsimp only at H
     have A18 := Aside0.mk A180
     clear A180
     have H' := Aside0.mk H
     clear H
     try go_wp2
     replace BK554 := Aside0.mk (blk_drew BK554.out)
     replace HB := Aside0.mk (below_drew1 HB.out)
     refine start_ (n := 18) (S := fun w' => w'.cell? ⟨gb554, 0, none⟩ = some (.int .i64 t548) ∧ w'.cell? ⟨gb554, 1, none⟩ = some (.int .i64 t549) ∧ w'.cell? ⟨gb554, 2, none⟩ = some (.int .i64 t550) ∧ w'.cell? ⟨gb554, 3, none⟩ = some (.int .i64 t551) ∧ w'.cell? ⟨gb554, 4, none⟩ = some (.int .i64 t552) ∧ w'.cell? ⟨gb554, 5, none⟩ = some (.int .i64 t553)) (ds := []) #[false, false, false, false, false, false, false, false, false, false, false, false, false, false, false, false, false, false] (by kernel_rfl) rfl rfl ⟨(blk_cell BK554.out 0).trans rfl, (blk_cell BK554.out 1).trans rfl, (blk_cell BK554.out 2).trans rfl, (blk_cell BK554.out 3).trans rfl, (blk_cell BK554.out 4).trans rfl, (blk_cell BK554.out 5).trans rfl⟩ (fun hHeld => ?_); refine with_tabW laws_FnInsPut.tab5 laws_FnInsPut.bits5 (fun HT_ HW_ => ?_)
     generalize w9.drew = w19 at BK554 HB hHeld ⊢
     refine pz 0 14 ?_
     refine tz 1 15 ?_
     refine oz 2 16 fun K hK => ?_
     refine gz Try.func10 #[.agg #[.int .i64 t548, .int .i64 t549, .int .i64 t550, .int .i64 t551, .int .i64 t552, .int .i64 t553]] ?_
     with_reducible refine (spec_InsPut.calls t548 t549 t550 t551 t552 t553 t556 _ A10.out).mono ?_
     rintro e w20 ⟨rfl, hb⟩
     refine ⟨_, rfl, ?_⟩
     replace BK554 := zb BK554 hb rfl
     replace HB := zS hb
     try clear hb
     refine hK.out _ _ ⟨(blk_cell BK554.out 0).trans rfl, (blk_cell BK554.out 1).trans rfl, (blk_cell BK554.out 2).trans rfl, (blk_cell BK554.out 3).trans rfl, (blk_cell BK554.out 4).trans rfl, (blk_cell BK554.out 5).trans rfl⟩ (fun hHeld => ?_)
     clear hK K
     refine nz ?_
     refine pz 3 17 ?_
     refine pz 4 18 ?_
     refine pz 5 19 ?_
     refine pz 6 20 ?_
     refine tz 7 21 ?_
     refine oz 8 22 fun K hK => ?_
     refine gz Try.func11 #[.agg #[.int .i64 t548, .int .i64 t549, .int .i64 t550, .int .i64 t551, .int .i64 t552, .int .i64 t553]] ?_
     with_reducible refine (impl_InsOk.calls t548 t549 t550 t551 t552 t553 t557 _ A12.out).mono ?_
     rintro e w21 ⟨rfl, hb⟩
     refine ⟨_, rfl, ?_⟩
     replace BK554 := zb BK554 hb rfl
     replace HB := zS hb
     try clear hb
     refine hK.out _ _ ⟨(blk_cell BK554.out 0).trans rfl, (blk_cell BK554.out 1).trans rfl, (blk_cell BK554.out 2).trans rfl, (blk_cell BK554.out 3).trans rfl, (blk_cell BK554.out 4).trans rfl, (blk_cell BK554.out 5).trans rfl⟩ (fun hHeld => ?_)
     clear hK K
     refine nz ?_
     refine pz 9 23 ?_
     refine pz 10 24 ?_
     refine pz 11 25 ?_
     refine tz 12 26 ?_
     refine tz 14 28 ?_
     refine oz 13 27 fun K hK => ?_
     refine gz Try.func11 #[.agg #[.int .i64 t548, .int .i64 t549, .int .i64 t550, .int .i64 t551, .int .i64 t552, .int .i64 t553]] ?_
     with_reducible refine (impl_InsOk.calls t548 t549 t550 t551 t552 t553 t558 _ A17.out).mono ?_
     rintro e w22 ⟨rfl, hb⟩
     refine ⟨_, rfl, ?_⟩
     replace BK554 := zb BK554 hb rfl
     replace HB := zS hb
     try clear hb
     refine hK.out _ _ ⟨(blk_cell BK554.out 0).trans rfl, (blk_cell BK554.out 1).trans rfl, (blk_cell BK554.out 2).trans rfl, (blk_cell BK554.out 3).trans rfl, (blk_cell BK554.out 4).trans rfl, (blk_cell BK554.out 5).trans rfl⟩ (fun hHeld => ?_)
     clear hK K
     refine nz ?_
     refine oz 15 29 fun K hK => ?_
     refine gz Try.func12 #[.agg #[.int .i64 t548, .int .i64 t549, .int .i64 t550, .int .i64 t551, .int .i64 t552, .int .i64 t553]] ?_
     with_reducible refine (spec_InsOk.calls t548 t549 t550 t551 t552 t553 t559 _ A18.out).mono ?_
     rintro e w23 ⟨rfl, hb⟩
     refine ⟨_, rfl, ?_⟩
     replace BK554 := zb BK554 hb rfl
     replace HB := zS hb
     try clear hb
     refine hK.out _ _ ⟨(blk_cell BK554.out 0).trans rfl, (blk_cell BK554.out 1).trans rfl, (blk_cell BK554.out 2).trans rfl, (blk_cell BK554.out 3).trans rfl, (blk_cell BK554.out 4).trans rfl, (blk_cell BK554.out 5).trans rfl⟩ (fun hHeld => ?_)
     clear hK K
     refine nz ?_
     refine pz 16 30 ?_
     refine pz 17 31 ?_
     refine done_ (done_of HT_.out (by kernel_rfl)) ?_
     try go_wp2
     go_meet
     case rel => exact ⟨_, ((t558 != t559)), (by first | rfl | (simp; done) | (simp [*]; done)), H', ⟨by first | omega | exact Nat.le_refl _⟩, ⟨by exact bq BK554.out⟩, ⟨zB⟩⟩
   ·rw [if_neg c11] at H
    have c11b0 : (t555.toList == t556.toList) = false := beq_eq_false_iff_ne.mpr c11
    have c11b1 : (t555.toList != t556.toList) = true := bne_iff_ne.mpr c11
    (first | rw [c11b0] | (simp only [i64_w, i32_w]; rw [c11b0]) | skip)
    have H' := Aside0.mk H
    clear H
    try go_wp2
    replace BK554 := Aside0.mk (blk_drew BK554.out)
    replace HB := Aside0.mk (below_drew1 HB.out)
    refine start_ (n := 18) (S := fun w' => w'.cell? ⟨gb554, 0, none⟩ = some (.int .i64 t548) ∧ w'.cell? ⟨gb554, 1, none⟩ = some (.int .i64 t549) ∧ w'.cell? ⟨gb554, 2, none⟩ = some (.int .i64 t550) ∧ w'.cell? ⟨gb554, 3, none⟩ = some (.int .i64 t551) ∧ w'.cell? ⟨gb554, 4, none⟩ = some (.int .i64 t552) ∧ w'.cell? ⟨gb554, 5, none⟩ = some (.int .i64 t553)) (ds := []) #[false, false, false, false, false, false, false, false, false, false, false, false, false, false, false, false, false, false] (by kernel_rfl) rfl rfl ⟨(blk_cell BK554.out 0).trans rfl, (blk_cell BK554.out 1).trans rfl, (blk_cell BK554.out 2).trans rfl, (blk_cell BK554.out 3).trans rfl, (blk_cell BK554.out 4).trans rfl, (blk_cell BK554.out 5).trans rfl⟩ (fun hHeld => ?_); refine with_tabW laws_FnInsPut.tab5 laws_FnInsPut.bits5 (fun HT_ HW_ => ?_)
    generalize w9.drew = w24 at BK554 HB hHeld ⊢
    refine pz 0 14 ?_
    refine tz 1 15 ?_
    refine oz 2 16 fun K hK => ?_
    refine gz Try.func10 #[.agg #[.int .i64 t548, .int .i64 t549, .int .i64 t550, .int .i64 t551, .int .i64 t552, .int .i64 t553]] ?_
    with_reducible refine (spec_InsPut.calls t548 t549 t550 t551 t552 t553 t556 _ A10.out).mono ?_
    rintro e w25 ⟨rfl, hb⟩
    refine ⟨_, rfl, ?_⟩
    replace BK554 := zb BK554 hb rfl
    replace HB := zS hb
    try clear hb
    refine hK.out _ _ ⟨(blk_cell BK554.out 0).trans rfl, (blk_cell BK554.out 1).trans rfl, (blk_cell BK554.out 2).trans rfl, (blk_cell BK554.out 3).trans rfl, (blk_cell BK554.out 4).trans rfl, (blk_cell BK554.out 5).trans rfl⟩ (fun hHeld => ?_)
    clear hK K
    refine nz ?_
    refine pz 3 17 ?_
    refine pz 4 18 ?_
    refine uz 5 19 ?_
    refine uz 6 20 ?_
    refine uz 7 21 ?_
    refine uz 8 22 ?_
    refine uz 9 23 ?_
    refine pz 10 24 ?_
    refine pz 11 25 ?_
    refine uz 12 26 ?_
    refine uz 13 27 ?_
    refine uz 14 28 ?_
    refine uz 15 29 ?_
    refine uz 16 30 ?_
    refine pz 17 31 ?_
    refine done_ (done_of HT_.out (by kernel_rfl)) ?_
    try go_wp2
    go_meet
    case rel => exact ⟨_, (true), (by first | rfl | (simp; done) | (simp [*]; done)), H', ⟨by first | omega | exact Nat.le_refl _⟩, ⟨by exact bq BK554.out⟩, ⟨zB⟩⟩
  case rest =>
   clear HC5
   try clear c1
   try clear c2
   try clear c2b0
   try clear c2b1
   try clear p2
   try clear c3
   try clear c8
   try clear c9
   try clear c10
   try clear c11
   try clear c11b0
   try clear c11b1
   try clear c12
   try clear c13
   try clear c13b0
   try clear c13b1
   try clear c13b2
   try clear hcz8_0 hcz8_1 hcz8_2 hcz8_3 hcz8_4 hcz8_5 hfz8_0 hfz8_1 hfz8_2 hfz8_3 hfz8_4 hfz8_5
   obtain ⟨kq, x31_4, rfl, HA, HJ4, BK554, HB⟩ := hcut
   cases kq with
   | zero => exact absurd HA.out (by simp [laws_FnInsPut.j0])
   | succ kj4 =>
    have H := HA.out
    clear HA
    simp only [laws_FnInsPut.j0] at H
    by_cases c26 : x31_4 = true
    ·subst c26
     rw [if_pos rfl] at H
     exact absurd H (by simp)
    ·replace c26 := Bool.eq_false_iff.mpr c26
     subst c26
     rw [if_neg (show ¬ (false = true) by decide)] at H
     replace H := Option.bind_eq_some_iff.mp H
     obtain ⟨⟨t560, t561, t562, t563, t564, t565, t566⟩, A270, H⟩ := H
     try dsimp only at H
     have A27 := Aside0.mk A270
     clear A270
     by_cases c28 : t555.toList = ([] : List UInt8)
     ·rw [if_pos c28] at H
      have c28b0 : (t555.toList == ([] : List UInt8)) = true := beq_iff_eq.mpr c28
      have c28b1 : (t555.toList != ([] : List UInt8)) = false := bne_eq_false_iff_eq.mpr c28
      clear c28
      obtain rfl := Option.some.inj H
      go_wp2_with (first | ((with_reducible refine gate_callee (f := 13) rfl ?_); refine gl 34 Try.func13 #[.string t555] ?_; (with_reducible refine (impl_InsGet.calls kj4 t555 t560 t561 t562 t563 t564 t565 t566 _ A27.out).mono ?_); rintro e w29 ⟨rfl, hb⟩; refine ⟨_, rfl, ?_⟩; replace BK554 := zb BK554 hb rfl; replace HB := zS hb; try clear hb) | ((with_reducible refine gate_dst (N := 5) rfl ?_); (try (refine gate_guard (by rfl) ?_; dsimp only)); refine be 5 #[.int .i64 0, .int .i64 0, .int .i64 0, .int .i64 0, .int .i64 0, .int .i64 0] 24 ?_; intro gb567 hg w30 hbox hb; have BK567 := Aside0.mk hbox; have GW567 := zW hg; replace HB := zS hb; have GE567 := GW567; have NB554_567 := zl BK554 hg rfl; have NB567_554 := zg BK554 hg rfl; replace BK554 := zb BK554 hb rfl; clear hb hbox hg; have hnb31 := NB567_554.out; have hnc31 := NB554_567.out; obtain ⟨hcz32_0, hcz32_1, hcz32_2, hcz32_3, hcz32_4, hcz32_5, hfz32_0, hfz32_1, hfz32_2, hfz32_3, hfz32_4, hfz32_5⟩ := zc6 BK567))
      go_ret
      exact ⟨zR, zB⟩
     ·rw [if_neg c28] at H
      have c28b0 : (t555.toList == ([] : List UInt8)) = false := beq_eq_false_iff_ne.mpr c28
      have c28b1 : (t555.toList != ([] : List UInt8)) = true := bne_iff_ne.mpr c28
      by_cases c33 : t566 = true
      ·subst c33
       rw [if_pos rfl] at H
       by_cases c34 : (t560 == t548 && (t561 == t549 && (t562 == t550 && (t563 == t551 && (t564 == t552 && (t565 == t553)))))) = true
       ·rw [if_pos c34] at H
        have c34b0 : (t560 == t548 && (t561 == t549 && (t562 == t550 && (t563 == t551 && (t564 == t552 && (t565 == t553)))))) = true := c34
        (try (have c34b1 : decide (t560 = t548 && (t561 == t549 && (t562 == t550 && (t563 == t551 && (t564 == t552 && (t565 == t553)))))) = true := by simpa using c34))
        (try (have c34b2 : (t560 == t548 && (t561 == t549 && (t562 == t550 && (t563 == t551 && (t564 == t552 && (t565 == t553)))))) = true := by simpa using c34))
        clear c34
        obtain rfl := Option.some.inj H
        go_wp2_with (first | ((with_reducible refine gate_callee (f := 13) rfl ?_); refine gl 34 Try.func13 #[.string t555] ?_; (with_reducible refine (impl_InsGet.calls kj4 t555 t560 t561 t562 t563 t564 t565 true _ A27.out).mono ?_); rintro e w35 ⟨rfl, hb⟩; refine ⟨_, rfl, ?_⟩; replace BK554 := zb BK554 hb rfl; replace HB := zS hb; try clear hb) | ((with_reducible refine gate_dst (N := 5) rfl ?_); (try (refine gate_guard (by rfl) ?_; dsimp only)); refine be 5 #[.int .i64 0, .int .i64 0, .int .i64 0, .int .i64 0, .int .i64 0, .int .i64 0] 24 ?_; intro gb567 hg w36 hbox hb; have BK567 := Aside0.mk hbox; have GW567 := zW hg; replace HB := zS hb; have GE567 := GW567; have NB554_567 := zl BK554 hg rfl; have NB567_554 := zg BK554 hg rfl; replace BK554 := zb BK554 hb rfl; clear hb hbox hg; have hnb37 := NB567_554.out; have hnc37 := NB554_567.out; obtain ⟨hcz38_0, hcz38_1, hcz38_2, hcz38_3, hcz38_4, hcz38_5, hfz38_0, hfz38_1, hfz38_2, hfz38_3, hfz38_4, hfz38_5⟩ := zc6 BK567; obtain ⟨hcz39_0, hcz39_1, hcz39_2, hcz39_3, hcz39_4, hcz39_5, hfz39_0, hfz39_1, hfz39_2, hfz39_3, hfz39_4, hfz39_5⟩ := zc6 BK554))
        go_ret
        exact ⟨zR, zB⟩
       ·rw [if_neg c34] at H
        exact absurd H (by simp)
      ·replace c33 := Bool.eq_false_iff.mpr c33
       subst c33
       rw [if_neg (show ¬ (false = true) by decide)] at H
       exact absurd H (by simp)

/-- THE ONE PURE STATEMENT of laws_FnInsPut: yours. -/
def laws_FnInsPut.Pure : Prop := ∀ (l0 : List Int), l0.length ≤ maxLen → l0.length * 1 ≤ 140737488351232 → (∀ x ∈ l0, (Lit.int .u8 x).wf = true) → ∃ k, laws_FnInsPut.f k l0 = some true
theorem laws_FnInsPut.walk (P : laws_FnInsPut.Pure) (a0 : Option Addr) (len0 cap0 : Nat) (z0 : List Int) (w : World) (w0 : (a0 = none ∧ len0 = 0 ∧ cap0 = 0 ∧ z0 = []) ∨ ∃ x, a0 = some x ∧ len0 ≤ cap0 ∧ cap0 ≤ maxLen ∧ z0.length = cap0 ∧ (∀ i, i < z0.length → w.cell? (x.add i) = some (.int .u8 (z0.getD i 0))) ∧ ∀ n ∈ z0, (Lit.int .u8 n).wf = true) (y0 : len0 * 1 ≤ 140737488351232) :
  Calls Try.prog 3 #[.slice a0 len0 cap0] w fun e w' => e = .returned (.bool true) ∧ Below w.heap.size w w' := by
 obtain ⟨l0, rfl, hr0, hm0, hw0, hc0⟩ := ReadsInt.ofRowC w0
 obtain ⟨k, h⟩ := P l0 hm0 y0 hw0
 refine (laws_FnInsPut.calls k _ _ l0 true w (Kd.C_of_reads (d := (0 : Int)) (h1 := fun _ => rfl) hr0) hc0 h).mono ?_
 rintro e w' ⟨rfl, hd⟩
 exact ⟨rfl, hd⟩

end Go.Proofs.Ythhcdkmfpdpieaa.Q
