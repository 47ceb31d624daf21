/- The machine's side of this seat's laws: Go functions as Lean functions, and their contracts. By a program of this work over the kit's print. -/
import Derived.Test.YthhcdkmfpdpieaaQ0
import Derived.Test.YthhcdkmfpdpieaaQ2
import Derived.Test.YthhcdkmfpdpieaaQ3
import Derived.Test.YthhcdkmfpdpieaaQ12
import Derived.Test.YthhcdkmfpdpieaaQ16
namespace Go.Proofs.Ythhcdkmfpdpieaa.Q
open Go.RowKit Go.Proofs.YthhcdkmfpdpieaaW.PrintWords Go.Proofs.YthhcdkmfpdpieaaW.PrintLast Go.Proofs.YthhcdkmfpdpieaaW.PrintMore
attribute [local go_sem] max2_int min2_int max_two min_two max_three min_three max_four min_four Go.Proofs.YthhcdkmfpdpieaaN.not_i64 Go.Proofs.YthhcdkmfpdpieaaN.isSome_setCell   -- for this text's walks alone
set_option linter.unusedVariables false
set_option linter.unusedSimpArgs false

/-! ### spec_l20Ins: function 26 -/
def spec_l20Ins.f (k : Nat) (s0_0 : List Int) (s0_1 : Int) : Option (Int × Int × Int × Int × Int × Int × Int) := (spec_l20Prog.f k s0_0 s0_1).bind fun bt479 => ((spec_l20Rd_pick.f k s0_0 bt479.2 (bt479.1.length : Int)).bind fun bt483 => (if 0 ≤ bt483.1 then (if bt483.1 < (bt479.1.length : Int) then (some ((rd_T24 bt479.1 bt483.1).f0, (rd_T24 bt479.1 bt483.1).f1, (rd_T24 bt479.1 bt483.1).f2, (rd_T24 bt479.1 bt483.1).f3, (rd_T24 bt479.1 bt483.1).f4, (rd_T24 bt479.1 bt483.1).f5, bt483.2)) else (none)) else (none)))

set_option maxHeartbeats 8000000 in
set_option maxRecDepth 100000 in
theorem spec_l20Ins.calls (k : Nat) (g : Nat) (s0_0 : List Int) (s0_1 : Int) (r1 : Int) (r2 : Int) (r3 : Int) (r4 : Int) (r5 : Int) (r6 : Int) (r7 : Int) (w0 w : World) (hI : IsS61 w0 w g s0_0 s0_1) (hB : Below w0.heap.size w0 w) (h : spec_l20Ins.f k s0_0 s0_1 = some (r1, r2, r3, r4, r5, r6, r7)) :
  Calls Try.prog 26 #[.pointer (some ⟨g, 0, none⟩)] w fun e w' => e = .returned (.agg #[.int .i64 r1, .int .i64 r2, .int .i64 r3, .int .i64 r4, .int .i64 r5, .int .i64 r6]) ∧ IsS61 w0 w' g s0_0 r7 ∧ Below w0.heap.size w0 w' ∧ KeepBut w w' g none := by
 have hu24 := Try.underlying24
 have HI0 := Aside0.mk hI
 have HK := Aside0.mk (KeepBut.refl w g none)
 have HL := Aside0.mk hB.size
 clear hI
 have HW0 := Aside0.mk hB.size
 have HB := Aside0.mk hB
 clear hB
 have H : ((spec_l20Prog.f k s0_0 s0_1).bind fun bt479 => ((spec_l20Rd_pick.f k s0_0 bt479.2 (bt479.1.length : Int)).bind fun bt483 => (if 0 ≤ bt483.1 then (if bt483.1 < (bt479.1.length : Int) then (some ((rd_T24 bt479.1 bt483.1).f0, (rd_T24 bt479.1 bt483.1).f1, (rd_T24 bt479.1 bt483.1).f2, (rd_T24 bt479.1 bt483.1).f3, (rd_T24 bt479.1 bt483.1).f4, (rd_T24 bt479.1 bt483.1).f5, bt483.2)) else (none)) else (none)))) = some (r1, r2, r3, r4, r5, r6, r7) := h
 clear h
 replace H := Option.bind_eq_some_iff.mp H
 obtain ⟨⟨t479, t482⟩, A20, H⟩ := H
 try dsimp only at H
 have A2 := Aside0.mk A20
 clear A20
 replace H := Option.bind_eq_some_iff.mp H
 obtain ⟨⟨t483, t484⟩, A30, H⟩ := H
 try dsimp only at H
 have A3 := Aside0.mk A30
 clear A30
 by_cases c4 : 0 ≤ t483
 ·rw [if_pos c4] at H
  have c4b0 : decide (0 ≤ t483) = true := decide_eq_true c4
  clear c4
  by_cases c5 : t483 < (t479.length : Int)
  ·rw [if_pos c5] at H
   have c5b0 : decide (t483 < (t479.length : Int)) = true := decide_eq_true c5
   clear c5
   simp only [Option.some.injEq, Prod.mk.injEq] at H
   obtain ⟨rfl, rfl, rfl, rfl, rfl, rfl, rfl⟩ := H
   go_enter Try.func26, Try.ntmps26
   go_wp2_with (first | ((with_reducible refine gate_dst (N := 2) rfl ?_); refine be 2 #[.int .i64 0, .int .i64 0, .int .i64 0, .int .i64 0, .int .i64 0, .int .i64 0] 24 ?_; intro gb478 hg w6 hbox hb; replace HB := Aside0.mk (below_step (by repeat (first | (with_reducible first | exact HB.out | apply below_alloc | apply pw_below_drewN | apply below_drew1 | refine below_set ?_ (IsS61.ge HI0.out)) | exact HB.out)) hb); have BK478 := Aside0.mk hbox; have GW478 := Aside0.mk ((by rw [hg]; exact (keep_size (w := w) (g := g) (row := none) (by repeat (first | (with_reducible first | exact HK.out | apply KeepBut.set_ | apply keep_drewN | apply keep_drew | apply keep_alloc) | exact HK.out))) : w.heap.size ≤ gb478)); have GE478 := Aside0.mk ((Nat.le_trans HW0.out (by rw [hg]; exact (keep_size (w := w) (g := g) (row := none) (by repeat (first | (with_reducible first | exact HK.out | apply KeepBut.set_ | apply keep_drewN | apply keep_drew | apply keep_alloc) | exact HK.out))) : w.heap.size ≤ gb478) : w0.heap.size ≤ gb478)); replace HK := Aside0.mk (KeepBut.trans (by repeat (first | (with_reducible first | exact HK.out | apply KeepBut.set_ | apply keep_drewN | apply keep_drew | apply keep_alloc) | exact HK.out)) (KeepBut.of_below hb g none) (.inl rfl)); have NB0_478 := Aside0.mk ((by rw [hg]; exact Nat.ne_of_lt (IsS61.lt (show IsS61 w0 _ g s0_0 s0_1 from by repeat (first | (with_reducible first | exact HI0.out | apply IsS61.alloc | apply IsS61.drewN | apply IsS61.drew | apply IsS61.set_1) | exact HI0.out))) : g ≠ gb478)); have NB478_0 := Aside0.mk ((by rw [hg]; exact Nat.ne_of_gt (IsS61.lt (show IsS61 w0 _ g s0_0 s0_1 from by repeat (first | (with_reducible first | exact HI0.out | apply IsS61.alloc | apply IsS61.drewN | apply IsS61.drew | apply IsS61.set_1) | exact HI0.out))) : gb478 ≠ g)); replace HI0 := Aside0.mk (IsS61.below (by repeat (first | (with_reducible first | exact HI0.out | apply IsS61.alloc | apply IsS61.drewN | apply IsS61.drew | apply IsS61.set_1) | exact HI0.out)) hb); clear hb hbox hg) | ((with_reducible refine gate_callee (f := 39) rfl ?_); refine gl 5 Try.func39 #[.pointer (some ⟨g, 0, none⟩)] ?_; (with_reducible refine (spec_l20Prog.calls k g s0_0 s0_1 t479 t482 w0 _ ?side1 ?side2 A2.out).mono ?_); (case side1 => repeat (first | (with_reducible first | exact HI0.out | apply IsS61.alloc | apply IsS61.drewN | apply IsS61.drew | apply IsS61.set_1 | refine IsS61.far ?_ NB0_478.out _) | exact HI0.out)); (case side2 => repeat (first | (with_reducible first | exact HB.out | apply below_alloc | apply pw_below_drewN | apply below_drew1 | refine below_set ?_ (IsS61.ge HI0.out) | refine below_set ?_ GE478.out) | exact HB.out)); rintro e w7 ⟨v480, rfl, ho0, hi, hb, hk⟩; refine ⟨_, rfl, ?_⟩; have HO481 := Aside0.mk (Kd.R_lower (Kd.R_newB ho0 (g := gb478) (o := .cells #[.int .i64 0, .int .i64 0, .int .i64 0, .int .i64 0, .int .i64 0, .int .i64 0] 24 (0, 0)) (by exact bq BK478.out)) (keep_size (w := w) (g := g) (row := none) (by repeat (first | (with_reducible first | exact HK.out | apply KeepBut.set_ | apply keep_drewN | apply keep_drew | apply keep_alloc | refine keep_far ?_ GW478.out _) | exact HK.out)))); replace BK478 := Aside0.mk (KeepBut.blk hk (g' := gb478) (o := .cells #[.int .i64 0, .int .i64 0, .int .i64 0, .int .i64 0, .int .i64 0, .int .i64 0] 24 (0, 0)) (by exact bq BK478.out) NB478_0.out (by simp)); replace HK := Aside0.mk (KeepBut.trans (by repeat (first | (with_reducible first | exact HK.out | apply KeepBut.set_ | apply keep_drewN | apply keep_drew | apply keep_alloc | refine keep_far ?_ GW478.out _) | exact HK.out)) hk (.inl rfl)); replace HB := Aside0.mk hb; replace HI0 := Aside0.mk hi; (try clear hb); (try clear hb2); (try clear hk); (try clear hi); (try clear ho0); obtain ⟨Ao8, co8, eo8⟩ := Kd.R_slice HO481.out; subst eo8) | ((with_reducible refine gate_callee (f := 36) rfl ?_); refine gl 10 Try.func36 #[.pointer (some ⟨g, 0, none⟩), .int .i64 (t479.length : Int)] ?_; (with_reducible refine (spec_l20Rd_pick.calls k g s0_0 t482 (t479.length : Int) t483 t484 w0 _ ?side1 ?side2 A3.out).mono ?_); (case side1 => repeat (first | (with_reducible first | exact HI0.out | apply IsS61.alloc | apply IsS61.drewN | apply IsS61.drew | apply IsS61.set_1 | refine IsS61.far ?_ NB0_478.out _) | exact HI0.out)); (case side2 => repeat (first | (with_reducible first | exact HB.out | apply below_alloc | apply pw_below_drewN | apply below_drew1 | refine below_set ?_ (IsS61.ge HI0.out) | refine below_set ?_ GE478.out) | exact HB.out)); rintro e w9 ⟨rfl, hi, hb, hk⟩; refine ⟨_, rfl, ?_⟩; replace BK478 := Aside0.mk (KeepBut.blk hk (g' := gb478) (o := .cells #[.int .i64 0, .int .i64 0, .int .i64 0, .int .i64 0, .int .i64 0, .int .i64 0] 24 (0, 0)) (by exact bq BK478.out) NB478_0.out (by simp)); replace HO481 := Aside0.mk (Kd.R_mono (Kd.R_keep (IsS61.apart (show IsS61 w0 _ g s0_0 t482 from by repeat (first | (with_reducible first | exact HI0.out | apply IsS61.alloc | apply IsS61.drewN | apply IsS61.drew | apply IsS61.set_1 | refine IsS61.far ?_ NB0_478.out _) | exact HI0.out)) (by (with_reducible repeat (first | apply Kd.R_alloc | apply Kd.R_drewN | apply Kd.R_drew)); exact HO481.out) (by decide)) hk (fun _ h => h.2)) (fun _ h => h.1)); replace HK := Aside0.mk (KeepBut.trans (by repeat (first | (with_reducible first | exact HK.out | apply KeepBut.set_ | apply keep_drewN | apply keep_drew | apply keep_alloc | refine keep_far ?_ GW478.out _) | exact HK.out)) hk (.inl rfl)); replace HB := Aside0.mk hb; replace HI0 := Aside0.mk hi; (try clear hb); (try clear hb2); (try clear hk); (try clear hi); have p485 : 0 ≤ (t483 : Int) := of_decide_eq_true (by first | (with_reducible assumption) | assumption); have q485 : t483 < (t479.length : Int) := of_decide_eq_true (by first | (with_reducible assumption) | assumption); obtain ⟨ad485, e485, hx485_0, hx485_1, hx485_2, hx485_3, hx485_4, hx485_5⟩ := at_T24 (Kd.R_reads' HO481.out).2.2 t483 p485 q485; cases e485; replace p485 := eq_true p485; replace q485 := eq_true q485; have hnb10 := NB478_0.out; have hnc10 := NB0_478.out; obtain ⟨hcz11_0, hcz11_1, hcz11_2, hcz11_3, hcz11_4, hcz11_5, hfz11_0, hfz11_1, hfz11_2, hfz11_3, hfz11_4, hfz11_5⟩ := zc6 BK478))
   refine bodyPost_ret (results_cell_row rfl _ _ gb478 24 #[.int .i64 ((rd_T24 t479 t483).f0), .int .i64 ((rd_T24 t479 t483).f1), .int .i64 ((rd_T24 t479 t483).f2), .int .i64 ((rd_T24 t479 t483).f3), .int .i64 ((rd_T24 t479 t483).f4), .int .i64 ((rd_T24 t479 t483).f5)] (0, 0) _ rfl (by refine bq ?_; refine blk_put (cs := #[.int .i64 ((rd_T24 t479 t483).f0), .int .i64 ((rd_T24 t479 t483).f1), .int .i64 ((rd_T24 t479 t483).f2), .int .i64 ((rd_T24 t479 t483).f3), .int .i64 ((rd_T24 t479 t483).f4), .int .i64 0]) ?_ 5 _ rfl; refine bq ?_; refine blk_put (cs := #[.int .i64 ((rd_T24 t479 t483).f0), .int .i64 ((rd_T24 t479 t483).f1), .int .i64 ((rd_T24 t479 t483).f2), .int .i64 ((rd_T24 t479 t483).f3), .int .i64 0, .int .i64 0]) ?_ 4 _ rfl; refine bq ?_; refine blk_put (cs := #[.int .i64 ((rd_T24 t479 t483).f0), .int .i64 ((rd_T24 t479 t483).f1), .int .i64 ((rd_T24 t479 t483).f2), .int .i64 0, .int .i64 0, .int .i64 0]) ?_ 3 _ rfl; refine bq ?_; refine blk_put (cs := #[.int .i64 ((rd_T24 t479 t483).f0), .int .i64 ((rd_T24 t479 t483).f1), .int .i64 0, .int .i64 0, .int .i64 0, .int .i64 0]) ?_ 2 _ rfl; refine bq ?_; refine blk_put (cs := #[.int .i64 ((rd_T24 t479 t483).f0), .int .i64 0, .int .i64 0, .int .i64 0, .int .i64 0, .int .i64 0]) ?_ 1 _ rfl; refine bq ?_; refine blk_put (cs := #[.int .i64 0, .int .i64 0, .int .i64 0, .int .i64 0, .int .i64 0, .int .i64 0]) ?_ 0 _ rfl; exact bq BK478.out) Try.underlying24 rfl (by kernel_rfl)) rfl ?_
   exact ⟨zR, by repeat (first | (with_reducible first | exact HI0.out | apply IsS61.alloc | apply IsS61.drewN | apply IsS61.drew | apply IsS61.set_1 | refine IsS61.far ?_ NB0_478.out _) | exact HI0.out), by repeat (first | (with_reducible first | exact HB.out | apply below_alloc | apply pw_below_drewN | apply below_drew1 | refine below_set ?_ (IsS61.ge HI0.out) | refine below_set ?_ GE478.out) | exact HB.out), by repeat (first | (with_reducible first | exact HK.out | apply KeepBut.set_ | apply keep_drewN | apply keep_drew | apply keep_alloc | refine keep_far ?_ GW478.out _) | exact HK.out)⟩
  ·rw [if_neg c5] at H
   exact absurd H (by simp)
 ·rw [if_neg c4] at H
  exact absurd H (by simp)

/-! ### impl_InsPut: function 9 -/
def impl_InsPut.l0 : Nat → List Int → Int → Int → Int → Int → Int → Int → Int → Option (ByteArray)
 | 0, _, _, _, _, _, _, _, _ => none
 | k + 1, x3, x26, x524000, x524001, x524002, x524003, x524004, x524005 => if x26 < 4 then (if 0 ≤ (wrap64 (8 * x26)) then (if x3.length < 140737488355328 then (impl_InsPut.l0 k (x3 ++ [(shr .i64 x524004 (wrap64 (8 * x26))) % 256]) (wrap64 (x26 + 1)) x524000 x524001 x524002 x524003 x524004 x524005) else (none)) else (none)) else (some (strOfNums x3))
def impl_InsPut.f (k : Nat) (a0_0 : Int) (a0_1 : Int) (a0_2 : Int) (a0_3 : Int) (a0_4 : Int) (a0_5 : Int) : Option (ByteArray) := (impl_InsOk.f a0_0 a0_1 a0_2 a0_3 a0_4 a0_5).bind fun t524 => (if t524 = true then (impl_InsPut.l0 k (([(a0_0) % 256, (wrap64 ((wrap64 ((wrap64 (a0_1 * 16)) + a0_2)) + 1)) % 256, (a0_3) % 256, (a0_5) % 256] : List Int)) 0 a0_0 a0_1 a0_2 a0_3 a0_4 a0_5) else (some (⟨#[]⟩ : ByteArray)))


set_option maxHeartbeats 8000000 in
set_option maxRecDepth 100000 in
theorem impl_InsPut.calls (k : Nat) (a0_0 : Int) (a0_1 : Int) (a0_2 : Int) (a0_3 : Int) (a0_4 : Int) (a0_5 : Int) (r : ByteArray) (w : World) (h : impl_InsPut.f k a0_0 a0_1 a0_2 a0_3 a0_4 a0_5 = some r) :
  Calls Try.prog 9 #[.agg #[.int .i64 a0_0, .int .i64 a0_1, .int .i64 a0_2, .int .i64 a0_3, .int .i64 a0_4, .int .i64 a0_5]] w fun e w' => e = .returned (.string r) ∧ Below w.heap.size w w' := by
 have hu24 := Try.underlying24
 have HB := Aside0.mk (Below.refl w.heap.size w)
 have H : ((impl_InsOk.f a0_0 a0_1 a0_2 a0_3 a0_4 a0_5).bind fun t524 => (if t524 = true then (impl_InsPut.l0 k (([(a0_0) % 256, (wrap64 ((wrap64 ((wrap64 (a0_1 * 16)) + a0_2)) + 1)) % 256, (a0_3) % 256, (a0_5) % 256] : List Int)) 0 a0_0 a0_1 a0_2 a0_3 a0_4 a0_5) else (some (⟨#[]⟩ : ByteArray)))) = some r := h
 clear h
 replace H := Option.bind_eq_some_iff.mp H
 obtain ⟨t524, A20, H⟩ := H
 try dsimp only at H
 have A2 := Aside0.mk A20
 clear A20
 by_cases c3 : t524 = true
 ·subst c3
  rw [if_pos rfl] at H
  obtain ⟨y525, hy525⟩ : ∃ y_ : List Int, y_ = (([(a0_0) % 256, (wrap64 ((wrap64 ((wrap64 (a0_1 * 16)) + a0_2)) + 1)) % 256, (a0_3) % 256, (a0_5) % 256] : List Int)) := ⟨_, rfl⟩
  replace H : (impl_InsPut.l0 k y525 0 a0_0 a0_1 a0_2 a0_3 a0_4 a0_5) = some r := by first | (rw [hy525]; with_reducible exact H) | (have H2_ := (Option.bind_some _ _).symm.trans H; rw [hy525]; with_reducible exact H2_) | (have H2_ := (Option.bind_some _ _).symm.trans H; with_reducible exact H2_) | with_reducible exact H | (rw [hy525]; exact H) | exact H
  have Ny525 := Aside0.mk hy525
  clear hy525
  have H' := Aside0.mk H
  clear H
  go_enter Try.func9, Try.ntmps9
  go_wp2_with (first | ((with_reducible refine gate_dst (N := 1) rfl ?_); refine be 1 #[.int .i64 a0_0, .int .i64 a0_1, .int .i64 a0_2, .int .i64 a0_3, .int .i64 a0_4, .int .i64 a0_5] 24 ?_; intro gb523 hg w4 hbox hb; have BK523 := Aside0.mk hbox; have GW523 := zW hg; replace HB := zS hb; have GE523 := GW523; clear hb hbox hg; obtain ⟨hcz5_0, hcz5_1, hcz5_2, hcz5_3, hcz5_4, hcz5_5, hfz5_0, hfz5_1, hfz5_2, hfz5_3, hfz5_4, hfz5_5⟩ := zc6 BK523) | ((with_reducible refine gate_callee (f := 11) rfl ?_); refine gl 6 Try.func11 #[.agg #[.int .i64 a0_0, .int .i64 a0_1, .int .i64 a0_2, .int .i64 a0_3, .int .i64 a0_4, .int .i64 a0_5]] ?_; (with_reducible refine (impl_InsOk.calls a0_0 a0_1 a0_2 a0_3 a0_4 a0_5 true _ A2.out).mono ?_); rintro e w6 ⟨rfl, hb⟩; refine ⟨_, rfl, ?_⟩; replace BK523 := zb BK523 hb rfl; replace HB := zS hb; try clear hb; obtain ⟨hcz7_0, hcz7_1, hcz7_2, hcz7_3, hcz7_4, hcz7_5, hfz7_0, hfz7_1, hfz7_2, hfz7_3, hfz7_4, hfz7_5⟩ := zc6 BK523) | ((with_reducible refine gate_dst (N := 25) rfl ?_); refine Kd.R_lit (Kd.int .u8) _ 5 ?hg (N := 25) ?hd (xs := ([(a0_0) % 256, (wrap64 ((wrap64 ((wrap64 (a0_1 * 16)) + a0_2)) + 1)) % 256, (a0_3) % 256, (a0_5) % 256] : List Int)) (inner := [.int .u8 ((a0_0) % 256), .int .u8 ((wrap64 ((wrap64 ((wrap64 (a0_1 * 16)) + a0_2)) + 1)) % 256), .int .u8 ((a0_3) % 256), .int .u8 ((a0_5) % 256)]) (ok := fun _ => True) (okp := fun _ => True) ?hr ?hp (fun _ hk => hk) trivial (Below.refl _ _) (Nat.le_refl _) (by simp) ?_; (case hd => rfl); (case hg => rfl); (case hr => first | (go_simp; done) | (go_simp; rfl)); (case hp => exact (Reps.one (show Kd.M (Kd.int .u8) _ _ _ ((a0_0) % 256) [.int .u8 ((a0_0) % 256)] from rfl) (Reps.one (show Kd.M (Kd.int .u8) _ _ _ ((wrap64 ((wrap64 ((wrap64 (a0_1 * 16)) + a0_2)) + 1)) % 256) [.int .u8 ((wrap64 ((wrap64 ((wrap64 (a0_1 * 16)) + a0_2)) + 1)) % 256)] from rfl) (Reps.one (show Kd.M (Kd.int .u8) _ _ _ ((a0_3) % 256) [.int .u8 ((a0_3) % 256)] from rfl) (Reps.one (show Kd.M (Kd.int .u8) _ _ _ ((a0_5) % 256) [.int .u8 ((a0_5) % 256)] from rfl) (Reps.none _ _)))))); intro v526 w8 ho9 hb hg_ hnew_; clear hg_ hnew_; (first | rw [← Ny525.out] at ho9 | (simp only [Int.reduceToNat] at ho9; rw [← Ny525.out] at ho9)); have HO527 := Aside0.mk (Kd.R_lower ho9 (below_size zB)); replace BK523 := zb BK523 hb rfl; replace HB := zS hb; clear hb ho9))
  go_loopg [3, 26] k (fun kq v3 v26 w' => ∃ (x3_1 : List Int) (x26_1 : Int), v26 = .int .i64 x26_1 ∧ Aside0 (impl_InsPut.l0 kq x3_1 x26_1 a0_0 a0_1 a0_2 a0_3 a0_4 a0_5 = some r) ∧ Aside0 (kq ≤ k) ∧ Aside0 (Kd.R (Kd.int .u8) 5 w' w.heap.size (fun _ => True) v3 x3_1) ∧ Aside0 (w'.heap[gb523]? = some (.cells #[.int .i64 a0_0, .int .i64 a0_1, .int .i64 a0_2, .int .i64 a0_3, .int .i64 a0_4, .int .i64 a0_5] 24 (0, 0))) ∧ Aside0 (Below w.heap.size w w'))
  case atStart => exact ⟨(y525), (0), (by first | rfl | (simp; done) | (simp [*]; done)), H', ⟨Nat.le_refl _⟩, ⟨by (with_reducible repeat (first | apply Kd.R_alloc | apply Kd.R_drewN | apply Kd.R_drew)); exact HO527.out⟩, ⟨by exact bq BK523.out⟩, ⟨zB⟩⟩
  case round =>
   clear H'
   try clear c1
   try clear p2
   try clear c3
   try clear p6
   try clear c9
   try clear hcz5_0 hcz5_1 hcz5_2 hcz5_3 hcz5_4 hcz5_5 hfz5_0 hfz5_1 hfz5_2 hfz5_3 hfz5_4 hfz5_5
   try clear hcz7_0 hcz7_1 hcz7_2 hcz7_3 hcz7_4 hcz7_5 hfz7_0 hfz7_1 hfz7_2 hfz7_3 hfz7_4 hfz7_5
   obtain ⟨x3_1, x26_1, rfl, HA, HK1, HO_3, BK523, HB⟩ := hrel
   cases gk with
   | zero => exact absurd HA.out (by simp [impl_InsPut.l0])
   | succ k1 =>
    have H := HA.out
    clear HA
    simp only [impl_InsPut.l0] at H
    by_cases c10 : x26_1 < 4
    ·rw [if_pos c10] at H
     have c10b0 : decide (x26_1 < 4) = true := decide_eq_true c10
     clear c10
     obtain ⟨ji11, hji11⟩ : ∃ j_ : Int, (wrap64 (8 * x26_1)) = j_ := ⟨_, rfl⟩
     replace H : (if 0 ≤ (ji11) then (if x3_1.length < 140737488355328 then (impl_InsPut.l0 k1 (x3_1 ++ [(shr .i64 a0_4 (ji11)) % 256]) (wrap64 (x26_1 + 1)) a0_0 a0_1 a0_2 a0_3 a0_4 a0_5) else (none)) else (none)) = some r := by first | (rw [hji11] at H; exact H) | (simp only [hji11] at H ⊢; exact H)
     have hji11w : (IntKind.i64.wrap (8 * x26_1)) = ji11 := (i64_w _).trans hji11
     by_cases c12 : 0 ≤ (ji11)
     ·rw [if_pos c12] at H
      have c12b0 := eq_true c12
      have c12b1 : decide (0 ≤ (ji11)) = true := decide_eq_true c12
      clear c12
      obtain ⟨ji13, hji13⟩ : ∃ j_ : Int, (shr .i64 a0_4 (ji11)) = j_ := ⟨_, rfl⟩
      replace H : (if x3_1.length < 140737488355328 then (impl_InsPut.l0 k1 (x3_1 ++ [(ji13) % 256]) (wrap64 (x26_1 + 1)) a0_0 a0_1 a0_2 a0_3 a0_4 a0_5) else (none)) = some r := by first | (rw [hji13] at H; exact H) | (simp only [hji13] at H ⊢; exact H)
      have hji13_ : (a0_4 / 2 ^ min (ji11).toNat 64) = ji13 := hji13
      have hji13z : (ji11) ≤ 64 → (a0_4 / 2 ^ (ji11).toNat) = ji13 := shr_small hji13
      by_cases c14 : x3_1.length < 140737488355328
      ·rw [if_pos c14] at H
       have LMc14 := Aside0.mk c14
       clear c14
       obtain ⟨y528, hy528⟩ : ∃ y_ : List Int, y_ = (x3_1 ++ [(ji13) % 256]) := ⟨_, rfl⟩
       replace H : (impl_InsPut.l0 k1 y528 (wrap64 (x26_1 + 1)) a0_0 a0_1 a0_2 a0_3 a0_4 a0_5) = some r := by first | (rw [hy528]; with_reducible exact H) | (have H2_ := (Option.bind_some _ _).symm.trans H; rw [hy528]; with_reducible exact H2_) | (have H2_ := (Option.bind_some _ _).symm.trans H; with_reducible exact H2_) | with_reducible exact H | (rw [hy528]; exact H) | exact H
       have Ny528 := Aside0.mk hy528
       clear hy528
       have H' := Aside0.mk H
       clear H
       obtain ⟨hcz15_0, hcz15_1, hcz15_2, hcz15_3, hcz15_4, hcz15_5, hfz15_0, hfz15_1, hfz15_2, hfz15_3, hfz15_4, hfz15_5⟩ := zc6 BK523
       go_wp2_with (first | ((with_reducible refine gate_builtin (b := .append) (xs := #[.tmp 29, .tmp 36]) rfl ?_); at_builtin; refine Kd.R_append (Kd.int .u8) (w0 := w) w.heap.size rfl (.tmp 29) (.tmp 36) 22 5 (.int .u8 0) 1 rfl Try.underlying22 info5 rfl (by decide) (by omega) u3 x3_1 ((ji13) % 256) [.int .u8 ((ji13) % 256)] (fun _ => True) (fun _ => False) rfl rfl ?aP (fun _ hk => hk.elim) ?aF ?aO ?aB ?aS ?aL ?_; (case aP => exact rfl); (case aB => exact zB); (case aF => exact (fun _ _ => trivial)); (case aO => exact (by (with_reducible repeat (first | apply Kd.R_alloc | apply Kd.R_drewN | apply Kd.R_drew)); exact HO_3.out)); (case aS => exact (below_size zB)); (case aL => have := LMc14.out; omega); intro v529 w16 ho hb hg hat; rw [← Ny528.out] at ho; have n0_ := Aside0.mk (blk_grown (g := gb523) (o := .cells #[.int .i64 a0_0, .int .i64 a0_1, .int .i64 a0_2, .int .i64 a0_3, .int .i64 a0_4, .int .i64 a0_5] 24 (0, 0)) (by exact bq BK523.out) hg (Kd.R_ne HO_3.out BK523.out (by decide))); have n1_ := Aside0.mk (hb); have n2_ := Aside0.mk (ho); clear BK523; clear HB; clear HO_3; have BK523 := n0_; have HB := n1_; have HO530 := n2_; clear n0_ n1_ n2_; clear ho hb hg hat))
       go_roundg k1
       case measure => have := HK1.out; omega
       case rel => exact ⟨(y528), (wrap64 (x26_1 + 1)), (by first | rfl | (simp; done) | (simp [*]; done)), H', ⟨by have := HK1.out; omega⟩, ⟨by (with_reducible repeat (first | apply Kd.R_alloc | apply Kd.R_drewN | apply Kd.R_drew)); exact HO530.out⟩, ⟨by exact bq BK523.out⟩, ⟨zB⟩⟩
      ·rw [if_neg c14] at H
       exact absurd H (by simp)
     ·rw [if_neg c12] at H
      exact absurd H (by simp)
    ·rw [if_neg c10] at H
     have c10b0 : decide (x26_1 < 4) = false := decide_eq_false c10
     clear c10
     obtain rfl := Option.some.inj H
     have hcv17 := own_string (P := Try.prog) Try.underlying22 Try.underlying5 Try.underlying9 (Kd.own_of_R HO_3.out)
     go_wp2
     go_ret
     exact ⟨zR, zB⟩
 ·replace c3 := Bool.eq_false_iff.mpr c3
  subst c3
  rw [if_neg (show ¬ (false = true) by decide)] at H
  obtain rfl := Option.some.inj H
  go_enter Try.func9, Try.ntmps9
  go_wp2_with (first | ((with_reducible refine gate_dst (N := 1) rfl ?_); refine be 1 #[.int .i64 a0_0, .int .i64 a0_1, .int .i64 a0_2, .int .i64 a0_3, .int .i64 a0_4, .int .i64 a0_5] 24 ?_; intro gb523 hg w18 hbox hb; have BK523 := Aside0.mk hbox; have GW523 := zW hg; replace HB := zS hb; have GE523 := GW523; clear hb hbox hg; obtain ⟨hcz19_0, hcz19_1, hcz19_2, hcz19_3, hcz19_4, hcz19_5, hfz19_0, hfz19_1, hfz19_2, hfz19_3, hfz19_4, hfz19_5⟩ := zc6 BK523) | ((with_reducible refine gate_callee (f := 11) rfl ?_); refine gl 6 Try.func11 #[.agg #[.int .i64 a0_0, .int .i64 a0_1, .int .i64 a0_2, .int .i64 a0_3, .int .i64 a0_4, .int .i64 a0_5]] ?_; (with_reducible refine (impl_InsOk.calls a0_0 a0_1 a0_2 a0_3 a0_4 a0_5 false _ A2.out).mono ?_); rintro e w20 ⟨rfl, hb⟩; refine ⟨_, rfl, ?_⟩; replace BK523 := zb BK523 hb rfl; replace HB := zS hb; try clear hb))
  go_ret
  exact ⟨zR, zB⟩

/-! ### spec_l1Four: function 47 -/
def spec_l1Four.f (a0 : Int) : Option (ByteArray) := some (strOfNums (([(Go.bits .and .i64 a0 255) % 256, (Go.bits .and .i64 (a0 / 256) 255) % 256, (Go.bits .and .i64 (a0 / 65536) 255) % 256, (Go.bits .and .i64 (a0 / 16777216) 255) % 256] : List Int)))
set_option maxHeartbeats 8000000 in
set_option maxRecDepth 100000 in
theorem spec_l1Four.calls (a0 : Int) (r : ByteArray) (w : World) (h : spec_l1Four.f a0 = some r) :
  Calls Try.prog 47 #[.int .i64 a0] w fun e w' => e = .returned (.string r) ∧ Below w.heap.size w w' := by
 have HB := Aside0.mk (Below.refl w.heap.size w)
 have H : (some (strOfNums (([(Go.bits .and .i64 a0 255) % 256, (Go.bits .and .i64 (a0 / 256) 255) % 256, (Go.bits .and .i64 (a0 / 65536) 255) % 256, (Go.bits .and .i64 (a0 / 16777216) 255) % 256] : List Int)))) = some r := h
 clear h
 obtain ⟨y531, hy531⟩ : ∃ y_ : List Int, y_ = (([(Go.bits .and .i64 a0 255) % 256, (Go.bits .and .i64 (a0 / 256) 255) % 256, (Go.bits .and .i64 (a0 / 65536) 255) % 256, (Go.bits .and .i64 (a0 / 16777216) 255) % 256] : List Int)) := ⟨_, rfl⟩
 replace H : (some (strOfNums y531)) = some r := by first | (rw [hy531]; with_reducible exact H) | (have H2_ := (Option.bind_some _ _).symm.trans H; rw [hy531]; with_reducible exact H2_) | (have H2_ := (Option.bind_some _ _).symm.trans H; with_reducible exact H2_) | with_reducible exact H | (rw [hy531]; exact H) | exact H
 have Ny531 := Aside0.mk hy531
 clear hy531
 obtain rfl := Option.some.inj H
 go_enter Try.func47, Try.ntmps47
 go_wp2_with (first | ((with_reducible refine gate_dst (N := 18) rfl ?_); refine Kd.R_lit (Kd.int .u8) _ 5 ?hg (N := 18) ?hd (xs := ([(Go.bits .and .i64 a0 255) % 256, (Go.bits .and .i64 (a0 / 256) 255) % 256, (Go.bits .and .i64 (a0 / 65536) 255) % 256, (Go.bits .and .i64 (a0 / 16777216) 255) % 256] : List Int)) (inner := [.int .u8 ((Go.bits .and .i64 a0 255) % 256), .int .u8 ((Go.bits .and .i64 (a0 / 256) 255) % 256), .int .u8 ((Go.bits .and .i64 (a0 / 65536) 255) % 256), .int .u8 ((Go.bits .and .i64 (a0 / 16777216) 255) % 256)]) (ok := fun _ => True) (okp := fun _ => True) ?hr ?hp (fun _ hk => hk) trivial (Below.refl _ _) (Nat.le_refl _) (by simp) ?_; (case hd => rfl); (case hg => rfl); (case hr => first | (go_simp; done) | (go_simp; rfl)); (case hp => exact (Reps.one (show Kd.M (Kd.int .u8) _ _ _ ((Go.bits .and .i64 a0 255) % 256) [.int .u8 ((Go.bits .and .i64 a0 255) % 256)] from rfl) (Reps.one (show Kd.M (Kd.int .u8) _ _ _ ((Go.bits .and .i64 (a0 / 256) 255) % 256) [.int .u8 ((Go.bits .and .i64 (a0 / 256) 255) % 256)] from rfl) (Reps.one (show Kd.M (Kd.int .u8) _ _ _ ((Go.bits .and .i64 (a0 / 65536) 255) % 256) [.int .u8 ((Go.bits .and .i64 (a0 / 65536) 255) % 256)] from rfl) (Reps.one (show Kd.M (Kd.int .u8) _ _ _ ((Go.bits .and .i64 (a0 / 16777216) 255) % 256) [.int .u8 ((Go.bits .and .i64 (a0 / 16777216) 255) % 256)] from rfl) (Reps.none _ _)))))); intro v532 w2 ho3 hb hg_ hnew_; clear hg_ hnew_; (first | rw [← Ny531.out] at ho3 | (simp only [Int.reduceToNat] at ho3; rw [← Ny531.out] at ho3)); have HO533 := Aside0.mk (Kd.R_lower ho3 (below_size zB)); replace HB := zS hb; clear hb ho3; have hcv4 := own_string (P := Try.prog) Try.underlying22 Try.underlying5 Try.underlying9 (Kd.own_of_R HO533.out)))
 go_ret
 exact ⟨zR, zB⟩

/-! ### spec_l1Put: function 29 -/
def spec_l1Put.f (a0_0 : Int) (a0_1 : Int) (a0_2 : Int) (a0_3 : Int) (a0_4 : Int) (a0_5 : Int) : Option (ByteArray) := (some (([(a0_0) % 256, (wrap64 ((wrap64 ((wrap64 (a0_1 * 16)) + a0_2)) + 1)) % 256, (Go.bits .and .i64 a0_3 255) % 256, (a0_5) % 256] : List Int) : List Int)).bind fun y535 => ((spec_l1Four.f a0_4).bind fun t538 => (if (strOfNums y535).size + t538.size ≤ 9223372036854775807 then (some ((strOfNums y535) ++ t538)) else (none)))
def spec_l1Put.T1 : Bool × List (List Nat × List Nat) := (true, [([], []), ([0], [0]), ([1], [1]), ([], []), ([3], [3]), ([4], [4]), ([], []), ([6], [6]), ([5, 7], [5, 7]), ([8], [8]), ([9], [9]), ([], []), ([11], [11]), ([12], [12]), ([13], [13]), ([], []), ([15], [15]), ([16], [16]), ([2, 10, 14, 17], [2, 10, 14, 17]), ([18], [18]), ([], []), ([20], [20]), ([21], [21]), ([19, 22], [19, 22]), ([23, 22, 0, 1, 2, 3, 4, 5, 6, 7, 8, 9, 10, 11, 12, 13, 14, 15, 16, 17, 18, 19, 20, 21, 22, 23], [23])])
def spec_l1Put.B1 : List Nat := [0, 1, 3, 0, 8, 24, 0, 64, 248, 504, 1016, 0, 2048, 6144, 14336, 0, 32768, 98304, 262143, 524287, 0, 1048576, 3145728, 8388607, 16777215]
theorem spec_l1Put.tab1 : rtab .any (opsOf Try.f29 1) = spec_l1Put.T1 := by kernel_rfl
theorem spec_l1Put.bits1 : waitsOk spec_l1Put.T1.2 spec_l1Put.B1 = true := by kernel_rfl
set_option maxHeartbeats 8000000 in
set_option maxRecDepth 100000 in
theorem spec_l1Put.calls (a0_0 : Int) (a0_1 : Int) (a0_2 : Int) (a0_3 : Int) (a0_4 : Int) (a0_5 : Int) (r : ByteArray) (w : World) (h : spec_l1Put.f a0_0 a0_1 a0_2 a0_3 a0_4 a0_5 = some r) :
  Calls Try.prog 29 #[.agg #[.int .i64 a0_0, .int .i64 a0_1, .int .i64 a0_2, .int .i64 a0_3, .int .i64 a0_4, .int .i64 a0_5]] w fun e w' => e = .returned (.string r) ∧ Below w.heap.size w w' := by
 have hu24 := Try.underlying24
 have HB := Aside0.mk (Below.refl w.heap.size w)
 have H : ((some (([(a0_0) % 256, (wrap64 ((wrap64 ((wrap64 (a0_1 * 16)) + a0_2)) + 1)) % 256, (Go.bits .and .i64 a0_3 255) % 256, (a0_5) % 256] : List Int) : List Int)).bind fun y535 => ((spec_l1Four.f a0_4).bind fun t538 => (if (strOfNums y535).size + t538.size ≤ 9223372036854775807 then (some ((strOfNums y535) ++ t538)) else (none)))) = some r := h
 clear h
 obtain ⟨y535, hy535⟩ : ∃ y_ : List Int, y_ = (([(a0_0) % 256, (wrap64 ((wrap64 ((wrap64 (a0_1 * 16)) + a0_2)) + 1)) % 256, (Go.bits .and .i64 a0_3 255) % 256, (a0_5) % 256] : List Int)) := ⟨_, rfl⟩
 replace H : ((spec_l1Four.f a0_4).bind fun t538 => (if (strOfNums y535).size + t538.size ≤ 9223372036854775807 then (some ((strOfNums y535) ++ t538)) else (none))) = some r := by first | (rw [hy535]; with_reducible exact H) | (have H2_ := (Option.bind_some _ _).symm.trans H; rw [hy535]; with_reducible exact H2_) | (have H2_ := (Option.bind_some _ _).symm.trans H; with_reducible exact H2_) | with_reducible exact H | (rw [hy535]; exact H) | exact H
 have Ny535 := Aside0.mk hy535
 clear hy535
 replace H := Option.bind_eq_some_iff.mp H
 obtain ⟨t538, A20, H⟩ := H
 try dsimp only at H
 have A2 := Aside0.mk A20
 clear A20
 by_cases c3 : (strOfNums y535).size + t538.size ≤ 9223372036854775807
 ·rw [if_pos c3] at H
  have c3b0 := eq_true c3
  have c3b1 : decide ((strOfNums y535).size + t538.size ≤ 9223372036854775807) = true := decide_eq_true c3
  try have c3b2 : (9223372036854775807 < (strOfNums y535).size + t538.size) = False := eq_false (Nat.not_lt.2 c3)
  obtain rfl := Option.some.inj H
  go_enter Try.func29, Try.ntmps29
  try go_wp2_with (first | ((with_reducible refine gate_dst (N := 1) rfl ?_); refine be 1 #[.int .i64 a0_0, .int .i64 a0_1, .int .i64 a0_2, .int .i64 a0_3, .int .i64 a0_4, .int .i64 a0_5] 24 ?_; intro gb534 hg w4 hbox hb; have BK534 := Aside0.mk hbox; have GW534 := zW hg; replace HB := zS hb; have GE534 := GW534; clear hb hbox hg))
  replace BK534 := Aside0.mk (blk_drew BK534.out)
  replace HB := Aside0.mk (below_drew1 HB.out)
  refine start_ (n := 25) (S := fun w' => w'.cell? ⟨gb534, 0, none⟩ = some (.int .i64 a0_0) ∧ w'.cell? ⟨gb534, 1, none⟩ = some (.int .i64 a0_1) ∧ w'.cell? ⟨gb534, 2, none⟩ = some (.int .i64 a0_2) ∧ w'.cell? ⟨gb534, 3, none⟩ = some (.int .i64 a0_3) ∧ w'.cell? ⟨gb534, 4, none⟩ = some (.int .i64 a0_4) ∧ w'.cell? ⟨gb534, 5, none⟩ = some (.int .i64 a0_5)) (ds := []) #[false, false, false, false, false, false, false, false, false, false, false, false, false, false, false, false, false, false, false, false, false, false, false, false, false] (by kernel_rfl) rfl rfl ⟨(blk_cell BK534.out 0).trans rfl, (blk_cell BK534.out 1).trans rfl, (blk_cell BK534.out 2).trans rfl, (blk_cell BK534.out 3).trans rfl, (blk_cell BK534.out 4).trans rfl, (blk_cell BK534.out 5).trans rfl⟩ (fun hHeld => ?_); refine with_tabW spec_l1Put.tab1 spec_l1Put.bits1 (fun HT_ HW_ => ?_)
  generalize w4.drew = w5 at BK534 HB hHeld ⊢
  refine pz 0 3 ?_
  refine pz 3 6 ?_
  refine pz 6 9 ?_
  refine pz 11 14 ?_
  refine pz 15 18 ?_
  refine pz 20 23 ?_
  refine tz 1 4 ?_
  refine pz 2 5 ?_
  refine tz 4 7 ?_
  refine pz 5 8 ?_
  refine tz 7 10 ?_
  refine pz 8 11 ?_
  refine pz 9 12 ?_
  refine pz 10 13 ?_
  refine tz 12 15 ?_
  refine pz 13 16 ?_
  refine pz 14 17 ?_
  refine tz 16 19 ?_
  refine pz 17 20 ?_
  refine tz 21 24 ?_
  refine join_ (σ := Value) 2 #[true, true, true, true, true, true, true, true, true, true, true, true, true, true, true, true, true, true, true, true, true, true, true, false, false] (fun s_ => [(21, s_), (22, .string (strOfNums y535)), (25, .string t538)]) (fun s_ w' => (w'.cell? ⟨gb534, 0, none⟩ = some (.int .i64 a0_0) ∧ w'.cell? ⟨gb534, 1, none⟩ = some (.int .i64 a0_1) ∧ w'.cell? ⟨gb534, 2, none⟩ = some (.int .i64 a0_2) ∧ w'.cell? ⟨gb534, 3, none⟩ = some (.int .i64 a0_3) ∧ w'.cell? ⟨gb534, 4, none⟩ = some (.int .i64 a0_4) ∧ w'.cell? ⟨gb534, 5, none⟩ = some (.int .i64 a0_5)) ∧ (Kd.R (Kd.int .u8) 5 w' w.heap.size (fun _ => True) s_ y535) ∧ (w'.heap[gb534]? = some (.cells #[.int .i64 a0_0, .int .i64 a0_1, .int .i64 a0_2, .int .i64 a0_3, .int .i64 a0_4, .int .i64 a0_5] 24 (0, 0))) ∧ (Below w.heap.size w w')) ?_ ?_
  rotate_left
  ·intro hCont
   refine two_ (i := 18) (j := 22) (Ni := some 21) (Nj := some 25) #[true, true, true, true, true, true, true, true, true, true, true, true, true, true, true, true, true, true, true, false, true, true, false, false, false] #[true, true, true, true, true, true, true, true, true, true, true, true, true, true, true, true, true, true, false, false, true, true, true, false, false] rfl rfl rfl rfl (two_of HT_.out (by kernel_rfl)) (by decide) (by decide) (fun K hK => ?_) (fun K hK => ?_)
   ·skip
    refine Kd.R_lit_step (Kd.int .u8) _ 5 ?hg (N := 21) ?hd (xs := ([(a0_0) % 256, (wrap64 ((wrap64 ((wrap64 (a0_1 * 16)) + a0_2)) + 1)) % 256, (Go.bits .and .i64 a0_3 255) % 256, (a0_5) % 256] : List Int)) (inner := [.int .u8 ((a0_0) % 256), .int .u8 ((wrap64 ((wrap64 ((wrap64 (a0_1 * 16)) + a0_2)) + 1)) % 256), .int .u8 ((Go.bits .and .i64 a0_3 255) % 256), .int .u8 ((a0_5) % 256)]) (ok := fun _ => True) (okp := fun _ => True) ?hr ?hp (fun _ hk => hk) trivial (Below.refl _ _) (Nat.le_refl _) (by simp) ?_; (case hd => rfl); (case hg => rfl); (case hr => first | (go_simp; done) | (go_simp; rfl)); (case hp => exact (Reps.one (show Kd.M (Kd.int .u8) _ _ _ ((a0_0) % 256) [.int .u8 ((a0_0) % 256)] from rfl) (Reps.one (show Kd.M (Kd.int .u8) _ _ _ ((wrap64 ((wrap64 ((wrap64 (a0_1 * 16)) + a0_2)) + 1)) % 256) [.int .u8 ((wrap64 ((wrap64 ((wrap64 (a0_1 * 16)) + a0_2)) + 1)) % 256)] from rfl) (Reps.one (show Kd.M (Kd.int .u8) _ _ _ ((Go.bits .and .i64 a0_3 255) % 256) [.int .u8 ((Go.bits .and .i64 a0_3 255) % 256)] from rfl) (Reps.one (show Kd.M (Kd.int .u8) _ _ _ ((a0_5) % 256) [.int .u8 ((a0_5) % 256)] from rfl) (Reps.none _ _))))))
    intro v536 w6 ho7 hb hg_ hnew_
    clear hg_ hnew_
    (first | rw [← Ny535.out] at ho7 | (simp only [Int.reduceToNat] at ho7; rw [← Ny535.out] at ho7))
    have HO537 := Aside0.mk (Kd.R_lower ho7 (below_size zB))
    replace BK534 := zb BK534 hb rfl
    replace HB := zS hb
    clear hb ho7
    refine hK.out _ _ ⟨(blk_cell BK534.out 0).trans rfl, (blk_cell BK534.out 1).trans rfl, (blk_cell BK534.out 2).trans rfl, (blk_cell BK534.out 3).trans rfl, (blk_cell BK534.out 4).trans rfl, (blk_cell BK534.out 5).trans rfl⟩ (fun hHeld => ?_)
    clear hK K
    refine nz ?_
    refine two_ (i := 19) (j := 22) (Ni := some 22) (Nj := some 25) #[true, true, true, true, true, true, true, true, true, true, true, true, true, true, true, true, true, true, true, true, true, true, false, false, false] #[true, true, true, true, true, true, true, true, true, true, true, true, true, true, true, true, true, true, true, false, true, true, true, false, false] rfl rfl rfl rfl (two_of HT_.out (by kernel_rfl)) (by decide) (by decide) (fun K hK => ?_) (fun K hK => ?_)
    ·skip
     have hcv8 := own_string (P := Try.prog) Try.underlying22 Try.underlying5 Try.underlying9 (Kd.own_of_R HO537.out)
     refine value_ (w1 := ?_) (v := ?_) (by rfl) rfl ?_ ?_
     rotate_left 2
     ·go_simp
      constructor
      ·rfl
      ·rfl
     clear hcv8
     refine hK.out _ _ ⟨(blk_cell BK534.out 0).trans rfl, (blk_cell BK534.out 1).trans rfl, (blk_cell BK534.out 2).trans rfl, (blk_cell BK534.out 3).trans rfl, (blk_cell BK534.out 4).trans rfl, (blk_cell BK534.out 5).trans rfl⟩ (fun hHeld => ?_)
     clear hK K
     refine nz ?_
     refine oz 22 25 fun K hK => ?_
     refine gz Try.func47 #[.int .i64 a0_4] ?_
     with_reducible refine (spec_l1Four.calls a0_4 t538 _ A2.out).mono ?_
     rintro e w9 ⟨rfl, hb⟩
     refine ⟨_, rfl, ?_⟩
     replace HO537 := Aside0.mk (Kd.R_below (by (with_reducible repeat (first | apply Kd.R_alloc | apply Kd.R_drewN | apply Kd.R_drew)); exact HO537.out) hb)
     replace BK534 := zb BK534 hb rfl
     replace HB := zS hb
     try clear hb
     refine hK.out _ _ ⟨(blk_cell BK534.out 0).trans rfl, (blk_cell BK534.out 1).trans rfl, (blk_cell BK534.out 2).trans rfl, (blk_cell BK534.out 3).trans rfl, (blk_cell BK534.out 4).trans rfl, (blk_cell BK534.out 5).trans rfl⟩ (fun hHeld => ?_)
     clear hK K
     refine nz ?_
     exact norm_ (by simp only [putAll, Act.put, List.setIfInBounds_toArray, List.set_cons_zero, List.set_cons_succ]) (hCont (v536) _ ⟨hHeld, (by (with_reducible repeat (first | apply Kd.R_alloc | apply Kd.R_drewN | apply Kd.R_drew)); exact HO537.out), (by exact bq BK534.out), zB⟩)
    ·skip
     refine gz Try.func47 #[.int .i64 a0_4] ?_
     with_reducible refine (spec_l1Four.calls a0_4 t538 _ A2.out).mono ?_
     rintro e w8 ⟨rfl, hb⟩
     refine ⟨_, rfl, ?_⟩
     replace HO537 := Aside0.mk (Kd.R_below (by (with_reducible repeat (first | apply Kd.R_alloc | apply Kd.R_drewN | apply Kd.R_drew)); exact HO537.out) hb)
     replace BK534 := zb BK534 hb rfl
     replace HB := zS hb
     try clear hb
     refine hK.out _ _ ⟨(blk_cell BK534.out 0).trans rfl, (blk_cell BK534.out 1).trans rfl, (blk_cell BK534.out 2).trans rfl, (blk_cell BK534.out 3).trans rfl, (blk_cell BK534.out 4).trans rfl, (blk_cell BK534.out 5).trans rfl⟩ (fun hHeld => ?_)
     clear hK K
     refine nz ?_
     refine oz 19 22 fun K hK => ?_
     have hcv9 := own_string (P := Try.prog) Try.underlying22 Try.underlying5 Try.underlying9 (Kd.own_of_R HO537.out)
     refine value_ (w1 := ?_) (v := ?_) (by rfl) rfl ?_ ?_
     rotate_left 2
     ·go_simp
      constructor
      ·rfl
      ·rfl
     clear hcv9
     refine hK.out _ _ ⟨(blk_cell BK534.out 0).trans rfl, (blk_cell BK534.out 1).trans rfl, (blk_cell BK534.out 2).trans rfl, (blk_cell BK534.out 3).trans rfl, (blk_cell BK534.out 4).trans rfl, (blk_cell BK534.out 5).trans rfl⟩ (fun hHeld => ?_)
     clear hK K
     refine nz ?_
     exact norm_ (by simp only [putAll, Act.put, List.setIfInBounds_toArray, List.set_cons_zero, List.set_cons_succ]) (hCont (v536) _ ⟨hHeld, (by (with_reducible repeat (first | apply Kd.R_alloc | apply Kd.R_drewN | apply Kd.R_drew)); exact HO537.out), (by exact bq BK534.out), zB⟩)
   ·skip
    refine gz Try.func47 #[.int .i64 a0_4] ?_
    with_reducible refine (spec_l1Four.calls a0_4 t538 _ A2.out).mono ?_
    rintro e w6 ⟨rfl, hb⟩
    refine ⟨_, rfl, ?_⟩
    replace BK534 := zb BK534 hb rfl
    replace HB := zS hb
    try clear hb
    refine hK.out _ _ ⟨(blk_cell BK534.out 0).trans rfl, (blk_cell BK534.out 1).trans rfl, (blk_cell BK534.out 2).trans rfl, (blk_cell BK534.out 3).trans rfl, (blk_cell BK534.out 4).trans rfl, (blk_cell BK534.out 5).trans rfl⟩ (fun hHeld => ?_)
    clear hK K
    refine nz ?_
    refine oz 18 21 fun K hK => ?_
    refine Kd.R_lit_step (Kd.int .u8) _ 5 ?hg (N := 21) ?hd (xs := ([(a0_0) % 256, (wrap64 ((wrap64 ((wrap64 (a0_1 * 16)) + a0_2)) + 1)) % 256, (Go.bits .and .i64 a0_3 255) % 256, (a0_5) % 256] : List Int)) (inner := [.int .u8 ((a0_0) % 256), .int .u8 ((wrap64 ((wrap64 ((wrap64 (a0_1 * 16)) + a0_2)) + 1)) % 256), .int .u8 ((Go.bits .and .i64 a0_3 255) % 256), .int .u8 ((a0_5) % 256)]) (ok := fun _ => True) (okp := fun _ => True) ?hr ?hp (fun _ hk => hk) trivial (Below.refl _ _) (Nat.le_refl _) (by simp) ?_; (case hd => rfl); (case hg => rfl); (case hr => first | (go_simp; done) | (go_simp; rfl)); (case hp => exact (Reps.one (show Kd.M (Kd.int .u8) _ _ _ ((a0_0) % 256) [.int .u8 ((a0_0) % 256)] from rfl) (Reps.one (show Kd.M (Kd.int .u8) _ _ _ ((wrap64 ((wrap64 ((wrap64 (a0_1 * 16)) + a0_2)) + 1)) % 256) [.int .u8 ((wrap64 ((wrap64 ((wrap64 (a0_1 * 16)) + a0_2)) + 1)) % 256)] from rfl) (Reps.one (show Kd.M (Kd.int .u8) _ _ _ ((Go.bits .and .i64 a0_3 255) % 256) [.int .u8 ((Go.bits .and .i64 a0_3 255) % 256)] from rfl) (Reps.one (show Kd.M (Kd.int .u8) _ _ _ ((a0_5) % 256) [.int .u8 ((a0_5) % 256)] from rfl) (Reps.none _ _))))))
    intro v536 w7 ho8 hb hg_ hnew_
    clear hg_ hnew_
    (first | rw [← Ny535.out] at ho8 | (simp only [Int.reduceToNat] at ho8; rw [← Ny535.out] at ho8))
    have HO537 := Aside0.mk (Kd.R_lower ho8 (below_size zB))
    replace BK534 := zb BK534 hb rfl
    replace HB := zS hb
    clear hb ho8
    refine hK.out _ _ ⟨(blk_cell BK534.out 0).trans rfl, (blk_cell BK534.out 1).trans rfl, (blk_cell BK534.out 2).trans rfl, (blk_cell BK534.out 3).trans rfl, (blk_cell BK534.out 4).trans rfl, (blk_cell BK534.out 5).trans rfl⟩ (fun hHeld => ?_)
    clear hK K
    refine nz ?_
    refine oz 19 22 fun K hK => ?_
    have hcv9 := own_string (P := Try.prog) Try.underlying22 Try.underlying5 Try.underlying9 (Kd.own_of_R HO537.out)
    refine value_ (w1 := ?_) (v := ?_) (by rfl) rfl ?_ ?_
    rotate_left 2
    ·go_simp
     constructor
     ·rfl
     ·rfl
    clear hcv9
    refine hK.out _ _ ⟨(blk_cell BK534.out 0).trans rfl, (blk_cell BK534.out 1).trans rfl, (blk_cell BK534.out 2).trans rfl, (blk_cell BK534.out 3).trans rfl, (blk_cell BK534.out 4).trans rfl, (blk_cell BK534.out 5).trans rfl⟩ (fun hHeld => ?_)
    clear hK K
    refine nz ?_
    exact norm_ (by simp only [putAll, Act.put, List.setIfInBounds_toArray, List.set_cons_zero, List.set_cons_succ]) (hCont (v536) _ ⟨hHeld, (by (with_reducible repeat (first | apply Kd.R_alloc | apply Kd.R_drewN | apply Kd.R_drew)); exact HO537.out), (by exact bq BK534.out), zB⟩)
  rintro v536 w10 ⟨hS_, h0_, h1_, h2_⟩
  have n0_ : Aside0 (Kd.R (Kd.int .u8) 5 w10 w.heap.size (fun _ => True) v536 y535) := ⟨h0_⟩
  have n1_ : Aside0 (w10.heap[gb534]? = some (.cells #[.int .i64 a0_0, .int .i64 a0_1, .int .i64 a0_2, .int .i64 a0_3, .int .i64 a0_4, .int .i64 a0_5] 24 (0, 0))) := ⟨h1_⟩
  have n2_ : Aside0 (Below w.heap.size w w10) := ⟨h2_⟩
  clear BK534
  clear HB
  clear h0_ h1_ h2_
  have HO537 := n0_
  have BK534 := n1_
  have HB := n2_
  clear n0_ n1_ n2_
  have hHeld : w10.cell? ⟨gb534, 0, none⟩ = some (.int .i64 a0_0) ∧ w10.cell? ⟨gb534, 1, none⟩ = some (.int .i64 a0_1) ∧ w10.cell? ⟨gb534, 2, none⟩ = some (.int .i64 a0_2) ∧ w10.cell? ⟨gb534, 3, none⟩ = some (.int .i64 a0_3) ∧ w10.cell? ⟨gb534, 4, none⟩ = some (.int .i64 a0_4) ∧ w10.cell? ⟨gb534, 5, none⟩ = some (.int .i64 a0_5) := hS_
  refine norm_ (a' := ?_) ?_ ?_
  rotate_left
  ·simp only [putAll, Act.put, List.setIfInBounds_toArray, List.set_cons_zero, List.set_cons_succ]
   rfl
  refine pz 23 26 ?_
  refine pz 24 2 ?_
  refine done_ (done_of HT_.out (by kernel_rfl)) ?_
  try go_wp2
  go_ret
  exact ⟨zR, zB⟩
 ·rw [if_neg c3] at H
  exact absurd H (by simp)

/-! ### spec_InsPut: function 10 -/
def spec_InsPut.f (a0_0 : Int) (a0_1 : Int) (a0_2 : Int) (a0_3 : Int) (a0_4 : Int) (a0_5 : Int) : Option (ByteArray) := (spec_l1InsOk.f a0_0 a0_1 a0_2 a0_3 a0_4 a0_5).bind fun t540 => (if t540 = true then ((spec_l1Put.f a0_0 a0_1 a0_2 a0_3 a0_4 a0_5).bind fun t541 => (some t541)) else (some (⟨#[]⟩ : ByteArray)))
set_option maxHeartbeats 8000000 in
set_option maxRecDepth 100000 in
theorem spec_InsPut.calls (a0_0 : Int) (a0_1 : Int) (a0_2 : Int) (a0_3 : Int) (a0_4 : Int) (a0_5 : Int) (r : ByteArray) (w : World) (h : spec_InsPut.f a0_0 a0_1 a0_2 a0_3 a0_4 a0_5 = some r) :
  Calls Try.prog 10 #[.agg #[.int .i64 a0_0, .int .i64 a0_1, .int .i64 a0_2, .int .i64 a0_3, .int .i64 a0_4, .int .i64 a0_5]] w fun e w' => e = .returned (.string r) ∧ Below w.heap.size w w' := by
 have hu24 := Try.underlying24
 have HB := Aside0.mk (Below.refl w.heap.size w)
 have H : ((spec_l1InsOk.f a0_0 a0_1 a0_2 a0_3 a0_4 a0_5).bind fun t540 => (if t540 = true then ((spec_l1Put.f a0_0 a0_1 a0_2 a0_3 a0_4 a0_5).bind fun t541 => (some t541)) else (some (⟨#[]⟩ : ByteArray)))) = some r := h
 clear h
 replace H := Option.bind_eq_some_iff.mp H
 obtain ⟨t540, A20, H⟩ := H
 try dsimp only at H
 have A2 := Aside0.mk A20
 clear A20
 by_cases c3 : t540 = true
 ·subst c3
  rw [if_pos rfl] at H
  replace H := Option.bind_eq_some_iff.mp H
  obtain ⟨t541, A40, H⟩ := H
  try dsimp only at H
  have A4 := Aside0.mk A40
  clear A40
  obtain rfl := Option.some.inj H
  go_enter Try.func10, Try.ntmps10
  go_wp2_with (first | ((with_reducible refine gate_dst (N := 1) rfl ?_); refine be 1 #[.int .i64 a0_0, .int .i64 a0_1, .int .i64 a0_2, .int .i64 a0_3, .int .i64 a0_4, .int .i64 a0_5] 24 ?_; intro gb539 hg w5 hbox hb; have BK539 := Aside0.mk hbox; have GW539 := zW hg; replace HB := zS hb; have GE539 := GW539; clear hb hbox hg; obtain ⟨hcz6_0, hcz6_1, hcz6_2, hcz6_3, hcz6_4, hcz6_5, hfz6_0, hfz6_1, hfz6_2, hfz6_3, hfz6_4, hfz6_5⟩ := zc6 BK539) | ((with_reducible refine gate_callee (f := 28) rfl ?_); refine gl 4 Try.func28 #[.agg #[.int .i64 a0_0, .int .i64 a0_1, .int .i64 a0_2, .int .i64 a0_3, .int .i64 a0_4, .int .i64 a0_5]] ?_; (with_reducible refine (spec_l1InsOk.calls a0_0 a0_1 a0_2 a0_3 a0_4 a0_5 true _ A2.out).mono ?_); rintro e w7 ⟨rfl, hb⟩; refine ⟨_, rfl, ?_⟩; replace BK539 := zb BK539 hb rfl; replace HB := zS hb; try clear hb; obtain ⟨hcz8_0, hcz8_1, hcz8_2, hcz8_3, hcz8_4, hcz8_5, hfz8_0, hfz8_1, hfz8_2, hfz8_3, hfz8_4, hfz8_5⟩ := zc6 BK539) | ((with_reducible refine gate_callee (f := 29) rfl ?_); refine gl 7 Try.func29 #[.agg #[.int .i64 a0_0, .int .i64 a0_1, .int .i64 a0_2, .int .i64 a0_3, .int .i64 a0_4, .int .i64 a0_5]] ?_; (with_reducible refine (spec_l1Put.calls a0_0 a0_1 a0_2 a0_3 a0_4 a0_5 t541 _ A4.out).mono ?_); rintro e w9 ⟨rfl, hb⟩; refine ⟨_, rfl, ?_⟩; replace BK539 := zb BK539 hb rfl; replace HB := zS hb; try clear hb))
  go_ret
  exact ⟨zR, zB⟩
 ·replace c3 := Bool.eq_false_iff.mpr c3
  subst c3
  rw [if_neg (show ¬ (false = true) by decide)] at H
  obtain rfl := Option.some.inj H
  go_enter Try.func10, Try.ntmps10
  go_wp2_with (first | ((with_reducible refine gate_dst (N := 1) rfl ?_); refine be 1 #[.int .i64 a0_0, .int .i64 a0_1, .int .i64 a0_2, .int .i64 a0_3, .int .i64 a0_4, .int .i64 a0_5] 24 ?_; intro gb539 hg w10 hbox hb; have BK539 := Aside0.mk hbox; have GW539 := zW hg; replace HB := zS hb; have GE539 := GW539; clear hb hbox hg; obtain ⟨hcz11_0, hcz11_1, hcz11_2, hcz11_3, hcz11_4, hcz11_5, hfz11_0, hfz11_1, hfz11_2, hfz11_3, hfz11_4, hfz11_5⟩ := zc6 BK539) | ((with_reducible refine gate_callee (f := 28) rfl ?_); refine gl 4 Try.func28 #[.agg #[.int .i64 a0_0, .int .i64 a0_1, .int .i64 a0_2, .int .i64 a0_3, .int .i64 a0_4, .int .i64 a0_5]] ?_; (with_reducible refine (spec_l1InsOk.calls a0_0 a0_1 a0_2 a0_3 a0_4 a0_5 false _ A2.out).mono ?_); rintro e w12 ⟨rfl, hb⟩; refine ⟨_, rfl, ?_⟩; replace BK539 := zb BK539 hb rfl; replace HB := zS hb; try clear hb))
  go_ret
  exact ⟨zR, zB⟩

end Go.Proofs.Ythhcdkmfpdpieaa.Q
