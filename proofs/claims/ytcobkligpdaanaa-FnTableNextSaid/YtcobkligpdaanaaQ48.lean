/- The machine's side of this seat's laws: Go functions as Lean functions, and their contracts. By a program of this work over the kit's print. -/
import Derived.Test.YtcobkligpdaanaaQ0
import Derived.Test.YtcobkligpdaanaaQ3
import Derived.Test.YtcobkligpdaanaaQ4
import Derived.Test.YtcobkligpdaanaaQ45
import Derived.Test.YtcobkligpdaanaaQ47
namespace Go.Proofs.Ytcobkligpdaanaa.Q
open Go.RowKit Go.Proofs.YtcobkligpdaanaaW.PrintWords Go.Proofs.YtcobkligpdaanaaW.PrintLast Go.Proofs.YtcobkligpdaanaaW.PrintMore
attribute [local go_sem] max2_int min2_int max_two min_two max_three min_three max_four min_four Go.Proofs.YtcobkligpdaanaaN.not_i64 Go.Proofs.YtcobkligpdaanaaN.isSome_setCell   -- for this text's walks alone
set_option linter.unusedVariables false
set_option linter.unusedSimpArgs false

/-! ### spec_l20Table: function 128 -/
def spec_l20Table.l0 : Nat → Int → List Int → Int → Int → Int → Int → List Int → List ByteArray → Option (Int × Int × Int × List Int × List ByteArray × Int)
 | 0, _, _, _, _, _, _, _, _ => none
 | k + 1, x4, x1000, x1001, x1478000, x1478001, x1478002, x1478003, x1478004 => if x4 > 0 then ((spec_l20Rd_one.f k x1000 x1001 (([0, 1, 2, 3, 7, 200, 4294967295] : List Int))).bind fun bt1483 => ((spec_l20Number.f k x1000 bt1483.2).bind fun bt1485 => ((spec_l4Bytes.f k bt1485.1 x1478001).bind fun t1487 => ((spec_TablePut.f k x1478000 x1478001 x1478002 x1478003 x1478004 bt1483.1 t1487).bind fun bt1488 => (spec_l20Table.l0 k (wrap64 (x4 - 1)) x1000 bt1485.2 bt1488.1 bt1488.2.1 bt1488.2.2.1 bt1488.2.2.2.1 bt1488.2.2.2.2.1))))) else (some (x1478000, x1478001, x1478002, x1478003, x1478004, x1001))
def spec_l20Table.f (k : Nat) (s0_0 : List Int) (s0_1 : Int) : Option (Int × Int × Int × List Int × List ByteArray × Int) := (spec_l20Rd_pick.f k s0_0 s0_1 2).bind fun bt1456 => ((spec_l20Rd_one.f k s0_0 bt1456.2 (([1, 2, 4, 8] : List Int))).bind fun bt1461 => ((spec_l20Rd_one.f k s0_0 bt1461.2 (([1, 2, 4, 8] : List Int))).bind fun bt1466 => ((spec_TableNew.f k (wrap64 (1 + bt1456.1)) bt1461.1 bt1466.1).bind fun bt1468 => ((spec_l20Rd_pick.f k s0_0 bt1466.2 6).bind fun bt1478 => (spec_l20Table.l0 k bt1478.1 s0_0 bt1478.2 bt1468.1 bt1468.2.1 bt1468.2.2.1 bt1468.2.2.2.1 bt1468.2.2.2.2)))))


def spec_l20Table.T5 : Bool × List (List Nat × List Nat) := (true, [([], []), ([], []), ([], []), ([1, 2], [1, 2]), ([], []), ([4, 3], [4]), ([], []), ([6], [6]), ([5, 7, 5], [5, 7]), ([0, 3, 8, 8], [0, 3, 8]), ([9], [9]), ([10], [10]), ([10], [10]), ([], []), ([13, 11, 9, 0, 1, 2, 3, 4, 5, 6, 7, 8, 9, 10, 11, 13], [11, 13]), ([12, 14, 0, 1, 2, 3, 4, 5, 6, 7, 8, 9, 10, 11, 12, 13, 14], [12])])
def spec_l20Table.B5 : List Nat := [0, 0, 0, 6, 0, 30, 0, 64, 254, 511, 1023, 2047, 2047, 0, 12287, 32767]
theorem spec_l20Table.tab5 : rtab .any (opsOf Try.f128 5) = spec_l20Table.T5 := by kernel_rfl
theorem spec_l20Table.bits5 : waitsOk spec_l20Table.T5.2 spec_l20Table.B5 = true := by kernel_rfl
set_option maxHeartbeats 8000000 in
set_option maxRecDepth 100000 in
theorem spec_l20Table.calls (k : Nat) (g : Nat) (s0_0 : List Int) (s0_1 : Int) (r1 : Int) (r2 : Int) (r3 : Int) (r4 : List Int) (r5 : List ByteArray) (r6 : Int) (w0 w : World) (hI : IsS101 w0 w g s0_0 s0_1) (hB : Below w0.heap.size w0 w) (h : spec_l20Table.f k s0_0 s0_1 = some (r1, r2, r3, r4, r5, r6)) :
  Calls Try.prog 128 #[.pointer (some ⟨g, 0, none⟩)] w fun e w' => ∃ v3_ v4_ : Value, e = .returned (.agg #[.int .i64 r1, .int .i64 r2, .int .i64 r3, v3_, v4_]) ∧ Kd.R (Kd.int .i64) 3 w' w.heap.size (fun _ => True) v3_ r4 ∧ Kd.R Kd.string 9 w' w.heap.size (fun _ => True) v4_ r5 ∧ IsS101 w0 w' g s0_0 r6 ∧ Below w0.heap.size w0 w' ∧ KeepBut w w' g none := by
 have hu60 := Try.underlying60
 have HI0 := Aside0.mk hI
 have HK := Aside0.mk (KeepBut.refl w g none)
 have HL := Aside0.mk hB.size
 clear hI
 have HW0 := Aside0.mk hB.size
 have HB := Aside0.mk hB
 clear hB
 have H : ((spec_l20Rd_pick.f k s0_0 s0_1 2).bind fun bt1456 => ((spec_l20Rd_one.f k s0_0 bt1456.2 (([1, 2, 4, 8] : List Int))).bind fun bt1461 => ((spec_l20Rd_one.f k s0_0 bt1461.2 (([1, 2, 4, 8] : List Int))).bind fun bt1466 => ((spec_TableNew.f k (wrap64 (1 + bt1456.1)) bt1461.1 bt1466.1).bind fun bt1468 => ((spec_l20Rd_pick.f k s0_0 bt1466.2 6).bind fun bt1478 => (spec_l20Table.l0 k bt1478.1 s0_0 bt1478.2 bt1468.1 bt1468.2.1 bt1468.2.2.1 bt1468.2.2.2.1 bt1468.2.2.2.2)))))) = some (r1, r2, r3, r4, r5, r6) := h
 clear h
 replace H := Option.bind_eq_some_iff.mp H
 obtain ⟨⟨t1456, t1457⟩, A20, H⟩ := H
 try dsimp only at H
 have A2 := Aside0.mk A20
 clear A20
 obtain ⟨y1458, hy1458⟩ : ∃ y_ : List Int, y_ = (([1, 2, 4, 8] : List Int)) := ⟨_, rfl⟩
 replace H : ((spec_l20Rd_one.f k s0_0 t1457 y1458).bind fun bt1461 => ((spec_l20Rd_one.f k s0_0 bt1461.2 (([1, 2, 4, 8] : List Int))).bind fun bt1466 => ((spec_TableNew.f k (wrap64 (1 + t1456)) bt1461.1 bt1466.1).bind fun bt1468 => ((spec_l20Rd_pick.f k s0_0 bt1466.2 6).bind fun bt1478 => (spec_l20Table.l0 k bt1478.1 s0_0 bt1478.2 bt1468.1 bt1468.2.1 bt1468.2.2.1 bt1468.2.2.2.1 bt1468.2.2.2.2))))) = some (r1, r2, r3, r4, r5, r6) := by first | (rw [hy1458]; with_reducible exact H) | (have H2_ := (Option.bind_some _ _).symm.trans H; rw [hy1458]; with_reducible exact H2_) | (have H2_ := (Option.bind_some _ _).symm.trans H; with_reducible exact H2_) | with_reducible exact H | (rw [hy1458]; exact H) | exact H
 have Ny1458 := Aside0.mk hy1458
 clear hy1458
 replace H := Option.bind_eq_some_iff.mp H
 obtain ⟨⟨t1461, t1462⟩, A30, H⟩ := H
 try dsimp only at H
 have A3 := Aside0.mk A30
 clear A30
 obtain ⟨y1463, hy1463⟩ : ∃ y_ : List Int, y_ = (([1, 2, 4, 8] : List Int)) := ⟨_, rfl⟩
 replace H : ((spec_l20Rd_one.f k s0_0 t1462 y1463).bind fun bt1466 => ((spec_TableNew.f k (wrap64 (1 + t1456)) t1461 bt1466.1).bind fun bt1468 => ((spec_l20Rd_pick.f k s0_0 bt1466.2 6).bind fun bt1478 => (spec_l20Table.l0 k bt1478.1 s0_0 bt1478.2 bt1468.1 bt1468.2.1 bt1468.2.2.1 bt1468.2.2.2.1 bt1468.2.2.2.2)))) = some (r1, r2, r3, r4, r5, r6) := by first | (rw [hy1463]; with_reducible exact H) | (have H2_ := (Option.bind_some _ _).symm.trans H; rw [hy1463]; with_reducible exact H2_) | (have H2_ := (Option.bind_some _ _).symm.trans H; with_reducible exact H2_) | with_reducible exact H | (rw [hy1463]; exact H) | exact H
 have Ny1463 := Aside0.mk hy1463
 clear hy1463
 replace H := Option.bind_eq_some_iff.mp H
 obtain ⟨⟨t1466, t1467⟩, A40, H⟩ := H
 try dsimp only at H
 have A4 := Aside0.mk A40
 clear A40
 replace H := Option.bind_eq_some_iff.mp H
 obtain ⟨⟨t1468, t1469, t1470, t1471, t1474⟩, A50, H⟩ := H
 try dsimp only at H
 have A5 := Aside0.mk A50
 clear A50
 replace H := Option.bind_eq_some_iff.mp H
 obtain ⟨⟨t1478, t1479⟩, A60, H⟩ := H
 try dsimp only at H
 have A6 := Aside0.mk A60
 clear A60
 have H' := Aside0.mk H
 clear H
 go_enter Try.func128, Try.ntmps128
 go_wp2_with (first | ((with_reducible refine gate_dst (N := 2) rfl ?_); refine box_event ?hg (N := 2) ?hd (cs := #[.int .i64 0, .int .i64 0, .int .i64 0, .slice none 0 0, .slice none 0 0]) (t := 60) ?hr ?_; (case hd => rfl); (case hg => rfl); (case hr => first | (go_simp; done) | (go_simp; rfl)); intro gb1455 hg w7 hbox hb; have n0_ := Aside0.mk (IsS101.below (by repeat (first | (with_reducible first | exact HI0.out | apply IsS101.alloc | apply IsS101.drewN | apply IsS101.drew | apply IsS101.set_1) | exact HI0.out)) hb); have n1_ := Aside0.mk (KeepBut.trans (by repeat (first | (with_reducible first | exact HK.out | apply KeepBut.set_ | apply keep_drewN | apply keep_drew | apply keep_alloc) | exact HK.out)) (KeepBut.of_below hb g none) (.inl rfl)); have n2_ := Aside0.mk (below_step (by repeat (first | (with_reducible first | exact HB.out | apply below_alloc | apply pw_below_drewN | apply below_drew1 | refine below_set ?_ (IsS101.ge HI0.out)) | exact HB.out)) hb); have n3_ := Aside0.mk (hbox); have n4_ := Aside0.mk ((by rw [hg]; exact (keep_size (w := w) (g := g) (row := none) (by repeat (first | (with_reducible first | exact HK.out | apply KeepBut.set_ | apply keep_drewN | apply keep_drew | apply keep_alloc) | exact HK.out))) : w.heap.size ≤ gb1455)); have n5_ := Aside0.mk ((Nat.le_trans HW0.out (by rw [hg]; exact (keep_size (w := w) (g := g) (row := none) (by repeat (first | (with_reducible first | exact HK.out | apply KeepBut.set_ | apply keep_drewN | apply keep_drew | apply keep_alloc) | exact HK.out))) : w.heap.size ≤ gb1455) : w0.heap.size ≤ gb1455)); have n6_ := Aside0.mk ((by rw [hg]; exact Nat.ne_of_lt (IsS101.lt (show IsS101 w0 _ g s0_0 s0_1 from by repeat (first | (with_reducible first | exact HI0.out | apply IsS101.alloc | apply IsS101.drewN | apply IsS101.drew | apply IsS101.set_1) | exact HI0.out))) : g ≠ gb1455)); have n7_ := Aside0.mk ((by rw [hg]; exact Nat.ne_of_gt (IsS101.lt (show IsS101 w0 _ g s0_0 s0_1 from by repeat (first | (with_reducible first | exact HI0.out | apply IsS101.alloc | apply IsS101.drewN | apply IsS101.drew | apply IsS101.set_1) | exact HI0.out))) : gb1455 ≠ g)); clear HI0; clear HK; clear HB; have HI0 := n0_; have HK := n1_; have HB := n2_; have BK1455 := n3_; have GW1455 := n4_; have GE1455 := n5_; have NB0_1455 := n6_; have NB1455_0 := n7_; clear n0_ n1_ n2_ n3_ n4_ n5_ n6_ n7_; clear hb hbox hg) | ((with_reducible refine gate_callee (f := 59) rfl ?_); refine goesL_ (some 8) rfl rfl Try.func59 (by kernel_rfl) rfl #[.pointer (some ⟨g, 0, none⟩), .int .i64 2] rfl (by (try simp only [List.map_toArray, List.map_cons, List.map_nil]); first | done | rfl | (simp only [List.length_drop, List.length_take]; rfl)) ?_; (with_reducible refine (spec_l20Rd_pick.calls k g s0_0 s0_1 2 t1456 t1457 w0 _ ?side1 ?side2 A2.out).mono ?_); (case side1 => repeat (first | (with_reducible first | exact HI0.out | apply IsS101.alloc | apply IsS101.drewN | apply IsS101.drew | apply IsS101.set_1 | refine IsS101.far ?_ NB0_1455.out _) | exact HI0.out)); (case side2 => repeat (first | (with_reducible first | exact HB.out | apply below_alloc | apply pw_below_drewN | apply below_drew1 | refine below_set ?_ (IsS101.ge HI0.out) | refine below_set ?_ GE1455.out) | exact HB.out)); rintro e w8 ⟨rfl, hi, hb, hk⟩; refine ⟨_, rfl, ?_⟩; have n0_ := Aside0.mk (KeepBut.blk hk (g' := gb1455) (o := .cells #[.int .i64 0, .int .i64 0, .int .i64 0, .slice none 0 0, .slice none 0 0] 60 (0, 0)) (by (with_reducible repeat first | apply bN | apply bD | apply bA); exact BK1455.out) NB1455_0.out (by simp)); have n1_ := Aside0.mk (KeepBut.trans (by repeat (first | (with_reducible first | exact HK.out | apply KeepBut.set_ | apply keep_drewN | apply keep_drew | apply keep_alloc | refine keep_far ?_ GW1455.out _) | exact HK.out)) hk (.inl rfl)); have n2_ := Aside0.mk (hb); have n3_ := Aside0.mk (hi); clear BK1455; clear HK; clear HB; clear HI0; have BK1455 := n0_; have HK := n1_; have HB := n2_; have HI0 := n3_; clear n0_ n1_ n2_ n3_; (try clear hb); (try clear hb2); (try clear hk); (try clear hi)) | ((with_reducible refine gate_dst (N := 11) rfl ?_); refine Kd.R_lit (Kd.int .i64) _ 3 ?hg (N := 11) ?hd (xs := ([1, 2, 4, 8] : List Int)) (inner := [.int .i64 1, .int .i64 2, .int .i64 4, .int .i64 8]) (ok := fun _ => True) (okp := fun _ => True) ?hr ?hp (fun _ hk => hk) trivial (Below.refl _ _) (Nat.le_refl _) (by simp) ?_; (case hd => rfl); (case hg => rfl); (case hr => first | (go_simp; done) | (go_simp; rfl)); (case hp => exact (Reps.one (show Kd.M (Kd.int .i64) _ _ _ 1 [.int .i64 1] from rfl) (Reps.one (show Kd.M (Kd.int .i64) _ _ _ 2 [.int .i64 2] from rfl) (Reps.one (show Kd.M (Kd.int .i64) _ _ _ 4 [.int .i64 4] from rfl) (Reps.one (show Kd.M (Kd.int .i64) _ _ _ 8 [.int .i64 8] from rfl) (Reps.none _ _)))))); intro v1459 w9 ho10 hb hg_ hnew_; clear hg_ hnew_; (first | rw [← Ny1458.out] at ho10 | (simp only [Int.reduceToNat] at ho10; rw [← Ny1458.out] at ho10)); have n0_ := Aside0.mk (Kd.R_lower ho10 (keep_size (w := w) (g := g) (row := none) (by repeat (first | (with_reducible first | exact HK.out | apply KeepBut.set_ | apply keep_drewN | apply keep_drew | apply keep_alloc | refine keep_far ?_ GW1455.out _) | exact HK.out)))); have n1_ := Aside0.mk (IsS101.below (by repeat (first | (with_reducible first | exact HI0.out | apply IsS101.alloc | apply IsS101.drewN | apply IsS101.drew | apply IsS101.set_1 | refine IsS101.far ?_ NB0_1455.out _) | exact HI0.out)) hb); have n2_ := zb BK1455 hb rfl; have n3_ := Aside0.mk (KeepBut.trans (by repeat (first | (with_reducible first | exact HK.out | apply KeepBut.set_ | apply keep_drewN | apply keep_drew | apply keep_alloc | refine keep_far ?_ GW1455.out _) | exact HK.out)) (KeepBut.of_below hb g none) (.inl rfl)); have n4_ := Aside0.mk (below_step (by repeat (first | (with_reducible first | exact HB.out | apply below_alloc | apply pw_below_drewN | apply below_drew1 | refine below_set ?_ (IsS101.ge HI0.out) | refine below_set ?_ GE1455.out) | exact HB.out)) hb); clear HI0; clear BK1455; clear HK; clear HB; have HO1460 := n0_; have HI0 := n1_; have BK1455 := n2_; have HK := n3_; have HB := n4_; clear n0_ n1_ n2_ n3_ n4_; clear hb ho10; obtain ⟨Ao11, co11, eo11⟩ := Kd.R_slice HO1460.out; subst eo11) | ((with_reducible refine gate_callee (f := 64) rfl ?_); refine goesL_ (some 12) rfl rfl Try.func64 (by kernel_rfl) rfl #[.pointer (some ⟨g, 0, none⟩), .slice Ao11 y1458.length co11] rfl (by (try simp only [List.map_toArray, List.map_cons, List.map_nil]); first | done | rfl | (simp only [List.length_drop, List.length_take]; rfl)) ?_; (with_reducible refine (spec_l20Rd_one.calls k g s0_0 t1457 _ _ y1458 t1461 t1462 w0 _ ?side1 ?side2 ?side3 ?side4 ?side5 A3.out).mono ?_); (case side1 => repeat (first | (with_reducible first | exact HI0.out | apply IsS101.alloc | apply IsS101.drewN | apply IsS101.drew | apply IsS101.set_1 | refine IsS101.far ?_ NB0_1455.out _) | exact HI0.out)); (case side2 => repeat (first | (with_reducible first | exact HB.out | apply below_alloc | apply pw_below_drewN | apply below_drew1 | refine below_set ?_ (IsS101.ge HI0.out) | refine below_set ?_ GE1455.out) | exact HB.out)); (case side3 => repeat (first | exact (Kd.R_reads' HO1460.out).2.2 | (with_reducible refine Kd.C_alloc ?_ _) | (with_reducible refine Kd.C_drewN ?_ _) | (with_reducible refine Kd.C_drew ?_))); (case side4 => exact (Kd.R_reads' HO1460.out).2.1); (case side5 => exact far_slice (IsS101.own_ne HI0.out HO1460.out (by decide))); rintro e w12 ⟨rfl, hi, hb, hk⟩; refine ⟨_, rfl, ?_⟩; have n0_ := Aside0.mk (KeepBut.blk hk (g' := gb1455) (o := .cells #[.int .i64 0, .int .i64 0, .int .i64 0, .slice none 0 0, .slice none 0 0] 60 (0, 0)) (by (with_reducible repeat first | apply bN | apply bD | apply bA); exact BK1455.out) NB1455_0.out (by simp)); have n1_ := Aside0.mk (Kd.R_mono (Kd.R_keep (IsS101.apart (show IsS101 w0 _ g s0_0 t1457 from by repeat (first | (with_reducible first | exact HI0.out | apply IsS101.alloc | apply IsS101.drewN | apply IsS101.drew | apply IsS101.set_1 | refine IsS101.far ?_ NB0_1455.out _) | exact HI0.out)) (by (with_reducible repeat (first | apply Kd.R_alloc | apply Kd.R_drewN | apply Kd.R_drew)); exact HO1460.out) (by decide)) hk (fun _ h => h.2)) (fun _ h => h.1)); have n2_ := Aside0.mk (KeepBut.trans (by repeat (first | (with_reducible first | exact HK.out | apply KeepBut.set_ | apply keep_drewN | apply keep_drew | apply keep_alloc | refine keep_far ?_ GW1455.out _) | exact HK.out)) hk (.inl rfl)); have n3_ := Aside0.mk (hb); have n4_ := Aside0.mk (hi); clear BK1455; clear HO1460; clear HK; clear HB; clear HI0; have BK1455 := n0_; have HO1460 := n1_; have HK := n2_; have HB := n3_; have HI0 := n4_; clear n0_ n1_ n2_ n3_ n4_; (try clear hb); (try clear hb2); (try clear hk); (try clear hi)) | ((with_reducible refine gate_dst (N := 14) rfl ?_); refine Kd.R_lit (Kd.int .i64) _ 3 ?hg (N := 14) ?hd (xs := ([1, 2, 4, 8] : List Int)) (inner := [.int .i64 1, .int .i64 2, .int .i64 4, .int .i64 8]) (ok := fun _ => True) (okp := fun _ => True) ?hr ?hp (fun _ hk => hk) trivial (Below.refl _ _) (Nat.le_refl _) (by simp) ?_; (case hd => rfl); (case hg => rfl); (case hr => first | (go_simp; done) | (go_simp; rfl)); (case hp => exact (Reps.one (show Kd.M (Kd.int .i64) _ _ _ 1 [.int .i64 1] from rfl) (Reps.one (show Kd.M (Kd.int .i64) _ _ _ 2 [.int .i64 2] from rfl) (Reps.one (show Kd.M (Kd.int .i64) _ _ _ 4 [.int .i64 4] from rfl) (Reps.one (show Kd.M (Kd.int .i64) _ _ _ 8 [.int .i64 8] from rfl) (Reps.none _ _)))))); intro v1464 w13 ho14 hb hg_ hnew_; clear hg_ hnew_; (first | rw [← Ny1463.out] at ho14 | (simp only [Int.reduceToNat] at ho14; rw [← Ny1463.out] at ho14)); have n0_ := Aside0.mk (Kd.R_elder' (by (with_reducible repeat (first | apply Kd.R_alloc | apply Kd.R_drewN | apply Kd.R_drew)); exact HO1460.out) (Kd.R_base ho14) hb); have n1_ := Aside0.mk (Kd.R_lower (Kd.R_new' ho14 (Kd.R_lt (by (with_reducible repeat (first | apply Kd.R_alloc | apply Kd.R_drewN | apply Kd.R_drew)); exact HO1460.out))) (keep_size (w := w) (g := g) (row := none) (by repeat (first | (with_reducible first | exact HK.out | apply KeepBut.set_ | apply keep_drewN | apply keep_drew | apply keep_alloc | refine keep_far ?_ GW1455.out _) | exact HK.out)))); have n2_ := Aside0.mk (IsS101.below (by repeat (first | (with_reducible first | exact HI0.out | apply IsS101.alloc | apply IsS101.drewN | apply IsS101.drew | apply IsS101.set_1 | refine IsS101.far ?_ NB0_1455.out _) | exact HI0.out)) hb); have n3_ := zb BK1455 hb rfl; have n4_ := Aside0.mk (KeepBut.trans (by repeat (first | (with_reducible first | exact HK.out | apply KeepBut.set_ | apply keep_drewN | apply keep_drew | apply keep_alloc | refine keep_far ?_ GW1455.out _) | exact HK.out)) (KeepBut.of_below hb g none) (.inl rfl)); have n5_ := Aside0.mk (below_step (by repeat (first | (with_reducible first | exact HB.out | apply below_alloc | apply pw_below_drewN | apply below_drew1 | refine below_set ?_ (IsS101.ge HI0.out) | refine below_set ?_ GE1455.out) | exact HB.out)) hb); clear HO1460; clear HI0; clear BK1455; clear HK; clear HB; have HO1460 := n0_; have HO1465 := n1_; have HI0 := n2_; have BK1455 := n3_; have HK := n4_; have HB := n5_; clear n0_ n1_ n2_ n3_ n4_ n5_; clear hb ho14; obtain ⟨Ao15, co15, eo15⟩ := Kd.R_slice HO1465.out; subst eo15) | ((with_reducible refine gate_callee (f := 64) rfl ?_); refine goesL_ (some 15) rfl rfl Try.func64 (by kernel_rfl) rfl #[.pointer (some ⟨g, 0, none⟩), .slice Ao15 y1463.length co15] rfl (by (try simp only [List.map_toArray, List.map_cons, List.map_nil]); first | done | rfl | (simp only [List.length_drop, List.length_take]; rfl)) ?_; (with_reducible refine (spec_l20Rd_one.calls k g s0_0 t1462 _ _ y1463 t1466 t1467 w0 _ ?side1 ?side2 ?side3 ?side4 ?side5 A4.out).mono ?_); (case side1 => repeat (first | (with_reducible first | exact HI0.out | apply IsS101.alloc | apply IsS101.drewN | apply IsS101.drew | apply IsS101.set_1 | refine IsS101.far ?_ NB0_1455.out _) | exact HI0.out)); (case side2 => repeat (first | (with_reducible first | exact HB.out | apply below_alloc | apply pw_below_drewN | apply below_drew1 | refine below_set ?_ (IsS101.ge HI0.out) | refine below_set ?_ GE1455.out) | exact HB.out)); (case side3 => repeat (first | exact (Kd.R_reads' HO1465.out).2.2 | (with_reducible refine Kd.C_alloc ?_ _) | (with_reducible refine Kd.C_drewN ?_ _) | (with_reducible refine Kd.C_drew ?_))); (case side4 => exact (Kd.R_reads' HO1465.out).2.1); (case side5 => exact far_slice (IsS101.own_ne HI0.out HO1465.out (by decide))); rintro e w16 ⟨rfl, hi, hb, hk⟩; refine ⟨_, rfl, ?_⟩; have n0_ := Aside0.mk (KeepBut.blk hk (g' := gb1455) (o := .cells #[.int .i64 0, .int .i64 0, .int .i64 0, .slice none 0 0, .slice none 0 0] 60 (0, 0)) (by (with_reducible repeat first | apply bN | apply bD | apply bA); exact BK1455.out) NB1455_0.out (by simp)); have n1_ := Aside0.mk (Kd.R_mono (Kd.R_keep (IsS101.apart (show IsS101 w0 _ g s0_0 t1462 from by repeat (first | (with_reducible first | exact HI0.out | apply IsS101.alloc | apply IsS101.drewN | apply IsS101.drew | apply IsS101.set_1 | refine IsS101.far ?_ NB0_1455.out _) | exact HI0.out)) (by (with_reducible repeat (first | apply Kd.R_alloc | apply Kd.R_drewN | apply Kd.R_drew)); exact HO1460.out) (by decide)) hk (fun _ h => h.2)) (fun _ h => h.1)); have n2_ := Aside0.mk (Kd.R_mono (Kd.R_keep (IsS101.apart (show IsS101 w0 _ g s0_0 t1462 from by repeat (first | (with_reducible first | exact HI0.out | apply IsS101.alloc | apply IsS101.drewN | apply IsS101.drew | apply IsS101.set_1 | refine IsS101.far ?_ NB0_1455.out _) | exact HI0.out)) (by (with_reducible repeat (first | apply Kd.R_alloc | apply Kd.R_drewN | apply Kd.R_drew)); exact HO1465.out) (by decide)) hk (fun _ h => h.2)) (fun _ h => h.1)); have n3_ := Aside0.mk (KeepBut.trans (by repeat (first | (with_reducible first | exact HK.out | apply KeepBut.set_ | apply keep_drewN | apply keep_drew | apply keep_alloc | refine keep_far ?_ GW1455.out _) | exact HK.out)) hk (.inl rfl)); have n4_ := Aside0.mk (hb); have n5_ := Aside0.mk (hi); clear BK1455; clear HO1460; clear HO1465; clear HK; clear HB; clear HI0; have BK1455 := n0_; have HO1460 := n1_; have HO1465 := n2_; have HK := n3_; have HB := n4_; have HI0 := n5_; clear n0_ n1_ n2_ n3_ n4_ n5_; (try clear hb); (try clear hb2); (try clear hk); (try clear hi)) | ((with_reducible refine gate_callee (f := 140) rfl ?_); refine goesL_ (some 16) rfl rfl Try.func140 (by kernel_rfl) rfl #[.int .i64 (wrap64 (1 + t1456)), .int .i64 t1461, .int .i64 t1466] rfl (by (try simp only [List.map_toArray, List.map_cons, List.map_nil]); first | done | rfl | (simp only [List.length_drop, List.length_take]; rfl)) ?_; (with_reducible refine (spec_TableNew.calls k (wrap64 (1 + t1456)) t1461 t1466 t1468 t1469 t1470 t1471 t1474 _ A5.out).mono ?_); rintro e w17 ⟨v1472, v1475, rfl, ho0, ho1, hb⟩; refine ⟨_, rfl, ?_⟩; have n0_ := Aside0.mk (Kd.R_elder' (by (with_reducible repeat (first | apply Kd.R_alloc | apply Kd.R_drewN | apply Kd.R_drew)); exact HO1460.out) (Kd.R_base ho0) hb); have n1_ := Aside0.mk (Kd.R_elder' (by (with_reducible repeat (first | apply Kd.R_alloc | apply Kd.R_drewN | apply Kd.R_drew)); exact HO1465.out) (Kd.R_base ho0) hb); have n2_ := Aside0.mk (Kd.R_lower (Kd.R_new' (Kd.R_new' ho0 (Kd.R_lt (by (with_reducible repeat (first | apply Kd.R_alloc | apply Kd.R_drewN | apply Kd.R_drew)); exact HO1460.out))) (Kd.R_lt (by (with_reducible repeat (first | apply Kd.R_alloc | apply Kd.R_drewN | apply Kd.R_drew)); exact HO1465.out))) (keep_size (w := w) (g := g) (row := none) (by repeat (first | (with_reducible first | exact HK.out | apply KeepBut.set_ | apply keep_drewN | apply keep_drew | apply keep_alloc | refine keep_far ?_ GW1455.out _) | exact HK.out)))); have n3_ := Aside0.mk (Kd.R_lower ho1 (keep_size (w := w) (g := g) (row := none) (by repeat (first | (with_reducible first | exact HK.out | apply KeepBut.set_ | apply keep_drewN | apply keep_drew | apply keep_alloc | refine keep_far ?_ GW1455.out _) | exact HK.out)))); have n4_ := Aside0.mk (IsS101.below (by repeat (first | (with_reducible first | exact HI0.out | apply IsS101.alloc | apply IsS101.drewN | apply IsS101.drew | apply IsS101.set_1 | refine IsS101.far ?_ NB0_1455.out _) | exact HI0.out)) hb); have n5_ := zb BK1455 hb rfl; have n6_ := Aside0.mk (KeepBut.trans (by repeat (first | (with_reducible first | exact HK.out | apply KeepBut.set_ | apply keep_drewN | apply keep_drew | apply keep_alloc | refine keep_far ?_ GW1455.out _) | exact HK.out)) (KeepBut.of_below hb g none) (.inl rfl)); have n7_ := Aside0.mk (below_step (by repeat (first | (with_reducible first | exact HB.out | apply below_alloc | apply pw_below_drewN | apply below_drew1 | refine below_set ?_ (IsS101.ge HI0.out) | refine below_set ?_ GE1455.out) | exact HB.out)) hb); clear HO1460; clear HO1465; clear HI0; clear BK1455; clear HK; clear HB; have HO1460 := n0_; have HO1465 := n1_; have HO1473 := n2_; have HO1476 := n3_; have HI0 := n4_; have BK1455 := n5_; have HK := n6_; have HB := n7_; clear n0_ n1_ n2_ n3_ n4_ n5_ n6_ n7_; (try clear hb); (try clear hb2); (try clear hk); (try clear hi); (try clear ho0); (try clear ho1)) | ((with_reducible refine gate_dst (N := 3) rfl ?_); refine box_event ?hg (N := 3) ?hd (cs := #[.int .i64 0, .int .i64 0, .int .i64 0, .slice none 0 0, .slice none 0 0]) (t := 60) ?hr ?_; (case hd => rfl); (case hg => rfl); (case hr => first | (go_simp; done) | (go_simp; rfl)); intro gb1477 hg w18 hbox hb; have n0_ := Aside0.mk (Kd.R_below (by (with_reducible repeat (first | apply Kd.R_alloc | apply Kd.R_drewN | apply Kd.R_drew)); exact HO1460.out) hb); have n1_ := Aside0.mk (Kd.R_below (by (with_reducible repeat (first | apply Kd.R_alloc | apply Kd.R_drewN | apply Kd.R_drew)); exact HO1465.out) hb); have n2_ := Aside0.mk (Kd.R_below (by (with_reducible repeat (first | apply Kd.R_alloc | apply Kd.R_drewN | apply Kd.R_drew)); exact HO1473.out) hb); have n3_ := Aside0.mk (Kd.R_below (by (with_reducible repeat (first | apply Kd.R_alloc | apply Kd.R_drewN | apply Kd.R_drew)); exact HO1476.out) hb); have n4_ := Aside0.mk (IsS101.below (by repeat (first | (with_reducible first | exact HI0.out | apply IsS101.alloc | apply IsS101.drewN | apply IsS101.drew | apply IsS101.set_1 | refine IsS101.far ?_ NB0_1455.out _) | exact HI0.out)) hb); have n5_ := zb BK1455 hb rfl; have n6_ := Aside0.mk (KeepBut.trans (by repeat (first | (with_reducible first | exact HK.out | apply KeepBut.set_ | apply keep_drewN | apply keep_drew | apply keep_alloc | refine keep_far ?_ GW1455.out _) | exact HK.out)) (KeepBut.of_below hb g none) (.inl rfl)); have n7_ := Aside0.mk (below_step (by repeat (first | (with_reducible first | exact HB.out | apply below_alloc | apply pw_below_drewN | apply below_drew1 | refine below_set ?_ (IsS101.ge HI0.out) | refine below_set ?_ GE1455.out) | exact HB.out)) hb); have n8_ := Aside0.mk (hbox); have n9_ := Aside0.mk ((by rw [hg]; exact (keep_size (w := w) (g := g) (row := none) (by repeat (first | (with_reducible first | exact HK.out | apply KeepBut.set_ | apply keep_drewN | apply keep_drew | apply keep_alloc | refine keep_far ?_ GW1455.out _) | exact HK.out))) : w.heap.size ≤ gb1477)); have n10_ := Aside0.mk ((Nat.le_trans HW0.out (by rw [hg]; exact (keep_size (w := w) (g := g) (row := none) (by repeat (first | (with_reducible first | exact HK.out | apply KeepBut.set_ | apply keep_drewN | apply keep_drew | apply keep_alloc | refine keep_far ?_ GW1455.out _) | exact HK.out))) : w.heap.size ≤ gb1477) : w0.heap.size ≤ gb1477)); have n11_ := zl BK1455 hg rfl; have n12_ := zg BK1455 hg rfl; have n13_ := Aside0.mk ((by rw [hg]; exact Nat.ne_of_lt (IsS101.lt (show IsS101 w0 _ g s0_0 t1467 from by repeat (first | (with_reducible first | exact HI0.out | apply IsS101.alloc | apply IsS101.drewN | apply IsS101.drew | apply IsS101.set_1 | refine IsS101.far ?_ NB0_1455.out _) | exact HI0.out))) : g ≠ gb1477)); have n14_ := Aside0.mk ((by rw [hg]; exact Nat.ne_of_gt (IsS101.lt (show IsS101 w0 _ g s0_0 t1467 from by repeat (first | (with_reducible first | exact HI0.out | apply IsS101.alloc | apply IsS101.drewN | apply IsS101.drew | apply IsS101.set_1 | refine IsS101.far ?_ NB0_1455.out _) | exact HI0.out))) : gb1477 ≠ g)); clear HO1460; clear HO1465; clear HO1473; clear HO1476; clear HI0; clear BK1455; clear HK; clear HB; have HO1460 := n0_; have HO1465 := n1_; have HO1473 := n2_; have HO1476 := n3_; have HI0 := n4_; have BK1455 := n5_; have HK := n6_; have HB := n7_; have BK1477 := n8_; have GW1477 := n9_; have GE1477 := n10_; have NB1455_1477 := n11_; have NB1477_1455 := n12_; have NB0_1477 := n13_; have NB1477_0 := n14_; clear n0_ n1_ n2_ n3_ n4_ n5_ n6_ n7_ n8_ n9_ n10_ n11_ n12_ n13_ n14_; clear hb hbox hg; have hnb19 := NB1477_1455.out; have hnc19 := NB1455_1477.out; have hnb20 := NB1477_0.out; have hnc20 := NB0_1477.out; obtain ⟨hcz21_0, hcz21_1, hcz21_2, hcz21_3, hcz21_4, hfz21_0, hfz21_1, hfz21_2, hfz21_3, hfz21_4⟩ := zc5 BK1477; obtain ⟨Ao22, co22, eo22⟩ := Kd.R_slice HO1473.out; subst eo22; obtain ⟨Ao23, co23, eo23⟩ := Kd.R_slice HO1476.out; subst eo23) | ((with_reducible refine gate_callee (f := 59) rfl ?_); refine goesL_ (some 18) rfl rfl Try.func59 (by kernel_rfl) rfl #[.pointer (some ⟨g, 0, none⟩), .int .i64 6] rfl (by (try simp only [List.map_toArray, List.map_cons, List.map_nil]); first | done | rfl | (simp only [List.length_drop, List.length_take]; rfl)) ?_; (with_reducible refine (spec_l20Rd_pick.calls k g s0_0 t1467 6 t1478 t1479 w0 _ ?side1 ?side2 A6.out).mono ?_); (case side1 => repeat (first | (with_reducible first | exact HI0.out | apply IsS101.alloc | apply IsS101.drewN | apply IsS101.drew | apply IsS101.set_1 | refine IsS101.far ?_ NB0_1455.out _ | refine IsS101.far ?_ NB0_1477.out _) | exact HI0.out)); (case side2 => repeat (first | (with_reducible first | exact HB.out | apply below_alloc | apply pw_below_drewN | apply below_drew1 | refine below_set ?_ (IsS101.ge HI0.out) | refine below_set ?_ GE1455.out | refine below_set ?_ GE1477.out) | exact HB.out)); rintro e w24 ⟨rfl, hi, hb, hk⟩; refine ⟨_, rfl, ?_⟩; have n0_ := Aside0.mk (KeepBut.blk hk (g' := gb1455) (o := .cells #[.int .i64 0, .int .i64 0, .int .i64 0, .slice none 0 0, .slice none 0 0] 60 (0, 0)) (by (with_reducible repeat first | apply bN | apply bD | apply bA); refine blk_far ?_ NB1455_1477.out _; (with_reducible repeat first | apply bN | apply bD | apply bA); refine blk_far ?_ NB1455_1477.out _; (with_reducible repeat first | apply bN | apply bD | apply bA); refine blk_far ?_ NB1455_1477.out _; (with_reducible repeat first | apply bN | apply bD | apply bA); refine blk_far ?_ NB1455_1477.out _; (with_reducible repeat first | apply bN | apply bD | apply bA); refine blk_far ?_ NB1455_1477.out _; (with_reducible repeat first | apply bN | apply bD | apply bA); exact BK1455.out) NB1455_0.out (by simp)); have n1_ := Aside0.mk (Kd.R_mono (Kd.R_keep (IsS101.apart (show IsS101 w0 _ g s0_0 t1467 from by repeat (first | (with_reducible first | exact HI0.out | apply IsS101.alloc | apply IsS101.drewN | apply IsS101.drew | apply IsS101.set_1 | refine IsS101.far ?_ NB0_1455.out _ | refine IsS101.far ?_ NB0_1477.out _) | exact HI0.out)) (by (with_reducible repeat (first | apply Kd.R_alloc | apply Kd.R_drewN | apply Kd.R_drew)); exact (Kd.R_mono (Kd.R_far (p := ⟨gb1477, 4, none⟩) (Kd.R_far (p := ⟨gb1477, 3, none⟩) (Kd.R_far (p := ⟨gb1477, 2, none⟩) (Kd.R_far (p := ⟨gb1477, 1, none⟩) (Kd.R_far (p := ⟨gb1477, 0, none⟩) (Kd.R_types HO1460.out BK1477.out (by decide)) (fun _ hk => hk.2) (.int .i64 t1468)) (fun _ hk => hk.2) (.int .i64 t1469)) (fun _ hk => hk.2) (.int .i64 t1470)) (fun _ hk => hk.2) (.slice Ao22 t1471.length co22)) (fun _ hk => hk.2) (.slice Ao23 t1474.length co23)) (fun _ h_ => h_.1))) (by decide)) hk (fun _ h => h.2)) (fun _ h => h.1)); have n2_ := Aside0.mk (Kd.R_mono (Kd.R_keep (IsS101.apart (show IsS101 w0 _ g s0_0 t1467 from by repeat (first | (with_reducible first | exact HI0.out | apply IsS101.alloc | apply IsS101.drewN | apply IsS101.drew | apply IsS101.set_1 | refine IsS101.far ?_ NB0_1455.out _ | refine IsS101.far ?_ NB0_1477.out _) | exact HI0.out)) (by (with_reducible repeat (first | apply Kd.R_alloc | apply Kd.R_drewN | apply Kd.R_drew)); exact (Kd.R_mono (Kd.R_far (p := ⟨gb1477, 4, none⟩) (Kd.R_far (p := ⟨gb1477, 3, none⟩) (Kd.R_far (p := ⟨gb1477, 2, none⟩) (Kd.R_far (p := ⟨gb1477, 1, none⟩) (Kd.R_far (p := ⟨gb1477, 0, none⟩) (Kd.R_types HO1465.out BK1477.out (by decide)) (fun _ hk => hk.2) (.int .i64 t1468)) (fun _ hk => hk.2) (.int .i64 t1469)) (fun _ hk => hk.2) (.int .i64 t1470)) (fun _ hk => hk.2) (.slice Ao22 t1471.length co22)) (fun _ hk => hk.2) (.slice Ao23 t1474.length co23)) (fun _ h_ => h_.1))) (by decide)) hk (fun _ h => h.2)) (fun _ h => h.1)); have n3_ := Aside0.mk (Kd.R_mono (Kd.R_keep (IsS101.apart (show IsS101 w0 _ g s0_0 t1467 from by repeat (first | (with_reducible first | exact HI0.out | apply IsS101.alloc | apply IsS101.drewN | apply IsS101.drew | apply IsS101.set_1 | refine IsS101.far ?_ NB0_1455.out _ | refine IsS101.far ?_ NB0_1477.out _) | exact HI0.out)) (by (with_reducible repeat (first | apply Kd.R_alloc | apply Kd.R_drewN | apply Kd.R_drew)); exact (Kd.R_mono (Kd.R_far (p := ⟨gb1477, 4, none⟩) (Kd.R_far (p := ⟨gb1477, 3, none⟩) (Kd.R_far (p := ⟨gb1477, 2, none⟩) (Kd.R_far (p := ⟨gb1477, 1, none⟩) (Kd.R_far (p := ⟨gb1477, 0, none⟩) (Kd.R_types HO1473.out BK1477.out (by decide)) (fun _ hk => hk.2) (.int .i64 t1468)) (fun _ hk => hk.2) (.int .i64 t1469)) (fun _ hk => hk.2) (.int .i64 t1470)) (fun _ hk => hk.2) (.slice Ao22 t1471.length co22)) (fun _ hk => hk.2) (.slice Ao23 t1474.length co23)) (fun _ h_ => h_.1))) (by decide)) hk (fun _ h => h.2)) (fun _ h => h.1)); have n4_ := Aside0.mk (Kd.R_mono (Kd.R_keep (IsS101.apart (show IsS101 w0 _ g s0_0 t1467 from by repeat (first | (with_reducible first | exact HI0.out | apply IsS101.alloc | apply IsS101.drewN | apply IsS101.drew | apply IsS101.set_1 | refine IsS101.far ?_ NB0_1455.out _ | refine IsS101.far ?_ NB0_1477.out _) | exact HI0.out)) (by (with_reducible repeat (first | apply Kd.R_alloc | apply Kd.R_drewN | apply Kd.R_drew)); exact (Kd.R_mono (Kd.R_far (p := ⟨gb1477, 4, none⟩) (Kd.R_far (p := ⟨gb1477, 3, none⟩) (Kd.R_far (p := ⟨gb1477, 2, none⟩) (Kd.R_far (p := ⟨gb1477, 1, none⟩) (Kd.R_far (p := ⟨gb1477, 0, none⟩) (Kd.R_types HO1476.out BK1477.out (by decide)) (fun _ hk => hk.2) (.int .i64 t1468)) (fun _ hk => hk.2) (.int .i64 t1469)) (fun _ hk => hk.2) (.int .i64 t1470)) (fun _ hk => hk.2) (.slice Ao22 t1471.length co22)) (fun _ hk => hk.2) (.slice Ao23 t1474.length co23)) (fun _ h_ => h_.1))) (by decide)) hk (fun _ h => h.2)) (fun _ h => h.1)); have n5_ := Aside0.mk (KeepBut.blk hk (g' := gb1477) (o := .cells #[.int .i64 t1468, .int .i64 t1469, .int .i64 t1470, .slice Ao22 t1471.length co22, .slice Ao23 t1474.length co23] 60 (0, 0)) (by (with_reducible repeat first | apply bN | apply bD | apply bA); refine blk_put (cs := #[.int .i64 t1468, .int .i64 t1469, .int .i64 t1470, .slice Ao22 t1471.length co22, .slice none 0 0]) ?_ 4 _ rfl; (with_reducible repeat first | apply bN | apply bD | apply bA); refine blk_put (cs := #[.int .i64 t1468, .int .i64 t1469, .int .i64 t1470, .slice none 0 0, .slice none 0 0]) ?_ 3 _ rfl; (with_reducible repeat first | apply bN | apply bD | apply bA); refine blk_put (cs := #[.int .i64 t1468, .int .i64 t1469, .int .i64 0, .slice none 0 0, .slice none 0 0]) ?_ 2 _ rfl; (with_reducible repeat first | apply bN | apply bD | apply bA); refine blk_put (cs := #[.int .i64 t1468, .int .i64 0, .int .i64 0, .slice none 0 0, .slice none 0 0]) ?_ 1 _ rfl; (with_reducible repeat first | apply bN | apply bD | apply bA); refine blk_put (cs := #[.int .i64 0, .int .i64 0, .int .i64 0, .slice none 0 0, .slice none 0 0]) ?_ 0 _ rfl; (with_reducible repeat first | apply bN | apply bD | apply bA); exact BK1477.out) NB1477_0.out (by simp)); have n6_ := Aside0.mk (KeepBut.trans (by repeat (first | (with_reducible first | exact HK.out | apply KeepBut.set_ | apply keep_drewN | apply keep_drew | apply keep_alloc | refine keep_far ?_ GW1455.out _ | refine keep_far ?_ GW1477.out _) | exact HK.out)) hk (.inl rfl)); have n7_ := Aside0.mk (hb); have n8_ := Aside0.mk (hi); clear BK1455; clear HO1460; clear HO1465; clear HO1473; clear HO1476; clear BK1477; clear HK; clear HB; clear HI0; have BK1455 := n0_; have HO1460 := n1_; have HO1465 := n2_; have HO1473 := n3_; have HO1476 := n4_; have BK1477 := n5_; have HK := n6_; have HB := n7_; have HI0 := n8_; clear n0_ n1_ n2_ n3_ n4_ n5_ n6_ n7_ n8_; (try clear hb); (try clear hb2); (try clear hk); (try clear hi)))
 go_loopg [4] k (fun kq v4 w' => ∃ (x4_1 : Int) (x1001_1 : Int) (x1478000_1 : Int) (x1478001_1 : Int) (x1478002_1 : Int) (x1478003_1 : List Int) (x1478004_1 : List ByteArray) (u1478003 : Value) (u1478004 : Value), v4 = .int .i64 x4_1 ∧ Aside0 (spec_l20Table.l0 kq x4_1 s0_0 x1001_1 x1478000_1 x1478001_1 x1478002_1 x1478003_1 x1478004_1 = some (r1, r2, r3, r4, r5, r6)) ∧ Aside0 (kq ≤ k) ∧ Aside0 (Kd.R (Kd.int .i64) 3 w' w.heap.size (fun _ => True) u1478003 x1478003_1) ∧ Aside0 (Kd.R Kd.string 9 w' w.heap.size (fun _ => True) u1478004 x1478004_1) ∧ Aside0 (w'.heap[gb1455]? = some (.cells #[.int .i64 0, .int .i64 0, .int .i64 0, (.slice none 0 0), (.slice none 0 0)] 60 (0, 0))) ∧ Aside0 (w'.heap[gb1477]? = some (.cells #[.int .i64 x1478000_1, .int .i64 x1478001_1, .int .i64 x1478002_1, u1478003, u1478004] 60 (0, 0))) ∧ Aside0 (IsS101 w0 w' g s0_0 x1001_1) ∧ Aside0 (KeepBut w w' g none) ∧ Aside0 (Below w0.heap.size w0 w'))
 case atStart => exact ⟨(t1478), (t1479), (t1468), (t1469), (t1470), (t1471), (t1474), (.slice Ao22 t1471.length co22), (.slice Ao23 t1474.length co23), (by first | rfl | (simp; done) | (simp [*]; done)), H', ⟨Nat.le_refl _⟩, ⟨by (with_reducible repeat (first | apply Kd.R_alloc | apply Kd.R_drewN | apply Kd.R_drew)); exact Kd.R_mono HO1473.out (fun _ hk => trivial)⟩, ⟨by (with_reducible repeat (first | apply Kd.R_alloc | apply Kd.R_drewN | apply Kd.R_drew)); exact HO1476.out⟩, ⟨by (with_reducible repeat first | apply bN | apply bD | apply bA); exact BK1455.out⟩, ⟨by (with_reducible repeat first | apply bN | apply bD | apply bA); exact BK1477.out⟩, ⟨by repeat (first | (with_reducible first | exact HI0.out | apply IsS101.alloc | apply IsS101.drewN | apply IsS101.drew | apply IsS101.set_1 | refine IsS101.far ?_ NB0_1455.out _ | refine IsS101.far ?_ NB0_1477.out _) | exact HI0.out)⟩, ⟨by repeat (first | (with_reducible first | exact HK.out | apply KeepBut.set_ | apply keep_drewN | apply keep_drew | apply keep_alloc | refine keep_far ?_ GW1455.out _ | refine keep_far ?_ GW1477.out _) | exact HK.out)⟩, ⟨by repeat (first | (with_reducible first | exact HB.out | apply below_alloc | apply pw_below_drewN | apply below_drew1 | refine below_set ?_ (IsS101.ge HI0.out) | refine below_set ?_ GE1455.out | refine below_set ?_ GE1477.out) | exact HB.out)⟩⟩
 case round =>
  clear H'
  try clear c1
  try clear c2
  try clear p2
  try clear c5
  try clear c6
  try clear p6
  try clear c12
  try clear c14
  try clear c19
  try clear c20
  try clear hcz21_0
  try clear hcz21_1
  try clear hcz21_2
  try clear hcz21_3
  try clear hcz21_4
  try clear hfz21_0
  try clear hfz21_1
  try clear hfz21_2
  try clear hfz21_3
  try clear hfz21_4
  obtain ⟨x4_1, x1001_1, x1478000_1, x1478001_1, x1478002_1, x1478003_1, x1478004_1, u1478003, u1478004, rfl, HA, HK1, HO_1478003, HO_1478004, BK1455, BK1477, HI0, HK, HB⟩ := hrel
  cases gk with
  | zero => exact absurd HA.out (by simp [spec_l20Table.l0])
  | succ k1 =>
   have H := HA.out
   clear HA
   simp only [spec_l20Table.l0] at H
   by_cases c25 : x4_1 > 0
   ·rw [if_pos c25] at H
    have c25b0 : decide (0 < x4_1) = true := decide_eq_true c25
    clear c25
    obtain ⟨y1480, hy1480⟩ : ∃ y_ : List Int, y_ = (([0, 1, 2, 3, 7, 200, 4294967295] : List Int)) := ⟨_, rfl⟩
    replace H : ((spec_l20Rd_one.f k1 s0_0 x1001_1 y1480).bind fun bt1483 => ((spec_l20Number.f k1 s0_0 bt1483.2).bind fun bt1485 => ((spec_l4Bytes.f k1 bt1485.1 x1478001_1).bind fun t1487 => ((spec_TablePut.f k1 x1478000_1 x1478001_1 x1478002_1 x1478003_1 x1478004_1 bt1483.1 t1487).bind fun bt1488 => (spec_l20Table.l0 k1 (wrap64 (x4_1 - 1)) s0_0 bt1485.2 bt1488.1 bt1488.2.1 bt1488.2.2.1 bt1488.2.2.2.1 bt1488.2.2.2.2.1))))) = some (r1, r2, r3, r4, r5, r6) := by first | (rw [hy1480]; with_reducible exact H) | (have H2_ := (Option.bind_some _ _).symm.trans H; rw [hy1480]; with_reducible exact H2_) | (have H2_ := (Option.bind_some _ _).symm.trans H; with_reducible exact H2_) | with_reducible exact H | (rw [hy1480]; exact H) | exact H
    have Ny1480 := Aside0.mk hy1480
    clear hy1480
    replace H := Option.bind_eq_some_iff.mp H
    obtain ⟨⟨t1483, t1484⟩, A260, H⟩ := H
    try dsimp only at H
    have A26 := Aside0.mk A260
    clear A260
    replace H := Option.bind_eq_some_iff.mp H
    obtain ⟨⟨t1485, t1486⟩, A270, H⟩ := H
    try dsimp only at H
    have A27 := Aside0.mk A270
    clear A270
    replace H := Option.bind_eq_some_iff.mp H
    obtain ⟨t1487, A280, H⟩ := H
    try dsimp only at H
    have A28 := Aside0.mk A280
    clear A280
    replace H := Option.bind_eq_some_iff.mp H
    obtain ⟨⟨t1488, t1489, t1490, t1491, t1494, t1497⟩, A290, H⟩ := H
    try dsimp only at H
    have A29 := Aside0.mk A290
    clear A290
    have H' := Aside0.mk H
    clear H
    obtain ⟨Ao30, co30, eo30⟩ := Kd.R_slice HO_1478003.out
    subst eo30
    obtain ⟨Ao31, co31, eo31⟩ := Kd.R_slice HO_1478004.out
    subst eo31
    try go_wp2
    have n0_ := Aside0.mk (Kd.R_drew HO_1478003.out)
    have n1_ := Aside0.mk (Kd.R_drew HO_1478004.out)
    have n2_ := Aside0.mk (blk_drew BK1455.out)
    have n3_ := Aside0.mk (blk_drew BK1477.out)
    have n4_ := Aside0.mk (IsS101.drew HI0.out)
    have n5_ := Aside0.mk (keep_drew HK.out)
    have n6_ := Aside0.mk (below_drew1 HB.out)
    clear HO_1478003
    clear HO_1478004
    clear BK1455
    clear BK1477
    clear HI0
    clear HK
    clear HB
    have HO_1478003 := n0_
    have HO_1478004 := n1_
    have BK1455 := n2_
    have BK1477 := n3_
    have HI0 := n4_
    have HK := n5_
    have HB := n6_
    clear n0_ n1_ n2_ n3_ n4_ n5_ n6_
    refine start_ (n := 16) (S := fun w' => w'.cell? ⟨gb1477, 0, none⟩ = some (.int .i64 x1478000_1) ∧ w'.cell? ⟨gb1477, 1, none⟩ = some (.int .i64 x1478001_1) ∧ w'.cell? ⟨gb1477, 2, none⟩ = some (.int .i64 x1478002_1) ∧ w'.cell? ⟨gb1477, 3, none⟩ = some (.slice Ao30 x1478003_1.length co30) ∧ w'.cell? ⟨gb1477, 4, none⟩ = some (.slice Ao31 x1478004_1.length co31)) (ds := []) #[false, false, false, false, false, false, false, false, false, false, false, false, false, false, false, false] (by kernel_rfl) rfl rfl ⟨(blk_cell BK1477.out 0).trans rfl, (blk_cell BK1477.out 1).trans rfl, (blk_cell BK1477.out 2).trans rfl, (blk_cell BK1477.out 3).trans rfl, (blk_cell BK1477.out 4).trans rfl⟩ (fun hHeld => ?_); refine with_tabW spec_l20Table.tab5 spec_l20Table.bits5 (fun HT_ HW_ => ?_)
    generalize wr.drew = w32 at HO_1478003 HO_1478004 BK1455 BK1477 HI0 HK HB hHeld ⊢
    refine pure_ (i := 1) (N := some 25) (v := ?_) (a' := ?_) #[false, true, false, false, false, false, false, false, false, false, false, false, false, false, false, false] rfl rfl (any_of HT_.out (by kernel_rfl)) (fun _ _ _ h => h) (Or.inl ⟨by rfl, ?_⟩) ?_ ?_
    rotate_left
    ·intro w'
     go_simp
     with_reducible rfl
    rotate_left
    ·simp only [Act.put, List.setIfInBounds_toArray, List.set_cons_zero, List.set_cons_succ, i64_w, i32_w]
     rfl
    refine pure_ (i := 4) (N := some 28) (v := ?_) (a' := ?_) #[false, true, false, false, true, false, false, false, false, false, false, false, false, false, false, false] rfl rfl (any_of HT_.out (by kernel_rfl)) (fun _ _ _ h => h) (Or.inl ⟨by rfl, ?_⟩) ?_ ?_
    rotate_left
    ·intro w'
     go_simp
     with_reducible rfl
    rotate_left
    ·simp only [Act.put, List.setIfInBounds_toArray, List.set_cons_zero, List.set_cons_succ, i64_w, i32_w]
     rfl
    refine pure_ (i := 6) (N := some 30) (v := ?_) (a' := ?_) #[false, true, false, false, true, false, true, false, false, false, false, false, false, false, false, false] rfl rfl (any_of HT_.out (by kernel_rfl)) (fun _ _ _ h => h) (Or.inl ⟨by rfl, ?_⟩) ?_ ?_
    rotate_left
    ·intro w'
     go_simp
     with_reducible rfl
    rotate_left
    ·simp only [Act.put, List.setIfInBounds_toArray, List.set_cons_zero, List.set_cons_succ, i64_w, i32_w]
     rfl
    refine take_ (i := 0) (N := some 24) (v := ?_) (a' := ?_) #[true, true, false, false, true, false, true, false, false, false, false, false, false, false, false, false] rfl rfl (take_ofW HT_.out HW_.out (by kernel_rfl)) (fun _ _ _ h => h) (Or.inl ⟨by rfl, ?_⟩) hHeld ?_ ?_
    rotate_left
    ·rintro w' ⟨s0, s1, s2, s3, s4⟩
     go_simp
     with_reducible rfl
    rotate_left
    ·simp only [Act.put, List.setIfInBounds_toArray, List.set_cons_zero, List.set_cons_succ, i64_w, i32_w]
     rfl
    refine take_ (i := 7) (N := some 31) (v := ?_) (a' := ?_) #[true, true, false, false, true, false, true, true, false, false, false, false, false, false, false, false] rfl rfl (take_ofW HT_.out HW_.out (by kernel_rfl)) (fun _ _ _ h => h) (Or.inl ⟨by rfl, ?_⟩) hHeld ?_ ?_
    rotate_left
    ·rintro w' ⟨s0, s1, s2, s3, s4⟩
     go_simp
     with_reducible rfl
    rotate_left
    ·simp only [Act.put, List.setIfInBounds_toArray, List.set_cons_zero, List.set_cons_succ, i64_w, i32_w]
     rfl
    refine join_ (σ := Value × Value × Value × Nat) 2 #[true, true, true, true, true, true, true, true, true, true, true, true, true, true, false, false] (fun s_ => [(26, s_.1), (27, .int .i64 t1483), (29, .int .i64 t1485), (32, .string t1487), (33, .tuple #[.agg #[.int .i64 t1488, .int .i64 t1489, .int .i64 t1490, s_.2.1, s_.2.2.1], .int .i64 t1497]), (5, .pointer (some ⟨s_.2.2.2, 0, none⟩)), (23, .tuple #[.agg #[.int .i64 t1488, .int .i64 t1489, .int .i64 t1490, s_.2.1, s_.2.2.1], .int .i64 t1497]), (34, .agg #[.int .i64 t1488, .int .i64 t1489, .int .i64 t1490, s_.2.1, s_.2.2.1]), (35, .int .i64 t1497)]) (fun s_ w' => (w'.cell? ⟨gb1477, 0, none⟩ = some (.int .i64 x1478000_1) ∧ w'.cell? ⟨gb1477, 1, none⟩ = some (.int .i64 x1478001_1) ∧ w'.cell? ⟨gb1477, 2, none⟩ = some (.int .i64 x1478002_1) ∧ w'.cell? ⟨gb1477, 3, none⟩ = some (.slice Ao30 x1478003_1.length co30) ∧ w'.cell? ⟨gb1477, 4, none⟩ = some (.slice Ao31 x1478004_1.length co31)) ∧ (Kd.R (Kd.int .i64) 3 w' w.heap.size (fun k_ => some k_ ≠ (s_.2.1 : Value).ownBlock ∧ some k_ ≠ (.slice Ao30 x1478003_1.length co30 : Value).ownBlock) s_.1 y1480) ∧ (Kd.R (Kd.int .i64) 3 w' w.heap.size (fun k_ => some k_ ≠ (s_.1 : Value).ownBlock ∧ some k_ ≠ (.slice Ao30 x1478003_1.length co30 : Value).ownBlock) s_.2.1 t1491) ∧ (Kd.R Kd.string 9 w' w.heap.size (fun k_ => some k_ ≠ (.slice Ao31 x1478004_1.length co31 : Value).ownBlock) s_.2.2.1 t1494) ∧ (Kd.R (Kd.int .i64) 3 w' w.heap.size (fun k_ => some k_ ≠ (s_.1 : Value).ownBlock ∧ some k_ ≠ (s_.2.1 : Value).ownBlock) (.slice Ao30 x1478003_1.length co30) x1478003_1) ∧ (Kd.R Kd.string 9 w' w.heap.size (fun k_ => some k_ ≠ (s_.2.2.1 : Value).ownBlock) (.slice Ao31 x1478004_1.length co31) x1478004_1) ∧ (w'.heap[gb1455]? = some (.cells #[.int .i64 0, .int .i64 0, .int .i64 0, .slice none 0 0, .slice none 0 0] 60 (0, 0))) ∧ (w'.heap[gb1477]? = some (.cells #[.int .i64 x1478000_1, .int .i64 x1478001_1, .int .i64 x1478002_1, .slice Ao30 x1478003_1.length co30, .slice Ao31 x1478004_1.length co31] 60 (0, 0))) ∧ (w'.heap[s_.2.2.2]? = some (.cells #[.int .i64 0, .int .i64 0, .int .i64 0, .slice none 0 0, .slice none 0 0] 60 (0, 0))) ∧ (w.heap.size ≤ s_.2.2.2) ∧ (w0.heap.size ≤ s_.2.2.2) ∧ (g ≠ s_.2.2.2) ∧ (s_.2.2.2 ≠ g) ∧ (gb1455 ≠ s_.2.2.2) ∧ (s_.2.2.2 ≠ gb1455) ∧ (gb1477 ≠ s_.2.2.2) ∧ (s_.2.2.2 ≠ gb1477) ∧ (IsS101 w0 w' g s0_0 t1486) ∧ (KeepBut w w' g none) ∧ (Below w0.heap.size w0 w')) ?_ ?_
    rotate_left
    ·intro hJ2_3_5_8_9_13
     refine join_ (σ := Value × Value × Value) 3 #[true, true, true, true, true, true, true, true, true, true, true, true, true, false, false, false] (fun s_ => [(26, s_.1), (27, .int .i64 t1483), (29, .int .i64 t1485), (32, .string t1487), (33, .tuple #[.agg #[.int .i64 t1488, .int .i64 t1489, .int .i64 t1490, s_.2.1, s_.2.2], .int .i64 t1497]), (23, .tuple #[.agg #[.int .i64 t1488, .int .i64 t1489, .int .i64 t1490, s_.2.1, s_.2.2], .int .i64 t1497]), (34, .agg #[.int .i64 t1488, .int .i64 t1489, .int .i64 t1490, s_.2.1, s_.2.2]), (35, .int .i64 t1497)]) (fun s_ w' => (w'.cell? ⟨gb1477, 0, none⟩ = some (.int .i64 x1478000_1) ∧ w'.cell? ⟨gb1477, 1, none⟩ = some (.int .i64 x1478001_1) ∧ w'.cell? ⟨gb1477, 2, none⟩ = some (.int .i64 x1478002_1) ∧ w'.cell? ⟨gb1477, 3, none⟩ = some (.slice Ao30 x1478003_1.length co30) ∧ w'.cell? ⟨gb1477, 4, none⟩ = some (.slice Ao31 x1478004_1.length co31)) ∧ (Kd.R (Kd.int .i64) 3 w' w.heap.size (fun k_ => some k_ ≠ (s_.2.1 : Value).ownBlock ∧ some k_ ≠ (.slice Ao30 x1478003_1.length co30 : Value).ownBlock) s_.1 y1480) ∧ (Kd.R (Kd.int .i64) 3 w' w.heap.size (fun k_ => some k_ ≠ (s_.1 : Value).ownBlock ∧ some k_ ≠ (.slice Ao30 x1478003_1.length co30 : Value).ownBlock) s_.2.1 t1491) ∧ (Kd.R Kd.string 9 w' w.heap.size (fun k_ => some k_ ≠ (.slice Ao31 x1478004_1.length co31 : Value).ownBlock) s_.2.2 t1494) ∧ (Kd.R (Kd.int .i64) 3 w' w.heap.size (fun k_ => some k_ ≠ (s_.1 : Value).ownBlock ∧ some k_ ≠ (s_.2.1 : Value).ownBlock) (.slice Ao30 x1478003_1.length co30) x1478003_1) ∧ (Kd.R Kd.string 9 w' w.heap.size (fun k_ => some k_ ≠ (s_.2.2 : Value).ownBlock) (.slice Ao31 x1478004_1.length co31) x1478004_1) ∧ (w'.heap[gb1455]? = some (.cells #[.int .i64 0, .int .i64 0, .int .i64 0, .slice none 0 0, .slice none 0 0] 60 (0, 0))) ∧ (w'.heap[gb1477]? = some (.cells #[.int .i64 x1478000_1, .int .i64 x1478001_1, .int .i64 x1478002_1, .slice Ao30 x1478003_1.length co30, .slice Ao31 x1478004_1.length co31] 60 (0, 0))) ∧ (IsS101 w0 w' g s0_0 t1486) ∧ (KeepBut w w' g none) ∧ (Below w0.heap.size w0 w')) ?_ ?_
     rotate_left
     ·intro hJ2_3_5_8_9
      refine join_ (σ := Value × Nat) 6 #[true, true, true, true, true, true, true, true, true, false, false, false, false, true, false, false] (fun s_ => [(26, s_.1), (27, .int .i64 t1483), (29, .int .i64 t1485), (32, .string t1487), (5, .pointer (some ⟨s_.2, 0, none⟩))]) (fun s_ w' => (w'.cell? ⟨gb1477, 0, none⟩ = some (.int .i64 x1478000_1) ∧ w'.cell? ⟨gb1477, 1, none⟩ = some (.int .i64 x1478001_1) ∧ w'.cell? ⟨gb1477, 2, none⟩ = some (.int .i64 x1478002_1) ∧ w'.cell? ⟨gb1477, 3, none⟩ = some (.slice Ao30 x1478003_1.length co30) ∧ w'.cell? ⟨gb1477, 4, none⟩ = some (.slice Ao31 x1478004_1.length co31)) ∧ (Kd.R (Kd.int .i64) 3 w' w.heap.size (fun k_ => some k_ ≠ (.slice Ao30 x1478003_1.length co30 : Value).ownBlock) s_.1 y1480) ∧ (Kd.R (Kd.int .i64) 3 w' w.heap.size (fun k_ => some k_ ≠ (s_.1 : Value).ownBlock) (.slice Ao30 x1478003_1.length co30) x1478003_1) ∧ (Kd.R Kd.string 9 w' w.heap.size (fun _ => True) (.slice Ao31 x1478004_1.length co31) x1478004_1) ∧ (w'.heap[gb1455]? = some (.cells #[.int .i64 0, .int .i64 0, .int .i64 0, .slice none 0 0, .slice none 0 0] 60 (0, 0))) ∧ (w'.heap[gb1477]? = some (.cells #[.int .i64 x1478000_1, .int .i64 x1478001_1, .int .i64 x1478002_1, .slice Ao30 x1478003_1.length co30, .slice Ao31 x1478004_1.length co31] 60 (0, 0))) ∧ (w'.heap[s_.2]? = some (.cells #[.int .i64 0, .int .i64 0, .int .i64 0, .slice none 0 0, .slice none 0 0] 60 (0, 0))) ∧ (w.heap.size ≤ s_.2) ∧ (w0.heap.size ≤ s_.2) ∧ (g ≠ s_.2) ∧ (s_.2 ≠ g) ∧ (gb1455 ≠ s_.2) ∧ (s_.2 ≠ gb1455) ∧ (gb1477 ≠ s_.2) ∧ (s_.2 ≠ gb1477) ∧ (IsS101 w0 w' g s0_0 t1486) ∧ (KeepBut w w' g none) ∧ (Below w0.heap.size w0 w')) ?_ ?_
      rotate_left
      ·intro hJ2_3_5_8_13
       refine join_ (σ := Value) 7 #[true, true, true, true, true, true, true, true, true, false, false, false, false, false, false, false] (fun s_ => [(26, s_), (27, .int .i64 t1483), (29, .int .i64 t1485), (32, .string t1487)]) (fun s_ w' => (w'.cell? ⟨gb1477, 0, none⟩ = some (.int .i64 x1478000_1) ∧ w'.cell? ⟨gb1477, 1, none⟩ = some (.int .i64 x1478001_1) ∧ w'.cell? ⟨gb1477, 2, none⟩ = some (.int .i64 x1478002_1) ∧ w'.cell? ⟨gb1477, 3, none⟩ = some (.slice Ao30 x1478003_1.length co30) ∧ w'.cell? ⟨gb1477, 4, none⟩ = some (.slice Ao31 x1478004_1.length co31)) ∧ (Kd.R (Kd.int .i64) 3 w' w.heap.size (fun k_ => some k_ ≠ (.slice Ao30 x1478003_1.length co30 : Value).ownBlock) s_ y1480) ∧ (Kd.R (Kd.int .i64) 3 w' w.heap.size (fun k_ => some k_ ≠ (s_ : Value).ownBlock) (.slice Ao30 x1478003_1.length co30) x1478003_1) ∧ (Kd.R Kd.string 9 w' w.heap.size (fun _ => True) (.slice Ao31 x1478004_1.length co31) x1478004_1) ∧ (w'.heap[gb1455]? = some (.cells #[.int .i64 0, .int .i64 0, .int .i64 0, .slice none 0 0, .slice none 0 0] 60 (0, 0))) ∧ (w'.heap[gb1477]? = some (.cells #[.int .i64 x1478000_1, .int .i64 x1478001_1, .int .i64 x1478002_1, .slice Ao30 x1478003_1.length co30, .slice Ao31 x1478004_1.length co31] 60 (0, 0))) ∧ (IsS101 w0 w' g s0_0 t1486) ∧ (KeepBut w w' g none) ∧ (Below w0.heap.size w0 w')) ?_ ?_
       rotate_left
       ·intro hJ2_3_5_8
        refine join_ (σ := Value × Nat) 7 #[true, true, true, true, true, true, true, true, false, false, false, false, false, true, false, false] (fun s_ => [(26, s_.1), (27, .int .i64 t1483), (29, .int .i64 t1485), (5, .pointer (some ⟨s_.2, 0, none⟩))]) (fun s_ w' => (w'.cell? ⟨gb1477, 0, none⟩ = some (.int .i64 x1478000_1) ∧ w'.cell? ⟨gb1477, 1, none⟩ = some (.int .i64 x1478001_1) ∧ w'.cell? ⟨gb1477, 2, none⟩ = some (.int .i64 x1478002_1) ∧ w'.cell? ⟨gb1477, 3, none⟩ = some (.slice Ao30 x1478003_1.length co30) ∧ w'.cell? ⟨gb1477, 4, none⟩ = some (.slice Ao31 x1478004_1.length co31)) ∧ (Kd.R (Kd.int .i64) 3 w' w.heap.size (fun k_ => some k_ ≠ (.slice Ao30 x1478003_1.length co30 : Value).ownBlock) s_.1 y1480) ∧ (Kd.R (Kd.int .i64) 3 w' w.heap.size (fun k_ => some k_ ≠ (s_.1 : Value).ownBlock) (.slice Ao30 x1478003_1.length co30) x1478003_1) ∧ (Kd.R Kd.string 9 w' w.heap.size (fun _ => True) (.slice Ao31 x1478004_1.length co31) x1478004_1) ∧ (w'.heap[gb1455]? = some (.cells #[.int .i64 0, .int .i64 0, .int .i64 0, .slice none 0 0, .slice none 0 0] 60 (0, 0))) ∧ (w'.heap[gb1477]? = some (.cells #[.int .i64 x1478000_1, .int .i64 x1478001_1, .int .i64 x1478002_1, .slice Ao30 x1478003_1.length co30, .slice Ao31 x1478004_1.length co31] 60 (0, 0))) ∧ (w'.heap[s_.2]? = some (.cells #[.int .i64 0, .int .i64 0, .int .i64 0, .slice none 0 0, .slice none 0 0] 60 (0, 0))) ∧ (w.heap.size ≤ s_.2) ∧ (w0.heap.size ≤ s_.2) ∧ (g ≠ s_.2) ∧ (s_.2 ≠ g) ∧ (gb1455 ≠ s_.2) ∧ (s_.2 ≠ gb1455) ∧ (gb1477 ≠ s_.2) ∧ (s_.2 ≠ gb1477) ∧ (IsS101 w0 w' g s0_0 t1486) ∧ (KeepBut w w' g none) ∧ (Below w0.heap.size w0 w')) ?_ ?_
        rotate_left
        ·intro hJ2_3_5_13
         refine join_ (σ := Value) 8 #[true, true, true, true, true, true, true, true, false, false, false, false, false, false, false, false] (fun s_ => [(26, s_), (27, .int .i64 t1483), (29, .int .i64 t1485)]) (fun s_ w' => (w'.cell? ⟨gb1477, 0, none⟩ = some (.int .i64 x1478000_1) ∧ w'.cell? ⟨gb1477, 1, none⟩ = some (.int .i64 x1478001_1) ∧ w'.cell? ⟨gb1477, 2, none⟩ = some (.int .i64 x1478002_1) ∧ w'.cell? ⟨gb1477, 3, none⟩ = some (.slice Ao30 x1478003_1.length co30) ∧ w'.cell? ⟨gb1477, 4, none⟩ = some (.slice Ao31 x1478004_1.length co31)) ∧ (Kd.R (Kd.int .i64) 3 w' w.heap.size (fun k_ => some k_ ≠ (.slice Ao30 x1478003_1.length co30 : Value).ownBlock) s_ y1480) ∧ (Kd.R (Kd.int .i64) 3 w' w.heap.size (fun k_ => some k_ ≠ (s_ : Value).ownBlock) (.slice Ao30 x1478003_1.length co30) x1478003_1) ∧ (Kd.R Kd.string 9 w' w.heap.size (fun _ => True) (.slice Ao31 x1478004_1.length co31) x1478004_1) ∧ (w'.heap[gb1455]? = some (.cells #[.int .i64 0, .int .i64 0, .int .i64 0, .slice none 0 0, .slice none 0 0] 60 (0, 0))) ∧ (w'.heap[gb1477]? = some (.cells #[.int .i64 x1478000_1, .int .i64 x1478001_1, .int .i64 x1478002_1, .slice Ao30 x1478003_1.length co30, .slice Ao31 x1478004_1.length co31] 60 (0, 0))) ∧ (IsS101 w0 w' g s0_0 t1486) ∧ (KeepBut w w' g none) ∧ (Below w0.heap.size w0 w')) ?_ ?_
         rotate_left
         ·intro hJ2_3_5
          refine join_ (σ := Value × Nat) 8 #[true, true, true, true, true, false, true, true, false, false, false, false, false, true, false, false] (fun s_ => [(26, s_.1), (27, .int .i64 t1483), (5, .pointer (some ⟨s_.2, 0, none⟩))]) (fun s_ w' => (w'.cell? ⟨gb1477, 0, none⟩ = some (.int .i64 x1478000_1) ∧ w'.cell? ⟨gb1477, 1, none⟩ = some (.int .i64 x1478001_1) ∧ w'.cell? ⟨gb1477, 2, none⟩ = some (.int .i64 x1478002_1) ∧ w'.cell? ⟨gb1477, 3, none⟩ = some (.slice Ao30 x1478003_1.length co30) ∧ w'.cell? ⟨gb1477, 4, none⟩ = some (.slice Ao31 x1478004_1.length co31)) ∧ (Kd.R (Kd.int .i64) 3 w' w.heap.size (fun k_ => some k_ ≠ (.slice Ao30 x1478003_1.length co30 : Value).ownBlock) s_.1 y1480) ∧ (Kd.R (Kd.int .i64) 3 w' w.heap.size (fun k_ => some k_ ≠ (s_.1 : Value).ownBlock) (.slice Ao30 x1478003_1.length co30) x1478003_1) ∧ (Kd.R Kd.string 9 w' w.heap.size (fun _ => True) (.slice Ao31 x1478004_1.length co31) x1478004_1) ∧ (w'.heap[gb1455]? = some (.cells #[.int .i64 0, .int .i64 0, .int .i64 0, .slice none 0 0, .slice none 0 0] 60 (0, 0))) ∧ (w'.heap[gb1477]? = some (.cells #[.int .i64 x1478000_1, .int .i64 x1478001_1, .int .i64 x1478002_1, .slice Ao30 x1478003_1.length co30, .slice Ao31 x1478004_1.length co31] 60 (0, 0))) ∧ (w'.heap[s_.2]? = some (.cells #[.int .i64 0, .int .i64 0, .int .i64 0, .slice none 0 0, .slice none 0 0] 60 (0, 0))) ∧ (w.heap.size ≤ s_.2) ∧ (w0.heap.size ≤ s_.2) ∧ (g ≠ s_.2) ∧ (s_.2 ≠ g) ∧ (gb1455 ≠ s_.2) ∧ (s_.2 ≠ gb1455) ∧ (gb1477 ≠ s_.2) ∧ (s_.2 ≠ gb1477) ∧ (IsS101 w0 w' g s0_0 t1484) ∧ (KeepBut w w' g none) ∧ (Below w0.heap.size w0 w')) ?_ ?_
          rotate_left
          ·intro hJ2_3_13
           refine join_ (σ := Value) 9 #[true, true, true, true, true, false, true, true, false, false, false, false, false, false, false, false] (fun s_ => [(26, s_), (27, .int .i64 t1483)]) (fun s_ w' => (w'.cell? ⟨gb1477, 0, none⟩ = some (.int .i64 x1478000_1) ∧ w'.cell? ⟨gb1477, 1, none⟩ = some (.int .i64 x1478001_1) ∧ w'.cell? ⟨gb1477, 2, none⟩ = some (.int .i64 x1478002_1) ∧ w'.cell? ⟨gb1477, 3, none⟩ = some (.slice Ao30 x1478003_1.length co30) ∧ w'.cell? ⟨gb1477, 4, none⟩ = some (.slice Ao31 x1478004_1.length co31)) ∧ (Kd.R (Kd.int .i64) 3 w' w.heap.size (fun k_ => some k_ ≠ (.slice Ao30 x1478003_1.length co30 : Value).ownBlock) s_ y1480) ∧ (Kd.R (Kd.int .i64) 3 w' w.heap.size (fun k_ => some k_ ≠ (s_ : Value).ownBlock) (.slice Ao30 x1478003_1.length co30) x1478003_1) ∧ (Kd.R Kd.string 9 w' w.heap.size (fun _ => True) (.slice Ao31 x1478004_1.length co31) x1478004_1) ∧ (w'.heap[gb1455]? = some (.cells #[.int .i64 0, .int .i64 0, .int .i64 0, .slice none 0 0, .slice none 0 0] 60 (0, 0))) ∧ (w'.heap[gb1477]? = some (.cells #[.int .i64 x1478000_1, .int .i64 x1478001_1, .int .i64 x1478002_1, .slice Ao30 x1478003_1.length co30, .slice Ao31 x1478004_1.length co31] 60 (0, 0))) ∧ (IsS101 w0 w' g s0_0 t1484) ∧ (KeepBut w w' g none) ∧ (Below w0.heap.size w0 w')) ?_ ?_
           rotate_left
           ·intro hJ2_3
            refine join_ (σ := Value × Nat) 9 #[true, true, true, false, true, false, true, true, false, false, false, false, false, true, false, false] (fun s_ => [(26, s_.1), (5, .pointer (some ⟨s_.2, 0, none⟩))]) (fun s_ w' => (w'.cell? ⟨gb1477, 0, none⟩ = some (.int .i64 x1478000_1) ∧ w'.cell? ⟨gb1477, 1, none⟩ = some (.int .i64 x1478001_1) ∧ w'.cell? ⟨gb1477, 2, none⟩ = some (.int .i64 x1478002_1) ∧ w'.cell? ⟨gb1477, 3, none⟩ = some (.slice Ao30 x1478003_1.length co30) ∧ w'.cell? ⟨gb1477, 4, none⟩ = some (.slice Ao31 x1478004_1.length co31)) ∧ (Kd.R (Kd.int .i64) 3 w' w.heap.size (fun k_ => some k_ ≠ (.slice Ao30 x1478003_1.length co30 : Value).ownBlock) s_.1 y1480) ∧ (Kd.R (Kd.int .i64) 3 w' w.heap.size (fun k_ => some k_ ≠ (s_.1 : Value).ownBlock) (.slice Ao30 x1478003_1.length co30) x1478003_1) ∧ (Kd.R Kd.string 9 w' w.heap.size (fun _ => True) (.slice Ao31 x1478004_1.length co31) x1478004_1) ∧ (w'.heap[gb1455]? = some (.cells #[.int .i64 0, .int .i64 0, .int .i64 0, .slice none 0 0, .slice none 0 0] 60 (0, 0))) ∧ (w'.heap[gb1477]? = some (.cells #[.int .i64 x1478000_1, .int .i64 x1478001_1, .int .i64 x1478002_1, .slice Ao30 x1478003_1.length co30, .slice Ao31 x1478004_1.length co31] 60 (0, 0))) ∧ (w'.heap[s_.2]? = some (.cells #[.int .i64 0, .int .i64 0, .int .i64 0, .slice none 0 0, .slice none 0 0] 60 (0, 0))) ∧ (w.heap.size ≤ s_.2) ∧ (w0.heap.size ≤ s_.2) ∧ (g ≠ s_.2) ∧ (s_.2 ≠ g) ∧ (gb1455 ≠ s_.2) ∧ (s_.2 ≠ gb1455) ∧ (gb1477 ≠ s_.2) ∧ (s_.2 ≠ gb1477) ∧ (IsS101 w0 w' g s0_0 x1001_1) ∧ (KeepBut w w' g none) ∧ (Below w0.heap.size w0 w')) ?_ ?_
            rotate_left
            ·intro hJ2_13
             refine join_ (σ := Value) 10 #[true, true, true, false, true, false, true, true, false, false, false, false, false, false, false, false] (fun s_ => [(26, s_)]) (fun s_ w' => (w'.cell? ⟨gb1477, 0, none⟩ = some (.int .i64 x1478000_1) ∧ w'.cell? ⟨gb1477, 1, none⟩ = some (.int .i64 x1478001_1) ∧ w'.cell? ⟨gb1477, 2, none⟩ = some (.int .i64 x1478002_1) ∧ w'.cell? ⟨gb1477, 3, none⟩ = some (.slice Ao30 x1478003_1.length co30) ∧ w'.cell? ⟨gb1477, 4, none⟩ = some (.slice Ao31 x1478004_1.length co31)) ∧ (Kd.R (Kd.int .i64) 3 w' w.heap.size (fun k_ => some k_ ≠ (.slice Ao30 x1478003_1.length co30 : Value).ownBlock) s_ y1480) ∧ (Kd.R (Kd.int .i64) 3 w' w.heap.size (fun k_ => some k_ ≠ (s_ : Value).ownBlock) (.slice Ao30 x1478003_1.length co30) x1478003_1) ∧ (Kd.R Kd.string 9 w' w.heap.size (fun _ => True) (.slice Ao31 x1478004_1.length co31) x1478004_1) ∧ (w'.heap[gb1455]? = some (.cells #[.int .i64 0, .int .i64 0, .int .i64 0, .slice none 0 0, .slice none 0 0] 60 (0, 0))) ∧ (w'.heap[gb1477]? = some (.cells #[.int .i64 x1478000_1, .int .i64 x1478001_1, .int .i64 x1478002_1, .slice Ao30 x1478003_1.length co30, .slice Ao31 x1478004_1.length co31] 60 (0, 0))) ∧ (IsS101 w0 w' g s0_0 x1001_1) ∧ (KeepBut w w' g none) ∧ (Below w0.heap.size w0 w')) ?_ ?_
             rotate_left
             ·intro hJ2
              refine join_ (σ := Nat) 10 #[true, true, false, false, true, false, true, true, false, false, false, false, false, true, false, false] (fun s_ => [(5, .pointer (some ⟨s_, 0, none⟩))]) (fun s_ w' => (w'.cell? ⟨gb1477, 0, none⟩ = some (.int .i64 x1478000_1) ∧ w'.cell? ⟨gb1477, 1, none⟩ = some (.int .i64 x1478001_1) ∧ w'.cell? ⟨gb1477, 2, none⟩ = some (.int .i64 x1478002_1) ∧ w'.cell? ⟨gb1477, 3, none⟩ = some (.slice Ao30 x1478003_1.length co30) ∧ w'.cell? ⟨gb1477, 4, none⟩ = some (.slice Ao31 x1478004_1.length co31)) ∧ (Kd.R (Kd.int .i64) 3 w' w.heap.size (fun _ => True) (.slice Ao30 x1478003_1.length co30) x1478003_1) ∧ (Kd.R Kd.string 9 w' w.heap.size (fun _ => True) (.slice Ao31 x1478004_1.length co31) x1478004_1) ∧ (w'.heap[gb1455]? = some (.cells #[.int .i64 0, .int .i64 0, .int .i64 0, .slice none 0 0, .slice none 0 0] 60 (0, 0))) ∧ (w'.heap[gb1477]? = some (.cells #[.int .i64 x1478000_1, .int .i64 x1478001_1, .int .i64 x1478002_1, .slice Ao30 x1478003_1.length co30, .slice Ao31 x1478004_1.length co31] 60 (0, 0))) ∧ (w'.heap[s_]? = some (.cells #[.int .i64 0, .int .i64 0, .int .i64 0, .slice none 0 0, .slice none 0 0] 60 (0, 0))) ∧ (w.heap.size ≤ s_) ∧ (w0.heap.size ≤ s_) ∧ (g ≠ s_) ∧ (s_ ≠ g) ∧ (gb1455 ≠ s_) ∧ (s_ ≠ gb1455) ∧ (gb1477 ≠ s_) ∧ (s_ ≠ gb1477) ∧ (IsS101 w0 w' g s0_0 x1001_1) ∧ (KeepBut w w' g none) ∧ (Below w0.heap.size w0 w')) ?_ ?_
              rotate_left
              ·intro hJ13
               refine two_ (i := 2) (j := 13) (Ni := some 26) (Nj := some 5) #[true, true, true, false, true, false, true, true, false, false, false, false, false, false, false, false] #[true, true, false, false, true, false, true, true, false, false, false, false, false, true, false, false] rfl rfl rfl rfl (two_of HT_.out (by kernel_rfl)) (by decide) (by decide) (fun K hK => ?_) (fun K hK => ?_)
               ·skip
                refine Kd.R_lit_step (Kd.int .i64) _ 3 ?hg (N := 26) ?hd (xs := ([0, 1, 2, 3, 7, 200, 4294967295] : List Int)) (inner := [.int .i64 0, .int .i64 1, .int .i64 2, .int .i64 3, .int .i64 7, .int .i64 200, .int .i64 4294967295]) (ok := fun _ => True) (okp := fun _ => True) ?hr ?hp (fun _ hk => hk) trivial (Below.refl _ _) (Nat.le_refl _) (by simp) ?_; (case hd => rfl); (case hg => rfl); (case hr => first | (go_simp; done) | (go_simp; rfl)); (case hp => exact (Reps.one (show Kd.M (Kd.int .i64) _ _ _ 0 [.int .i64 0] from rfl) (Reps.one (show Kd.M (Kd.int .i64) _ _ _ 1 [.int .i64 1] from rfl) (Reps.one (show Kd.M (Kd.int .i64) _ _ _ 2 [.int .i64 2] from rfl) (Reps.one (show Kd.M (Kd.int .i64) _ _ _ 3 [.int .i64 3] from rfl) (Reps.one (show Kd.M (Kd.int .i64) _ _ _ 7 [.int .i64 7] from rfl) (Reps.one (show Kd.M (Kd.int .i64) _ _ _ 200 [.int .i64 200] from rfl) (Reps.one (show Kd.M (Kd.int .i64) _ _ _ 4294967295 [.int .i64 4294967295] from rfl) (Reps.none _ _)))))))))
                intro v1481 w33 ho34 hb hg_ hnew_
                clear hg_ hnew_
                (first | rw [← Ny1480.out] at ho34 | (simp only [Int.reduceToNat] at ho34; rw [← Ny1480.out] at ho34))
                have n0_ := Aside0.mk (Kd.R_elder' (by (with_reducible repeat (first | apply Kd.R_alloc | apply Kd.R_drewN | apply Kd.R_drew)); exact HO_1478003.out) (Kd.R_base ho34) hb)
                have n1_ := Aside0.mk (Kd.R_below (by (with_reducible repeat (first | apply Kd.R_alloc | apply Kd.R_drewN | apply Kd.R_drew)); exact HO_1478004.out) hb)
                have n2_ := Aside0.mk (Kd.R_lower (Kd.R_new' ho34 (Kd.R_lt (by (with_reducible repeat (first | apply Kd.R_alloc | apply Kd.R_drewN | apply Kd.R_drew)); exact HO_1478003.out))) (keep_size (w := w) (g := g) (row := none) (by repeat (first | (with_reducible first | exact HK.out | apply KeepBut.set_ | apply keep_drewN | apply keep_drew | apply keep_alloc | refine keep_far ?_ GW1455.out _ | refine keep_far ?_ GW1477.out _) | exact HK.out))))
                have n3_ := zb BK1455 hb rfl
                have n4_ := zb BK1477 hb rfl
                have n5_ := Aside0.mk (IsS101.below (by repeat (first | (with_reducible first | exact HI0.out | apply IsS101.alloc | apply IsS101.drewN | apply IsS101.drew | apply IsS101.set_1 | refine IsS101.far ?_ NB0_1455.out _ | refine IsS101.far ?_ NB0_1477.out _) | exact HI0.out)) hb)
                have n6_ := Aside0.mk (KeepBut.trans (by repeat (first | (with_reducible first | exact HK.out | apply KeepBut.set_ | apply keep_drewN | apply keep_drew | apply keep_alloc | refine keep_far ?_ GW1455.out _ | refine keep_far ?_ GW1477.out _) | exact HK.out)) (KeepBut.of_below hb g none) (.inl rfl))
                have n7_ := Aside0.mk (below_step (by repeat (first | (with_reducible first | exact HB.out | apply below_alloc | apply pw_below_drewN | apply below_drew1 | refine below_set ?_ (IsS101.ge HI0.out) | refine below_set ?_ GE1455.out | refine below_set ?_ GE1477.out) | exact HB.out)) hb)
                clear HO_1478003
                clear HO_1478004
                clear BK1455
                clear BK1477
                clear HI0
                clear HK
                clear HB
                have HO_1478003 := n0_
                have HO_1478004 := n1_
                have HO1482 := n2_
                have BK1455 := n3_
                have BK1477 := n4_
                have HI0 := n5_
                have HK := n6_
                have HB := n7_
                clear n0_ n1_ n2_ n3_ n4_ n5_ n6_ n7_
                clear hb ho34
                refine hK.out _ _ ⟨(blk_cell BK1477.out 0).trans rfl, (blk_cell BK1477.out 1).trans rfl, (blk_cell BK1477.out 2).trans rfl, (blk_cell BK1477.out 3).trans rfl, (blk_cell BK1477.out 4).trans rfl⟩ (fun hHeld => ?_)
                clear hK K
                refine norm_ (a' := ?_) ?_ ?_
                rotate_left
                ·show Act.put _ (some 26) _ = _
                 simp only [Act.put, List.setIfInBounds_toArray, List.set_cons_zero, List.set_cons_succ, i64_w, i32_w]
                 rfl
                exact norm_ (by first | (simp only [putAll, Act.put, List.setIfInBounds_toArray, List.set_cons_zero, List.set_cons_succ]; done) | (simp only [putAll, Act.put, List.setIfInBounds_toArray, List.set_cons_zero, List.set_cons_succ]; rfl)) (hJ2 (v1481) _ ⟨hHeld, (by (with_reducible repeat (first | apply Kd.R_alloc | apply Kd.R_drewN | apply Kd.R_drew)); exact Kd.R_mono HO1482.out (fun _ hk => hk.2)), (by (with_reducible repeat (first | apply Kd.R_alloc | apply Kd.R_drewN | apply Kd.R_drew)); exact Kd.R_mono HO_1478003.out (fun _ hk => hk.2)), (by (with_reducible repeat (first | apply Kd.R_alloc | apply Kd.R_drewN | apply Kd.R_drew)); exact HO_1478004.out), (by (with_reducible repeat first | apply bN | apply bD | apply bA); exact BK1455.out), (by (with_reducible repeat first | apply bN | apply bD | apply bA); exact BK1477.out), (by repeat (first | (with_reducible first | exact HI0.out | apply IsS101.alloc | apply IsS101.drewN | apply IsS101.drew | apply IsS101.set_1 | refine IsS101.far ?_ NB0_1455.out _ | refine IsS101.far ?_ NB0_1477.out _) | exact HI0.out)), (by repeat (first | (with_reducible first | exact HK.out | apply KeepBut.set_ | apply keep_drewN | apply keep_drew | apply keep_alloc | refine keep_far ?_ GW1455.out _ | refine keep_far ?_ GW1477.out _) | exact HK.out)), (by repeat (first | (with_reducible first | exact HB.out | apply below_alloc | apply pw_below_drewN | apply below_drew1 | refine below_set ?_ (IsS101.ge HI0.out) | refine below_set ?_ GE1455.out | refine below_set ?_ GE1477.out) | exact HB.out))⟩)
               ·skip
                refine box_step ?hg (N := 5) ?hd (cs := #[.int .i64 0, .int .i64 0, .int .i64 0, .slice none 0 0, .slice none 0 0]) (t := 60) ?hr ?_; (case hd => rfl); (case hg => rfl); (case hr => first | (go_simp; done) | (go_simp; rfl))
                intro gb1498 hg w33 hbox hb
                have n0_ := Aside0.mk (Kd.R_below (by (with_reducible repeat (first | apply Kd.R_alloc | apply Kd.R_drewN | apply Kd.R_drew)); exact HO_1478003.out) hb)
                have n1_ := Aside0.mk (Kd.R_below (by (with_reducible repeat (first | apply Kd.R_alloc | apply Kd.R_drewN | apply Kd.R_drew)); exact HO_1478004.out) hb)
                have n2_ := zb BK1455 hb rfl
                have n3_ := zb BK1477 hb rfl
                have n4_ := Aside0.mk (IsS101.below (by repeat (first | (with_reducible first | exact HI0.out | apply IsS101.alloc | apply IsS101.drewN | apply IsS101.drew | apply IsS101.set_1 | refine IsS101.far ?_ NB0_1455.out _ | refine IsS101.far ?_ NB0_1477.out _) | exact HI0.out)) hb)
                have n5_ := Aside0.mk (KeepBut.trans (by repeat (first | (with_reducible first | exact HK.out | apply KeepBut.set_ | apply keep_drewN | apply keep_drew | apply keep_alloc | refine keep_far ?_ GW1455.out _ | refine keep_far ?_ GW1477.out _) | exact HK.out)) (KeepBut.of_below hb g none) (.inl rfl))
                have n6_ := Aside0.mk (below_step (by repeat (first | (with_reducible first | exact HB.out | apply below_alloc | apply pw_below_drewN | apply below_drew1 | refine below_set ?_ (IsS101.ge HI0.out) | refine below_set ?_ GE1455.out | refine below_set ?_ GE1477.out) | exact HB.out)) hb)
                have n7_ := Aside0.mk (hbox)
                have n8_ := Aside0.mk ((by rw [hg]; exact (keep_size (w := w) (g := g) (row := none) (by repeat (first | (with_reducible first | exact HK.out | apply KeepBut.set_ | apply keep_drewN | apply keep_drew | apply keep_alloc | refine keep_far ?_ GW1455.out _ | refine keep_far ?_ GW1477.out _) | exact HK.out))) : w.heap.size ≤ gb1498))
                have n9_ := Aside0.mk ((Nat.le_trans HW0.out (by rw [hg]; exact (keep_size (w := w) (g := g) (row := none) (by repeat (first | (with_reducible first | exact HK.out | apply KeepBut.set_ | apply keep_drewN | apply keep_drew | apply keep_alloc | refine keep_far ?_ GW1455.out _ | refine keep_far ?_ GW1477.out _) | exact HK.out))) : w.heap.size ≤ gb1498) : w0.heap.size ≤ gb1498))
                have n10_ := zl BK1455 hg rfl
                have n11_ := zg BK1455 hg rfl
                have n12_ := zl BK1477 hg rfl
                have n13_ := zg BK1477 hg rfl
                have n14_ := Aside0.mk ((by rw [hg]; exact Nat.ne_of_lt (IsS101.lt (show IsS101 w0 _ g s0_0 x1001_1 from by repeat (first | (with_reducible first | exact HI0.out | apply IsS101.alloc | apply IsS101.drewN | apply IsS101.drew | apply IsS101.set_1 | refine IsS101.far ?_ NB0_1455.out _ | refine IsS101.far ?_ NB0_1477.out _) | exact HI0.out))) : g ≠ gb1498))
                have n15_ := Aside0.mk ((by rw [hg]; exact Nat.ne_of_gt (IsS101.lt (show IsS101 w0 _ g s0_0 x1001_1 from by repeat (first | (with_reducible first | exact HI0.out | apply IsS101.alloc | apply IsS101.drewN | apply IsS101.drew | apply IsS101.set_1 | refine IsS101.far ?_ NB0_1455.out _ | refine IsS101.far ?_ NB0_1477.out _) | exact HI0.out))) : gb1498 ≠ g))
                clear HO_1478003
                clear HO_1478004
                clear BK1455
                clear BK1477
                clear HI0
                clear HK
                clear HB
                have HO_1478003 := n0_
                have HO_1478004 := n1_
                have BK1455 := n2_
                have BK1477 := n3_
                have HI0 := n4_
                have HK := n5_
                have HB := n6_
                have BK1498 := n7_
                have GW1498 := n8_
                have GE1498 := n9_
                have NB1455_1498 := n10_
                have NB1498_1455 := n11_
                have NB1477_1498 := n12_
                have NB1498_1477 := n13_
                have NB0_1498 := n14_
                have NB1498_0 := n15_
                clear n0_ n1_ n2_ n3_ n4_ n5_ n6_ n7_ n8_ n9_ n10_ n11_ n12_ n13_ n14_ n15_
                clear hb hbox hg
                refine hK.out _ _ ⟨(blk_cell BK1477.out 0).trans rfl, (blk_cell BK1477.out 1).trans rfl, (blk_cell BK1477.out 2).trans rfl, (blk_cell BK1477.out 3).trans rfl, (blk_cell BK1477.out 4).trans rfl⟩ (fun hHeld => ?_)
                clear hK K
                refine norm_ (a' := ?_) ?_ ?_
                rotate_left
                ·show Act.put _ (some 5) _ = _
                 simp only [Act.put, List.setIfInBounds_toArray, List.set_cons_zero, List.set_cons_succ, i64_w, i32_w]
                 rfl
                exact norm_ (by first | (simp only [putAll, Act.put, List.setIfInBounds_toArray, List.set_cons_zero, List.set_cons_succ]; done) | (simp only [putAll, Act.put, List.setIfInBounds_toArray, List.set_cons_zero, List.set_cons_succ]; rfl)) (hJ13 (gb1498) _ ⟨hHeld, (by (with_reducible repeat (first | apply Kd.R_alloc | apply Kd.R_drewN | apply Kd.R_drew)); exact HO_1478003.out), (by (with_reducible repeat (first | apply Kd.R_alloc | apply Kd.R_drewN | apply Kd.R_drew)); exact HO_1478004.out), (by (with_reducible repeat first | apply bN | apply bD | apply bA); exact BK1455.out), (by (with_reducible repeat first | apply bN | apply bD | apply bA); exact BK1477.out), (by (with_reducible repeat first | apply bN | apply bD | apply bA); exact BK1498.out), GW1498.out, GE1498.out, NB0_1498.out, NB1498_0.out, NB1455_1498.out, NB1498_1455.out, NB1477_1498.out, NB1498_1477.out, (by repeat (first | (with_reducible first | exact HI0.out | apply IsS101.alloc | apply IsS101.drewN | apply IsS101.drew | apply IsS101.set_1 | refine IsS101.far ?_ NB0_1455.out _ | refine IsS101.far ?_ NB0_1477.out _ | refine IsS101.far ?_ NB0_1498.out _) | exact HI0.out)), (by repeat (first | (with_reducible first | exact HK.out | apply KeepBut.set_ | apply keep_drewN | apply keep_drew | apply keep_alloc | refine keep_far ?_ GW1455.out _ | refine keep_far ?_ GW1477.out _ | refine keep_far ?_ GW1498.out _) | exact HK.out)), (by repeat (first | (with_reducible first | exact HB.out | apply below_alloc | apply pw_below_drewN | apply below_drew1 | refine below_set ?_ (IsS101.ge HI0.out) | refine below_set ?_ GE1455.out | refine below_set ?_ GE1477.out | refine below_set ?_ GE1498.out) | exact HB.out))⟩)
              ·skip
               rintro gb1498 w34 ⟨hS_, h0_, h1_, h2_, h3_, h4_, h5_, h6_, h7_, h8_, h9_, h10_, h11_, h12_, h13_, h14_, h15_⟩
               have n0_ : Aside0 (Kd.R (Kd.int .i64) 3 w34 w.heap.size (fun _ => True) (.slice Ao30 x1478003_1.length co30) x1478003_1) := ⟨h0_⟩
               have n1_ : Aside0 (Kd.R Kd.string 9 w34 w.heap.size (fun _ => True) (.slice Ao31 x1478004_1.length co31) x1478004_1) := ⟨h1_⟩
               have n2_ : Aside0 (w34.heap[gb1455]? = some (.cells #[.int .i64 0, .int .i64 0, .int .i64 0, .slice none 0 0, .slice none 0 0] 60 (0, 0))) := ⟨h2_⟩
               have n3_ : Aside0 (w34.heap[gb1477]? = some (.cells #[.int .i64 x1478000_1, .int .i64 x1478001_1, .int .i64 x1478002_1, .slice Ao30 x1478003_1.length co30, .slice Ao31 x1478004_1.length co31] 60 (0, 0))) := ⟨h3_⟩
               have n4_ : Aside0 (w34.heap[gb1498]? = some (.cells #[.int .i64 0, .int .i64 0, .int .i64 0, .slice none 0 0, .slice none 0 0] 60 (0, 0))) := ⟨h4_⟩
               have n5_ : Aside0 (w.heap.size ≤ gb1498) := ⟨h5_⟩
               have n6_ : Aside0 (w0.heap.size ≤ gb1498) := ⟨h6_⟩
               have n7_ : Aside0 (g ≠ gb1498) := ⟨h7_⟩
               have n8_ : Aside0 (gb1498 ≠ g) := ⟨h8_⟩
               have n9_ : Aside0 (gb1455 ≠ gb1498) := ⟨h9_⟩
               have n10_ : Aside0 (gb1498 ≠ gb1455) := ⟨h10_⟩
               have n11_ : Aside0 (gb1477 ≠ gb1498) := ⟨h11_⟩
               have n12_ : Aside0 (gb1498 ≠ gb1477) := ⟨h12_⟩
               have n13_ : Aside0 (IsS101 w0 w34 g s0_0 x1001_1) := ⟨h13_⟩
               have n14_ : Aside0 (KeepBut w w34 g none) := ⟨h14_⟩
               have n15_ : Aside0 (Below w0.heap.size w0 w34) := ⟨h15_⟩
               clear HO_1478003
               clear HO_1478004
               clear BK1455
               clear BK1477
               clear HI0
               clear HK
               clear HB
               clear h0_ h1_ h2_ h3_ h4_ h5_ h6_ h7_ h8_ h9_ h10_ h11_ h12_ h13_ h14_ h15_
               have HO_1478003 := n0_
               have HO_1478004 := n1_
               have BK1455 := n2_
               have BK1477 := n3_
               have BK1498 := n4_
               have GW1498 := n5_
               have GE1498 := n6_
               have NB0_1498 := n7_
               have NB1498_0 := n8_
               have NB1455_1498 := n9_
               have NB1498_1455 := n10_
               have NB1477_1498 := n11_
               have NB1498_1477 := n12_
               have HI0 := n13_
               have HK := n14_
               have HB := n15_
               clear n0_ n1_ n2_ n3_ n4_ n5_ n6_ n7_ n8_ n9_ n10_ n11_ n12_ n13_ n14_ n15_
               have hHeld : w34.cell? ⟨gb1477, 0, none⟩ = some (.int .i64 x1478000_1) ∧ w34.cell? ⟨gb1477, 1, none⟩ = some (.int .i64 x1478001_1) ∧ w34.cell? ⟨gb1477, 2, none⟩ = some (.int .i64 x1478002_1) ∧ w34.cell? ⟨gb1477, 3, none⟩ = some (.slice Ao30 x1478003_1.length co30) ∧ w34.cell? ⟨gb1477, 4, none⟩ = some (.slice Ao31 x1478004_1.length co31) := hS_
               refine norm_ (a' := ?_) ?_ ?_
               rotate_left
               ·simp only [putAll, Act.put, List.setIfInBounds_toArray, List.set_cons_zero, List.set_cons_succ]
                rfl
               refine one_ (i := 2) (N := some 26) #[true, true, true, false, true, false, true, true, false, false, false, false, false, true, false, false] rfl rfl (one_of HT_.out (by kernel_rfl)) (by decide) (fun K hK => ?_)
               refine Kd.R_lit_step (Kd.int .i64) _ 3 ?hg (N := 26) ?hd (xs := ([0, 1, 2, 3, 7, 200, 4294967295] : List Int)) (inner := [.int .i64 0, .int .i64 1, .int .i64 2, .int .i64 3, .int .i64 7, .int .i64 200, .int .i64 4294967295]) (ok := fun _ => True) (okp := fun _ => True) ?hr ?hp (fun _ hk => hk) trivial (Below.refl _ _) (Nat.le_refl _) (by simp) ?_; (case hd => rfl); (case hg => rfl); (case hr => first | (go_simp; done) | (go_simp; rfl)); (case hp => exact (Reps.one (show Kd.M (Kd.int .i64) _ _ _ 0 [.int .i64 0] from rfl) (Reps.one (show Kd.M (Kd.int .i64) _ _ _ 1 [.int .i64 1] from rfl) (Reps.one (show Kd.M (Kd.int .i64) _ _ _ 2 [.int .i64 2] from rfl) (Reps.one (show Kd.M (Kd.int .i64) _ _ _ 3 [.int .i64 3] from rfl) (Reps.one (show Kd.M (Kd.int .i64) _ _ _ 7 [.int .i64 7] from rfl) (Reps.one (show Kd.M (Kd.int .i64) _ _ _ 200 [.int .i64 200] from rfl) (Reps.one (show Kd.M (Kd.int .i64) _ _ _ 4294967295 [.int .i64 4294967295] from rfl) (Reps.none _ _)))))))))
               intro v1481 w35 ho36 hb hg_ hnew_
               clear hg_ hnew_
               (first | rw [← Ny1480.out] at ho36 | (simp only [Int.reduceToNat] at ho36; rw [← Ny1480.out] at ho36))
               have n0_ := Aside0.mk (Kd.R_elder' (by (with_reducible repeat (first | apply Kd.R_alloc | apply Kd.R_drewN | apply Kd.R_drew)); exact HO_1478003.out) (Kd.R_base ho36) hb)
               have n1_ := Aside0.mk (Kd.R_below (by (with_reducible repeat (first | apply Kd.R_alloc | apply Kd.R_drewN | apply Kd.R_drew)); exact HO_1478004.out) hb)
               have n2_ := Aside0.mk (Kd.R_lower (Kd.R_new' ho36 (Kd.R_lt (by (with_reducible repeat (first | apply Kd.R_alloc | apply Kd.R_drewN | apply Kd.R_drew)); exact HO_1478003.out))) (keep_size (w := w) (g := g) (row := none) (by repeat (first | (with_reducible first | exact HK.out | apply KeepBut.set_ | apply keep_drewN | apply keep_drew | apply keep_alloc | refine keep_far ?_ GW1455.out _ | refine keep_far ?_ GW1477.out _ | refine keep_far ?_ GW1498.out _) | exact HK.out))))
               have n3_ := zb BK1455 hb rfl
               have n4_ := zb BK1477 hb rfl
               have n5_ := Aside0.mk (IsS101.below (by repeat (first | (with_reducible first | exact HI0.out | apply IsS101.alloc | apply IsS101.drewN | apply IsS101.drew | apply IsS101.set_1 | refine IsS101.far ?_ NB0_1455.out _ | refine IsS101.far ?_ NB0_1477.out _ | refine IsS101.far ?_ NB0_1498.out _) | exact HI0.out)) hb)
               have n6_ := zb BK1498 hb rfl
               have n7_ := Aside0.mk (KeepBut.trans (by repeat (first | (with_reducible first | exact HK.out | apply KeepBut.set_ | apply keep_drewN | apply keep_drew | apply keep_alloc | refine keep_far ?_ GW1455.out _ | refine keep_far ?_ GW1477.out _ | refine keep_far ?_ GW1498.out _) | exact HK.out)) (KeepBut.of_below hb g none) (.inl rfl))
               have n8_ := Aside0.mk (below_step (by repeat (first | (with_reducible first | exact HB.out | apply below_alloc | apply pw_below_drewN | apply below_drew1 | refine below_set ?_ (IsS101.ge HI0.out) | refine below_set ?_ GE1455.out | refine below_set ?_ GE1477.out | refine below_set ?_ GE1498.out) | exact HB.out)) hb)
               clear HO_1478003
               clear HO_1478004
               clear BK1455
               clear BK1477
               clear HI0
               clear BK1498
               clear HK
               clear HB
               have HO_1478003 := n0_
               have HO_1478004 := n1_
               have HO1482 := n2_
               have BK1455 := n3_
               have BK1477 := n4_
               have HI0 := n5_
               have BK1498 := n6_
               have HK := n7_
               have HB := n8_
               clear n0_ n1_ n2_ n3_ n4_ n5_ n6_ n7_ n8_
               clear hb ho36
               refine hK.out _ _ ⟨(blk_cell BK1477.out 0).trans rfl, (blk_cell BK1477.out 1).trans rfl, (blk_cell BK1477.out 2).trans rfl, (blk_cell BK1477.out 3).trans rfl, (blk_cell BK1477.out 4).trans rfl⟩ (fun hHeld => ?_)
               clear hK K
               refine norm_ (a' := ?_) ?_ ?_
               rotate_left
               ·show Act.put _ (some 26) _ = _
                simp only [Act.put, List.setIfInBounds_toArray, List.set_cons_zero, List.set_cons_succ, i64_w, i32_w]
                rfl
               exact norm_ (by first | (simp only [putAll, Act.put, List.setIfInBounds_toArray, List.set_cons_zero, List.set_cons_succ]; done) | (simp only [putAll, Act.put, List.setIfInBounds_toArray, List.set_cons_zero, List.set_cons_succ]; rfl)) (hJ2_13 (_, gb1498) _ ⟨hHeld, (by (with_reducible repeat (first | apply Kd.R_alloc | apply Kd.R_drewN | apply Kd.R_drew)); exact Kd.R_mono HO1482.out (fun _ hk => hk.2)), (by (with_reducible repeat (first | apply Kd.R_alloc | apply Kd.R_drewN | apply Kd.R_drew)); exact Kd.R_mono HO_1478003.out (fun _ hk => hk.2)), (by (with_reducible repeat (first | apply Kd.R_alloc | apply Kd.R_drewN | apply Kd.R_drew)); exact HO_1478004.out), (by (with_reducible repeat first | apply bN | apply bD | apply bA); exact BK1455.out), (by (with_reducible repeat first | apply bN | apply bD | apply bA); exact BK1477.out), (by (with_reducible repeat first | apply bN | apply bD | apply bA); exact BK1498.out), GW1498.out, GE1498.out, NB0_1498.out, NB1498_0.out, NB1455_1498.out, NB1498_1455.out, NB1477_1498.out, NB1498_1477.out, (by repeat (first | (with_reducible first | exact HI0.out | apply IsS101.alloc | apply IsS101.drewN | apply IsS101.drew | apply IsS101.set_1 | refine IsS101.far ?_ NB0_1455.out _ | refine IsS101.far ?_ NB0_1477.out _ | refine IsS101.far ?_ NB0_1498.out _) | exact HI0.out)), (by repeat (first | (with_reducible first | exact HK.out | apply KeepBut.set_ | apply keep_drewN | apply keep_drew | apply keep_alloc | refine keep_far ?_ GW1455.out _ | refine keep_far ?_ GW1477.out _ | refine keep_far ?_ GW1498.out _) | exact HK.out)), (by repeat (first | (with_reducible first | exact HB.out | apply below_alloc | apply pw_below_drewN | apply below_drew1 | refine below_set ?_ (IsS101.ge HI0.out) | refine below_set ?_ GE1455.out | refine below_set ?_ GE1477.out | refine below_set ?_ GE1498.out) | exact HB.out))⟩)
             ·skip
              rintro v1481 w35 ⟨hS_, h0_, h1_, h2_, h3_, h4_, h5_, h6_, h7_⟩
              have n0_ : Aside0 (Kd.R (Kd.int .i64) 3 w35 w.heap.size (fun k_ => some k_ ≠ (.slice Ao30 x1478003_1.length co30 : Value).ownBlock) v1481 y1480) := ⟨h0_⟩
              have n1_ : Aside0 (Kd.R (Kd.int .i64) 3 w35 w.heap.size (fun k_ => some k_ ≠ (v1481 : Value).ownBlock) (.slice Ao30 x1478003_1.length co30) x1478003_1) := ⟨h1_⟩
              have n2_ : Aside0 (Kd.R Kd.string 9 w35 w.heap.size (fun _ => True) (.slice Ao31 x1478004_1.length co31) x1478004_1) := ⟨h2_⟩
              have n3_ : Aside0 (w35.heap[gb1455]? = some (.cells #[.int .i64 0, .int .i64 0, .int .i64 0, .slice none 0 0, .slice none 0 0] 60 (0, 0))) := ⟨h3_⟩
              have n4_ : Aside0 (w35.heap[gb1477]? = some (.cells #[.int .i64 x1478000_1, .int .i64 x1478001_1, .int .i64 x1478002_1, .slice Ao30 x1478003_1.length co30, .slice Ao31 x1478004_1.length co31] 60 (0, 0))) := ⟨h4_⟩
              have n5_ : Aside0 (IsS101 w0 w35 g s0_0 x1001_1) := ⟨h5_⟩
              have n6_ : Aside0 (KeepBut w w35 g none) := ⟨h6_⟩
              have n7_ : Aside0 (Below w0.heap.size w0 w35) := ⟨h7_⟩
              clear HO_1478003
              clear HO_1478004
              clear BK1455
              clear BK1477
              clear HI0
              clear HK
              clear HB
              clear h0_ h1_ h2_ h3_ h4_ h5_ h6_ h7_
              have HO1482 := n0_
              have HO_1478003 := n1_
              have HO_1478004 := n2_
              have BK1455 := n3_
              have BK1477 := n4_
              have HI0 := n5_
              have HK := n6_
              have HB := n7_
              clear n0_ n1_ n2_ n3_ n4_ n5_ n6_ n7_
              have hHeld : w35.cell? ⟨gb1477, 0, none⟩ = some (.int .i64 x1478000_1) ∧ w35.cell? ⟨gb1477, 1, none⟩ = some (.int .i64 x1478001_1) ∧ w35.cell? ⟨gb1477, 2, none⟩ = some (.int .i64 x1478002_1) ∧ w35.cell? ⟨gb1477, 3, none⟩ = some (.slice Ao30 x1478003_1.length co30) ∧ w35.cell? ⟨gb1477, 4, none⟩ = some (.slice Ao31 x1478004_1.length co31) := hS_
              obtain ⟨Ao36, co36, eo36⟩ := Kd.R_slice HO1482.out
              (first | subst eo36 | (injection eo36 with f1_ f2_ f3_; have f4_ := f1_.symm; have f5_ := f3_.symm; clear f1_ f2_ f3_; subst f4_; subst f5_))
              refine norm_ (a' := ?_) ?_ ?_
              rotate_left
              ·simp only [putAll, Act.put, List.setIfInBounds_toArray, List.set_cons_zero, List.set_cons_succ]
               rfl
              refine two_ (i := 3) (j := 13) (Ni := some 27) (Nj := some 5) #[true, true, true, true, true, false, true, true, false, false, false, false, false, false, false, false] #[true, true, true, false, true, false, true, true, false, false, false, false, false, true, false, false] rfl rfl rfl rfl (two_of HT_.out (by kernel_rfl)) (by decide) (by decide) (fun K hK => ?_) (fun K hK => ?_)
              ·skip
               refine goes_ Try.func64 (by kernel_rfl) rfl #[.pointer (some ⟨g, 0, none⟩), .slice Ao36 y1480.length co36] (by rfl) rfl rfl (by (try simp only [List.map_toArray, List.map_cons, List.map_nil]); first | done | rfl | (simp only [List.length_drop, List.length_take]; rfl)) ?_
               with_reducible refine (spec_l20Rd_one.calls k1 g s0_0 x1001_1 _ _ y1480 t1483 t1484 w0 _ ?side1 ?side2 ?side3 ?side4 ?side5 A26.out).mono ?_
               (case side1 => repeat (first | (with_reducible first | exact HI0.out | apply IsS101.alloc | apply IsS101.drewN | apply IsS101.drew | apply IsS101.set_1 | refine IsS101.far ?_ NB0_1455.out _ | refine IsS101.far ?_ NB0_1477.out _) | exact HI0.out))
               (case side2 => repeat (first | (with_reducible first | exact HB.out | apply below_alloc | apply pw_below_drewN | apply below_drew1 | refine below_set ?_ (IsS101.ge HI0.out) | refine below_set ?_ GE1455.out | refine below_set ?_ GE1477.out) | exact HB.out))
               (case side3 => repeat (first | exact (Kd.R_reads' HO1482.out).2.2 | (with_reducible refine Kd.C_alloc ?_ _) | (with_reducible refine Kd.C_drewN ?_ _) | (with_reducible refine Kd.C_drew ?_)))
               (case side4 => exact (Kd.R_reads' HO1482.out).2.1)
               (case side5 => exact far_slice (IsS101.own_ne HI0.out HO1482.out (by decide)))
               rintro e w37 ⟨rfl, hi, hb, hk⟩
               refine ⟨_, rfl, ?_⟩
               have n0_ := Aside0.mk (Kd.R_mono (Kd.R_keep (IsS101.apart (show IsS101 w0 _ g s0_0 x1001_1 from by repeat (first | (with_reducible first | exact HI0.out | apply IsS101.alloc | apply IsS101.drewN | apply IsS101.drew | apply IsS101.set_1 | refine IsS101.far ?_ NB0_1455.out _ | refine IsS101.far ?_ NB0_1477.out _) | exact HI0.out)) (by (with_reducible repeat (first | apply Kd.R_alloc | apply Kd.R_drewN | apply Kd.R_drew)); exact HO_1478003.out) (by decide)) hk (fun _ h => h.2)) (fun _ h => h.1))
               have n1_ := Aside0.mk (Kd.R_mono (Kd.R_keep (IsS101.apart (show IsS101 w0 _ g s0_0 x1001_1 from by repeat (first | (with_reducible first | exact HI0.out | apply IsS101.alloc | apply IsS101.drewN | apply IsS101.drew | apply IsS101.set_1 | refine IsS101.far ?_ NB0_1455.out _ | refine IsS101.far ?_ NB0_1477.out _) | exact HI0.out)) (by (with_reducible repeat (first | apply Kd.R_alloc | apply Kd.R_drewN | apply Kd.R_drew)); exact HO_1478004.out) (by decide)) hk (fun _ h => h.2)) (fun _ h => h.1))
               have n2_ := Aside0.mk (KeepBut.blk hk (g' := gb1455) (o := .cells #[.int .i64 0, .int .i64 0, .int .i64 0, .slice none 0 0, .slice none 0 0] 60 (0, 0)) (by (with_reducible repeat first | apply bN | apply bD | apply bA); exact BK1455.out) NB1455_0.out (by simp))
               have n3_ := Aside0.mk (KeepBut.blk hk (g' := gb1477) (o := .cells #[.int .i64 x1478000_1, .int .i64 x1478001_1, .int .i64 x1478002_1, .slice Ao30 x1478003_1.length co30, .slice Ao31 x1478004_1.length co31] 60 (0, 0)) (by (with_reducible repeat first | apply bN | apply bD | apply bA); exact BK1477.out) NB1477_0.out (by simp))
               have n4_ := Aside0.mk (Kd.R_mono (Kd.R_keep (IsS101.apart (show IsS101 w0 _ g s0_0 x1001_1 from by repeat (first | (with_reducible first | exact HI0.out | apply IsS101.alloc | apply IsS101.drewN | apply IsS101.drew | apply IsS101.set_1 | refine IsS101.far ?_ NB0_1455.out _ | refine IsS101.far ?_ NB0_1477.out _) | exact HI0.out)) (by (with_reducible repeat (first | apply Kd.R_alloc | apply Kd.R_drewN | apply Kd.R_drew)); exact HO1482.out) (by decide)) hk (fun _ h => h.2)) (fun _ h => h.1))
               have n5_ := Aside0.mk (KeepBut.trans (by repeat (first | (with_reducible first | exact HK.out | apply KeepBut.set_ | apply keep_drewN | apply keep_drew | apply keep_alloc | refine keep_far ?_ GW1455.out _ | refine keep_far ?_ GW1477.out _) | exact HK.out)) hk (.inl rfl))
               have n6_ := Aside0.mk (hb)
               have n7_ := Aside0.mk (hi)
               clear HO_1478003
               clear HO_1478004
               clear BK1455
               clear BK1477
               clear HO1482
               clear HK
               clear HB
               clear HI0
               have HO_1478003 := n0_
               have HO_1478004 := n1_
               have BK1455 := n2_
               have BK1477 := n3_
               have HO1482 := n4_
               have HK := n5_
               have HB := n6_
               have HI0 := n7_
               clear n0_ n1_ n2_ n3_ n4_ n5_ n6_ n7_
               (try clear hb)
               (try clear hb2)
               (try clear hk)
               (try clear hi)
               refine hK.out _ _ ⟨(blk_cell BK1477.out 0).trans rfl, (blk_cell BK1477.out 1).trans rfl, (blk_cell BK1477.out 2).trans rfl, (blk_cell BK1477.out 3).trans rfl, (blk_cell BK1477.out 4).trans rfl⟩ (fun hHeld => ?_)
               clear hK K
               refine norm_ (a' := ?_) ?_ ?_
               rotate_left
               ·show Act.put _ (some 27) _ = _
                simp only [Act.put, List.setIfInBounds_toArray, List.set_cons_zero, List.set_cons_succ, i64_w, i32_w]
                rfl
               exact norm_ (by first | (simp only [putAll, Act.put, List.setIfInBounds_toArray, List.set_cons_zero, List.set_cons_succ]; done) | (simp only [putAll, Act.put, List.setIfInBounds_toArray, List.set_cons_zero, List.set_cons_succ]; rfl)) (hJ2_3 (.slice Ao36 y1480.length co36) _ ⟨hHeld, (by (with_reducible repeat (first | apply Kd.R_alloc | apply Kd.R_drewN | apply Kd.R_drew)); exact HO1482.out), (by (with_reducible repeat (first | apply Kd.R_alloc | apply Kd.R_drewN | apply Kd.R_drew)); exact HO_1478003.out), (by (with_reducible repeat (first | apply Kd.R_alloc | apply Kd.R_drewN | apply Kd.R_drew)); exact HO_1478004.out), (by (with_reducible repeat first | apply bN | apply bD | apply bA); exact BK1455.out), (by (with_reducible repeat first | apply bN | apply bD | apply bA); exact BK1477.out), (by repeat (first | (with_reducible first | exact HI0.out | apply IsS101.alloc | apply IsS101.drewN | apply IsS101.drew | apply IsS101.set_1 | refine IsS101.far ?_ NB0_1455.out _ | refine IsS101.far ?_ NB0_1477.out _) | exact HI0.out)), (by repeat (first | (with_reducible first | exact HK.out | apply KeepBut.set_ | apply keep_drewN | apply keep_drew | apply keep_alloc | refine keep_far ?_ GW1455.out _ | refine keep_far ?_ GW1477.out _) | exact HK.out)), (by repeat (first | (with_reducible first | exact HB.out | apply below_alloc | apply pw_below_drewN | apply below_drew1 | refine below_set ?_ (IsS101.ge HI0.out) | refine below_set ?_ GE1455.out | refine below_set ?_ GE1477.out) | exact HB.out))⟩)
              ·skip
               refine box_step ?hg (N := 5) ?hd (cs := #[.int .i64 0, .int .i64 0, .int .i64 0, .slice none 0 0, .slice none 0 0]) (t := 60) ?hr ?_; (case hd => rfl); (case hg => rfl); (case hr => first | (go_simp; done) | (go_simp; rfl))
               intro gb1498 hg w36 hbox hb
               have n0_ := Aside0.mk (Kd.R_below (by (with_reducible repeat (first | apply Kd.R_alloc | apply Kd.R_drewN | apply Kd.R_drew)); exact HO_1478003.out) hb)
               have n1_ := Aside0.mk (Kd.R_below (by (with_reducible repeat (first | apply Kd.R_alloc | apply Kd.R_drewN | apply Kd.R_drew)); exact HO_1478004.out) hb)
               have n2_ := Aside0.mk (Kd.R_below (by (with_reducible repeat (first | apply Kd.R_alloc | apply Kd.R_drewN | apply Kd.R_drew)); exact HO1482.out) hb)
               have n3_ := zb BK1455 hb rfl
               have n4_ := zb BK1477 hb rfl
               have n5_ := Aside0.mk (IsS101.below (by repeat (first | (with_reducible first | exact HI0.out | apply IsS101.alloc | apply IsS101.drewN | apply IsS101.drew | apply IsS101.set_1 | refine IsS101.far ?_ NB0_1455.out _ | refine IsS101.far ?_ NB0_1477.out _) | exact HI0.out)) hb)
               have n6_ := Aside0.mk (KeepBut.trans (by repeat (first | (with_reducible first | exact HK.out | apply KeepBut.set_ | apply keep_drewN | apply keep_drew | apply keep_alloc | refine keep_far ?_ GW1455.out _ | refine keep_far ?_ GW1477.out _) | exact HK.out)) (KeepBut.of_below hb g none) (.inl rfl))
               have n7_ := Aside0.mk (below_step (by repeat (first | (with_reducible first | exact HB.out | apply below_alloc | apply pw_below_drewN | apply below_drew1 | refine below_set ?_ (IsS101.ge HI0.out) | refine below_set ?_ GE1455.out | refine below_set ?_ GE1477.out) | exact HB.out)) hb)
               have n8_ := Aside0.mk (hbox)
               have n9_ := Aside0.mk ((by rw [hg]; exact (keep_size (w := w) (g := g) (row := none) (by repeat (first | (with_reducible first | exact HK.out | apply KeepBut.set_ | apply keep_drewN | apply keep_drew | apply keep_alloc | refine keep_far ?_ GW1455.out _ | refine keep_far ?_ GW1477.out _) | exact HK.out))) : w.heap.size ≤ gb1498))
               have n10_ := Aside0.mk ((Nat.le_trans HW0.out (by rw [hg]; exact (keep_size (w := w) (g := g) (row := none) (by repeat (first | (with_reducible first | exact HK.out | apply KeepBut.set_ | apply keep_drewN | apply keep_drew | apply keep_alloc | refine keep_far ?_ GW1455.out _ | refine keep_far ?_ GW1477.out _) | exact HK.out))) : w.heap.size ≤ gb1498) : w0.heap.size ≤ gb1498))
               have n11_ := zl BK1455 hg rfl
               have n12_ := zg BK1455 hg rfl
               have n13_ := zl BK1477 hg rfl
               have n14_ := zg BK1477 hg rfl
               have n15_ := Aside0.mk ((by rw [hg]; exact Nat.ne_of_lt (IsS101.lt (show IsS101 w0 _ g s0_0 x1001_1 from by repeat (first | (with_reducible first | exact HI0.out | apply IsS101.alloc | apply IsS101.drewN | apply IsS101.drew | apply IsS101.set_1 | refine IsS101.far ?_ NB0_1455.out _ | refine IsS101.far ?_ NB0_1477.out _) | exact HI0.out))) : g ≠ gb1498))
               have n16_ := Aside0.mk ((by rw [hg]; exact Nat.ne_of_gt (IsS101.lt (show IsS101 w0 _ g s0_0 x1001_1 from by repeat (first | (with_reducible first | exact HI0.out | apply IsS101.alloc | apply IsS101.drewN | apply IsS101.drew | apply IsS101.set_1 | refine IsS101.far ?_ NB0_1455.out _ | refine IsS101.far ?_ NB0_1477.out _) | exact HI0.out))) : gb1498 ≠ g))
               clear HO_1478003
               clear HO_1478004
               clear HO1482
               clear BK1455
               clear BK1477
               clear HI0
               clear HK
               clear HB
               have HO_1478003 := n0_
               have HO_1478004 := n1_
               have HO1482 := n2_
               have BK1455 := n3_
               have BK1477 := n4_
               have HI0 := n5_
               have HK := n6_
               have HB := n7_
               have BK1498 := n8_
               have GW1498 := n9_
               have GE1498 := n10_
               have NB1455_1498 := n11_
               have NB1498_1455 := n12_
               have NB1477_1498 := n13_
               have NB1498_1477 := n14_
               have NB0_1498 := n15_
               have NB1498_0 := n16_
               clear n0_ n1_ n2_ n3_ n4_ n5_ n6_ n7_ n8_ n9_ n10_ n11_ n12_ n13_ n14_ n15_ n16_
               clear hb hbox hg
               refine hK.out _ _ ⟨(blk_cell BK1477.out 0).trans rfl, (blk_cell BK1477.out 1).trans rfl, (blk_cell BK1477.out 2).trans rfl, (blk_cell BK1477.out 3).trans rfl, (blk_cell BK1477.out 4).trans rfl⟩ (fun hHeld => ?_)
               clear hK K
               refine norm_ (a' := ?_) ?_ ?_
               rotate_left
               ·show Act.put _ (some 5) _ = _
                simp only [Act.put, List.setIfInBounds_toArray, List.set_cons_zero, List.set_cons_succ, i64_w, i32_w]
                rfl
               exact norm_ (by first | (simp only [putAll, Act.put, List.setIfInBounds_toArray, List.set_cons_zero, List.set_cons_succ]; done) | (simp only [putAll, Act.put, List.setIfInBounds_toArray, List.set_cons_zero, List.set_cons_succ]; rfl)) (hJ2_13 (_, gb1498) _ ⟨hHeld, (by (with_reducible repeat (first | apply Kd.R_alloc | apply Kd.R_drewN | apply Kd.R_drew)); exact HO1482.out), (by (with_reducible repeat (first | apply Kd.R_alloc | apply Kd.R_drewN | apply Kd.R_drew)); exact HO_1478003.out), (by (with_reducible repeat (first | apply Kd.R_alloc | apply Kd.R_drewN | apply Kd.R_drew)); exact HO_1478004.out), (by (with_reducible repeat first | apply bN | apply bD | apply bA); exact BK1455.out), (by (with_reducible repeat first | apply bN | apply bD | apply bA); exact BK1477.out), (by (with_reducible repeat first | apply bN | apply bD | apply bA); exact BK1498.out), GW1498.out, GE1498.out, NB0_1498.out, NB1498_0.out, NB1455_1498.out, NB1498_1455.out, NB1477_1498.out, NB1498_1477.out, (by repeat (first | (with_reducible first | exact HI0.out | apply IsS101.alloc | apply IsS101.drewN | apply IsS101.drew | apply IsS101.set_1 | refine IsS101.far ?_ NB0_1455.out _ | refine IsS101.far ?_ NB0_1477.out _ | refine IsS101.far ?_ NB0_1498.out _) | exact HI0.out)), (by repeat (first | (with_reducible first | exact HK.out | apply KeepBut.set_ | apply keep_drewN | apply keep_drew | apply keep_alloc | refine keep_far ?_ GW1455.out _ | refine keep_far ?_ GW1477.out _ | refine keep_far ?_ GW1498.out _) | exact HK.out)), (by repeat (first | (with_reducible first | exact HB.out | apply below_alloc | apply pw_below_drewN | apply below_drew1 | refine below_set ?_ (IsS101.ge HI0.out) | refine below_set ?_ GE1455.out | refine below_set ?_ GE1477.out | refine below_set ?_ GE1498.out) | exact HB.out))⟩)
            ·skip
             rintro ⟨v1481, gb1498⟩ w36 ⟨hS_, h0_, h1_, h2_, h3_, h4_, h5_, h6_, h7_, h8_, h9_, h10_, h11_, h12_, h13_, h14_, h15_, h16_⟩
             have n0_ : Aside0 (Kd.R (Kd.int .i64) 3 w36 w.heap.size (fun k_ => some k_ ≠ (.slice Ao30 x1478003_1.length co30 : Value).ownBlock) v1481 y1480) := ⟨h0_⟩
             have n1_ : Aside0 (Kd.R (Kd.int .i64) 3 w36 w.heap.size (fun k_ => some k_ ≠ (v1481 : Value).ownBlock) (.slice Ao30 x1478003_1.length co30) x1478003_1) := ⟨h1_⟩
             have n2_ : Aside0 (Kd.R Kd.string 9 w36 w.heap.size (fun _ => True) (.slice Ao31 x1478004_1.length co31) x1478004_1) := ⟨h2_⟩
             have n3_ : Aside0 (w36.heap[gb1455]? = some (.cells #[.int .i64 0, .int .i64 0, .int .i64 0, .slice none 0 0, .slice none 0 0] 60 (0, 0))) := ⟨h3_⟩
             have n4_ : Aside0 (w36.heap[gb1477]? = some (.cells #[.int .i64 x1478000_1, .int .i64 x1478001_1, .int .i64 x1478002_1, .slice Ao30 x1478003_1.length co30, .slice Ao31 x1478004_1.length co31] 60 (0, 0))) := ⟨h4_⟩
             have n5_ : Aside0 (w36.heap[gb1498]? = some (.cells #[.int .i64 0, .int .i64 0, .int .i64 0, .slice none 0 0, .slice none 0 0] 60 (0, 0))) := ⟨h5_⟩
             have n6_ : Aside0 (w.heap.size ≤ gb1498) := ⟨h6_⟩
             have n7_ : Aside0 (w0.heap.size ≤ gb1498) := ⟨h7_⟩
             have n8_ : Aside0 (g ≠ gb1498) := ⟨h8_⟩
             have n9_ : Aside0 (gb1498 ≠ g) := ⟨h9_⟩
             have n10_ : Aside0 (gb1455 ≠ gb1498) := ⟨h10_⟩
             have n11_ : Aside0 (gb1498 ≠ gb1455) := ⟨h11_⟩
             have n12_ : Aside0 (gb1477 ≠ gb1498) := ⟨h12_⟩
             have n13_ : Aside0 (gb1498 ≠ gb1477) := ⟨h13_⟩
             have n14_ : Aside0 (IsS101 w0 w36 g s0_0 x1001_1) := ⟨h14_⟩
             have n15_ : Aside0 (KeepBut w w36 g none) := ⟨h15_⟩
             have n16_ : Aside0 (Below w0.heap.size w0 w36) := ⟨h16_⟩
             clear HO_1478003
             clear HO_1478004
             clear BK1455
             clear BK1477
             clear HI0
             clear HK
             clear HB
             clear h0_ h1_ h2_ h3_ h4_ h5_ h6_ h7_ h8_ h9_ h10_ h11_ h12_ h13_ h14_ h15_ h16_
             have HO1482 := n0_
             have HO_1478003 := n1_
             have HO_1478004 := n2_
             have BK1455 := n3_
             have BK1477 := n4_
             have BK1498 := n5_
             have GW1498 := n6_
             have GE1498 := n7_
             have NB0_1498 := n8_
             have NB1498_0 := n9_
             have NB1455_1498 := n10_
             have NB1498_1455 := n11_
             have NB1477_1498 := n12_
             have NB1498_1477 := n13_
             have HI0 := n14_
             have HK := n15_
             have HB := n16_
             clear n0_ n1_ n2_ n3_ n4_ n5_ n6_ n7_ n8_ n9_ n10_ n11_ n12_ n13_ n14_ n15_ n16_
             have hHeld : w36.cell? ⟨gb1477, 0, none⟩ = some (.int .i64 x1478000_1) ∧ w36.cell? ⟨gb1477, 1, none⟩ = some (.int .i64 x1478001_1) ∧ w36.cell? ⟨gb1477, 2, none⟩ = some (.int .i64 x1478002_1) ∧ w36.cell? ⟨gb1477, 3, none⟩ = some (.slice Ao30 x1478003_1.length co30) ∧ w36.cell? ⟨gb1477, 4, none⟩ = some (.slice Ao31 x1478004_1.length co31) := hS_
             obtain ⟨Ao37, co37, eo37⟩ := Kd.R_slice HO1482.out
             (first | subst eo37 | (injection eo37 with f1_ f2_ f3_; have f4_ := f1_.symm; have f5_ := f3_.symm; clear f1_ f2_ f3_; subst f4_; subst f5_))
             refine norm_ (a' := ?_) ?_ ?_
             rotate_left
             ·simp only [putAll, Act.put, List.setIfInBounds_toArray, List.set_cons_zero, List.set_cons_succ]
              rfl
             refine one_ (i := 3) (N := some 27) #[true, true, true, true, true, false, true, true, false, false, false, false, false, true, false, false] rfl rfl (one_of HT_.out (by kernel_rfl)) (by decide) (fun K hK => ?_)
             refine goes_ Try.func64 (by kernel_rfl) rfl #[.pointer (some ⟨g, 0, none⟩), .slice Ao37 y1480.length co37] (by rfl) rfl rfl (by (try simp only [List.map_toArray, List.map_cons, List.map_nil]); first | done | rfl | (simp only [List.length_drop, List.length_take]; rfl)) ?_
             with_reducible refine (spec_l20Rd_one.calls k1 g s0_0 x1001_1 _ _ y1480 t1483 t1484 w0 _ ?side1 ?side2 ?side3 ?side4 ?side5 A26.out).mono ?_
             (case side1 => repeat (first | (with_reducible first | exact HI0.out | apply IsS101.alloc | apply IsS101.drewN | apply IsS101.drew | apply IsS101.set_1 | refine IsS101.far ?_ NB0_1455.out _ | refine IsS101.far ?_ NB0_1477.out _ | refine IsS101.far ?_ NB0_1498.out _) | exact HI0.out))
             (case side2 => repeat (first | (with_reducible first | exact HB.out | apply below_alloc | apply pw_below_drewN | apply below_drew1 | refine below_set ?_ (IsS101.ge HI0.out) | refine below_set ?_ GE1455.out | refine below_set ?_ GE1477.out | refine below_set ?_ GE1498.out) | exact HB.out))
             (case side3 => repeat (first | exact (Kd.R_reads' HO1482.out).2.2 | (with_reducible refine Kd.C_alloc ?_ _) | (with_reducible refine Kd.C_drewN ?_ _) | (with_reducible refine Kd.C_drew ?_)))
             (case side4 => exact (Kd.R_reads' HO1482.out).2.1)
             (case side5 => exact far_slice (IsS101.own_ne HI0.out HO1482.out (by decide)))
             rintro e w38 ⟨rfl, hi, hb, hk⟩
             refine ⟨_, rfl, ?_⟩
             have n0_ := Aside0.mk (Kd.R_mono (Kd.R_keep (IsS101.apart (show IsS101 w0 _ g s0_0 x1001_1 from by repeat (first | (with_reducible first | exact HI0.out | apply IsS101.alloc | apply IsS101.drewN | apply IsS101.drew | apply IsS101.set_1 | refine IsS101.far ?_ NB0_1455.out _ | refine IsS101.far ?_ NB0_1477.out _ | refine IsS101.far ?_ NB0_1498.out _) | exact HI0.out)) (by (with_reducible repeat (first | apply Kd.R_alloc | apply Kd.R_drewN | apply Kd.R_drew)); exact HO_1478003.out) (by decide)) hk (fun _ h => h.2)) (fun _ h => h.1))
             have n1_ := Aside0.mk (Kd.R_mono (Kd.R_keep (IsS101.apart (show IsS101 w0 _ g s0_0 x1001_1 from by repeat (first | (with_reducible first | exact HI0.out | apply IsS101.alloc | apply IsS101.drewN | apply IsS101.drew | apply IsS101.set_1 | refine IsS101.far ?_ NB0_1455.out _ | refine IsS101.far ?_ NB0_1477.out _ | refine IsS101.far ?_ NB0_1498.out _) | exact HI0.out)) (by (with_reducible repeat (first | apply Kd.R_alloc | apply Kd.R_drewN | apply Kd.R_drew)); exact HO_1478004.out) (by decide)) hk (fun _ h => h.2)) (fun _ h => h.1))
             have n2_ := Aside0.mk (KeepBut.blk hk (g' := gb1455) (o := .cells #[.int .i64 0, .int .i64 0, .int .i64 0, .slice none 0 0, .slice none 0 0] 60 (0, 0)) (by (with_reducible repeat first | apply bN | apply bD | apply bA); exact BK1455.out) NB1455_0.out (by simp))
             have n3_ := Aside0.mk (KeepBut.blk hk (g' := gb1477) (o := .cells #[.int .i64 x1478000_1, .int .i64 x1478001_1, .int .i64 x1478002_1, .slice Ao30 x1478003_1.length co30, .slice Ao31 x1478004_1.length co31] 60 (0, 0)) (by (with_reducible repeat first | apply bN | apply bD | apply bA); exact BK1477.out) NB1477_0.out (by simp))
             have n4_ := Aside0.mk (Kd.R_mono (Kd.R_keep (IsS101.apart (show IsS101 w0 _ g s0_0 x1001_1 from by repeat (first | (with_reducible first | exact HI0.out | apply IsS101.alloc | apply IsS101.drewN | apply IsS101.drew | apply IsS101.set_1 | refine IsS101.far ?_ NB0_1455.out _ | refine IsS101.far ?_ NB0_1477.out _ | refine IsS101.far ?_ NB0_1498.out _) | exact HI0.out)) (by (with_reducible repeat (first | apply Kd.R_alloc | apply Kd.R_drewN | apply Kd.R_drew)); exact HO1482.out) (by decide)) hk (fun _ h => h.2)) (fun _ h => h.1))
             have n5_ := Aside0.mk (KeepBut.blk hk (g' := gb1498) (o := .cells #[.int .i64 0, .int .i64 0, .int .i64 0, .slice none 0 0, .slice none 0 0] 60 (0, 0)) (by (with_reducible repeat first | apply bN | apply bD | apply bA); exact BK1498.out) NB1498_0.out (by simp))
             have n6_ := Aside0.mk (KeepBut.trans (by repeat (first | (with_reducible first | exact HK.out | apply KeepBut.set_ | apply keep_drewN | apply keep_drew | apply keep_alloc | refine keep_far ?_ GW1455.out _ | refine keep_far ?_ GW1477.out _ | refine keep_far ?_ GW1498.out _) | exact HK.out)) hk (.inl rfl))
             have n7_ := Aside0.mk (hb)
             have n8_ := Aside0.mk (hi)
             clear HO_1478003
             clear HO_1478004
             clear BK1455
             clear BK1477
             clear HO1482
             clear BK1498
             clear HK
             clear HB
             clear HI0
             have HO_1478003 := n0_
             have HO_1478004 := n1_
             have BK1455 := n2_
             have BK1477 := n3_
             have HO1482 := n4_
             have BK1498 := n5_
             have HK := n6_
             have HB := n7_
             have HI0 := n8_
             clear n0_ n1_ n2_ n3_ n4_ n5_ n6_ n7_ n8_
             (try clear hb)
             (try clear hb2)
             (try clear hk)
             (try clear hi)
             refine hK.out _ _ ⟨(blk_cell BK1477.out 0).trans rfl, (blk_cell BK1477.out 1).trans rfl, (blk_cell BK1477.out 2).trans rfl, (blk_cell BK1477.out 3).trans rfl, (blk_cell BK1477.out 4).trans rfl⟩ (fun hHeld => ?_)
             clear hK K
             refine norm_ (a' := ?_) ?_ ?_
             rotate_left
             ·show Act.put _ (some 27) _ = _
              simp only [Act.put, List.setIfInBounds_toArray, List.set_cons_zero, List.set_cons_succ, i64_w, i32_w]
              rfl
             exact norm_ (by first | (simp only [putAll, Act.put, List.setIfInBounds_toArray, List.set_cons_zero, List.set_cons_succ]; done) | (simp only [putAll, Act.put, List.setIfInBounds_toArray, List.set_cons_zero, List.set_cons_succ]; rfl)) (hJ2_3_13 (.slice Ao37 y1480.length co37, gb1498) _ ⟨hHeld, (by (with_reducible repeat (first | apply Kd.R_alloc | apply Kd.R_drewN | apply Kd.R_drew)); exact HO1482.out), (by (with_reducible repeat (first | apply Kd.R_alloc | apply Kd.R_drewN | apply Kd.R_drew)); exact HO_1478003.out), (by (with_reducible repeat (first | apply Kd.R_alloc | apply Kd.R_drewN | apply Kd.R_drew)); exact HO_1478004.out), (by (with_reducible repeat first | apply bN | apply bD | apply bA); exact BK1455.out), (by (with_reducible repeat first | apply bN | apply bD | apply bA); exact BK1477.out), (by (with_reducible repeat first | apply bN | apply bD | apply bA); exact BK1498.out), GW1498.out, GE1498.out, NB0_1498.out, NB1498_0.out, NB1455_1498.out, NB1498_1455.out, NB1477_1498.out, NB1498_1477.out, (by repeat (first | (with_reducible first | exact HI0.out | apply IsS101.alloc | apply IsS101.drewN | apply IsS101.drew | apply IsS101.set_1 | refine IsS101.far ?_ NB0_1455.out _ | refine IsS101.far ?_ NB0_1477.out _ | refine IsS101.far ?_ NB0_1498.out _) | exact HI0.out)), (by repeat (first | (with_reducible first | exact HK.out | apply KeepBut.set_ | apply keep_drewN | apply keep_drew | apply keep_alloc | refine keep_far ?_ GW1455.out _ | refine keep_far ?_ GW1477.out _ | refine keep_far ?_ GW1498.out _) | exact HK.out)), (by repeat (first | (with_reducible first | exact HB.out | apply below_alloc | apply pw_below_drewN | apply below_drew1 | refine below_set ?_ (IsS101.ge HI0.out) | refine below_set ?_ GE1455.out | refine below_set ?_ GE1477.out | refine below_set ?_ GE1498.out) | exact HB.out))⟩)
           ·skip
            rintro v1481 w37 ⟨hS_, h0_, h1_, h2_, h3_, h4_, h5_, h6_, h7_⟩
            have n0_ : Aside0 (Kd.R (Kd.int .i64) 3 w37 w.heap.size (fun k_ => some k_ ≠ (.slice Ao30 x1478003_1.length co30 : Value).ownBlock) v1481 y1480) := ⟨h0_⟩
            have n1_ : Aside0 (Kd.R (Kd.int .i64) 3 w37 w.heap.size (fun k_ => some k_ ≠ (v1481 : Value).ownBlock) (.slice Ao30 x1478003_1.length co30) x1478003_1) := ⟨h1_⟩
            have n2_ : Aside0 (Kd.R Kd.string 9 w37 w.heap.size (fun _ => True) (.slice Ao31 x1478004_1.length co31) x1478004_1) := ⟨h2_⟩
            have n3_ : Aside0 (w37.heap[gb1455]? = some (.cells #[.int .i64 0, .int .i64 0, .int .i64 0, .slice none 0 0, .slice none 0 0] 60 (0, 0))) := ⟨h3_⟩
            have n4_ : Aside0 (w37.heap[gb1477]? = some (.cells #[.int .i64 x1478000_1, .int .i64 x1478001_1, .int .i64 x1478002_1, .slice Ao30 x1478003_1.length co30, .slice Ao31 x1478004_1.length co31] 60 (0, 0))) := ⟨h4_⟩
            have n5_ : Aside0 (IsS101 w0 w37 g s0_0 t1484) := ⟨h5_⟩
            have n6_ : Aside0 (KeepBut w w37 g none) := ⟨h6_⟩
            have n7_ : Aside0 (Below w0.heap.size w0 w37) := ⟨h7_⟩
            clear HO_1478003
            clear HO_1478004
            clear BK1455
            clear BK1477
            clear HI0
            clear HK
            clear HB
            clear h0_ h1_ h2_ h3_ h4_ h5_ h6_ h7_
            have HO1482 := n0_
            have HO_1478003 := n1_
            have HO_1478004 := n2_
            have BK1455 := n3_
            have BK1477 := n4_
            have HI0 := n5_
            have HK := n6_
            have HB := n7_
            clear n0_ n1_ n2_ n3_ n4_ n5_ n6_ n7_
            have hHeld : w37.cell? ⟨gb1477, 0, none⟩ = some (.int .i64 x1478000_1) ∧ w37.cell? ⟨gb1477, 1, none⟩ = some (.int .i64 x1478001_1) ∧ w37.cell? ⟨gb1477, 2, none⟩ = some (.int .i64 x1478002_1) ∧ w37.cell? ⟨gb1477, 3, none⟩ = some (.slice Ao30 x1478003_1.length co30) ∧ w37.cell? ⟨gb1477, 4, none⟩ = some (.slice Ao31 x1478004_1.length co31) := hS_
            refine norm_ (a' := ?_) ?_ ?_
            rotate_left
            ·simp only [putAll, Act.put, List.setIfInBounds_toArray, List.set_cons_zero, List.set_cons_succ]
             rfl
            refine two_ (i := 5) (j := 13) (Ni := some 29) (Nj := some 5) #[true, true, true, true, true, true, true, true, false, false, false, false, false, false, false, false] #[true, true, true, true, true, false, true, true, false, false, false, false, false, true, false, false] rfl rfl rfl rfl (two_of HT_.out (by kernel_rfl)) (by decide) (by decide) (fun K hK => ?_) (fun K hK => ?_)
            ·skip
             refine goes_ Try.func61 (by kernel_rfl) rfl #[.pointer (some ⟨g, 0, none⟩)] (by rfl) rfl rfl (by (try simp only [List.map_toArray, List.map_cons, List.map_nil]); first | done | rfl | (simp only [List.length_drop, List.length_take]; rfl)) ?_
             with_reducible refine (spec_l20Number.calls k1 g s0_0 t1484 t1485 t1486 w0 _ ?side1 ?side2 A27.out).mono ?_
             (case side1 => repeat (first | (with_reducible first | exact HI0.out | apply IsS101.alloc | apply IsS101.drewN | apply IsS101.drew | apply IsS101.set_1 | refine IsS101.far ?_ NB0_1455.out _ | refine IsS101.far ?_ NB0_1477.out _) | exact HI0.out))
             (case side2 => repeat (first | (with_reducible first | exact HB.out | apply below_alloc | apply pw_below_drewN | apply below_drew1 | refine below_set ?_ (IsS101.ge HI0.out) | refine below_set ?_ GE1455.out | refine below_set ?_ GE1477.out) | exact HB.out))
             rintro e w38 ⟨rfl, hi, hb, hk⟩
             refine ⟨_, rfl, ?_⟩
             have n0_ := Aside0.mk (Kd.R_mono (Kd.R_keep (IsS101.apart (show IsS101 w0 _ g s0_0 t1484 from by repeat (first | (with_reducible first | exact HI0.out | apply IsS101.alloc | apply IsS101.drewN | apply IsS101.drew | apply IsS101.set_1 | refine IsS101.far ?_ NB0_1455.out _ | refine IsS101.far ?_ NB0_1477.out _) | exact HI0.out)) (by (with_reducible repeat (first | apply Kd.R_alloc | apply Kd.R_drewN | apply Kd.R_drew)); exact HO_1478003.out) (by decide)) hk (fun _ h => h.2)) (fun _ h => h.1))
             have n1_ := Aside0.mk (Kd.R_mono (Kd.R_keep (IsS101.apart (show IsS101 w0 _ g s0_0 t1484 from by repeat (first | (with_reducible first | exact HI0.out | apply IsS101.alloc | apply IsS101.drewN | apply IsS101.drew | apply IsS101.set_1 | refine IsS101.far ?_ NB0_1455.out _ | refine IsS101.far ?_ NB0_1477.out _) | exact HI0.out)) (by (with_reducible repeat (first | apply Kd.R_alloc | apply Kd.R_drewN | apply Kd.R_drew)); exact HO_1478004.out) (by decide)) hk (fun _ h => h.2)) (fun _ h => h.1))
             have n2_ := Aside0.mk (KeepBut.blk hk (g' := gb1455) (o := .cells #[.int .i64 0, .int .i64 0, .int .i64 0, .slice none 0 0, .slice none 0 0] 60 (0, 0)) (by (with_reducible repeat first | apply bN | apply bD | apply bA); exact BK1455.out) NB1455_0.out (by simp))
             have n3_ := Aside0.mk (KeepBut.blk hk (g' := gb1477) (o := .cells #[.int .i64 x1478000_1, .int .i64 x1478001_1, .int .i64 x1478002_1, .slice Ao30 x1478003_1.length co30, .slice Ao31 x1478004_1.length co31] 60 (0, 0)) (by (with_reducible repeat first | apply bN | apply bD | apply bA); exact BK1477.out) NB1477_0.out (by simp))
             have n4_ := Aside0.mk (Kd.R_mono (Kd.R_keep (IsS101.apart (show IsS101 w0 _ g s0_0 t1484 from by repeat (first | (with_reducible first | exact HI0.out | apply IsS101.alloc | apply IsS101.drewN | apply IsS101.drew | apply IsS101.set_1 | refine IsS101.far ?_ NB0_1455.out _ | refine IsS101.far ?_ NB0_1477.out _) | exact HI0.out)) (by (with_reducible repeat (first | apply Kd.R_alloc | apply Kd.R_drewN | apply Kd.R_drew)); exact HO1482.out) (by decide)) hk (fun _ h => h.2)) (fun _ h => h.1))
             have n5_ := Aside0.mk (KeepBut.trans (by repeat (first | (with_reducible first | exact HK.out | apply KeepBut.set_ | apply keep_drewN | apply keep_drew | apply keep_alloc | refine keep_far ?_ GW1455.out _ | refine keep_far ?_ GW1477.out _) | exact HK.out)) hk (.inl rfl))
             have n6_ := Aside0.mk (hb)
             have n7_ := Aside0.mk (hi)
             clear HO_1478003
             clear HO_1478004
             clear BK1455
             clear BK1477
             clear HO1482
             clear HK
             clear HB
             clear HI0
             have HO_1478003 := n0_
             have HO_1478004 := n1_
             have BK1455 := n2_
             have BK1477 := n3_
             have HO1482 := n4_
             have HK := n5_
             have HB := n6_
             have HI0 := n7_
             clear n0_ n1_ n2_ n3_ n4_ n5_ n6_ n7_
             (try clear hb)
             (try clear hb2)
             (try clear hk)
             (try clear hi)
             refine hK.out _ _ ⟨(blk_cell BK1477.out 0).trans rfl, (blk_cell BK1477.out 1).trans rfl, (blk_cell BK1477.out 2).trans rfl, (blk_cell BK1477.out 3).trans rfl, (blk_cell BK1477.out 4).trans rfl⟩ (fun hHeld => ?_)
             clear hK K
             refine norm_ (a' := ?_) ?_ ?_
             rotate_left
             ·show Act.put _ (some 29) _ = _
              simp only [Act.put, List.setIfInBounds_toArray, List.set_cons_zero, List.set_cons_succ, i64_w, i32_w]
              rfl
             exact norm_ (by first | (simp only [putAll, Act.put, List.setIfInBounds_toArray, List.set_cons_zero, List.set_cons_succ]; done) | (simp only [putAll, Act.put, List.setIfInBounds_toArray, List.set_cons_zero, List.set_cons_succ]; rfl)) (hJ2_3_5 (v1481) _ ⟨hHeld, (by (with_reducible repeat (first | apply Kd.R_alloc | apply Kd.R_drewN | apply Kd.R_drew)); exact HO1482.out), (by (with_reducible repeat (first | apply Kd.R_alloc | apply Kd.R_drewN | apply Kd.R_drew)); exact HO_1478003.out), (by (with_reducible repeat (first | apply Kd.R_alloc | apply Kd.R_drewN | apply Kd.R_drew)); exact HO_1478004.out), (by (with_reducible repeat first | apply bN | apply bD | apply bA); exact BK1455.out), (by (with_reducible repeat first | apply bN | apply bD | apply bA); exact BK1477.out), (by repeat (first | (with_reducible first | exact HI0.out | apply IsS101.alloc | apply IsS101.drewN | apply IsS101.drew | apply IsS101.set_1 | refine IsS101.far ?_ NB0_1455.out _ | refine IsS101.far ?_ NB0_1477.out _) | exact HI0.out)), (by repeat (first | (with_reducible first | exact HK.out | apply KeepBut.set_ | apply keep_drewN | apply keep_drew | apply keep_alloc | refine keep_far ?_ GW1455.out _ | refine keep_far ?_ GW1477.out _) | exact HK.out)), (by repeat (first | (with_reducible first | exact HB.out | apply below_alloc | apply pw_below_drewN | apply below_drew1 | refine below_set ?_ (IsS101.ge HI0.out) | refine below_set ?_ GE1455.out | refine below_set ?_ GE1477.out) | exact HB.out))⟩)
            ·skip
             refine box_step ?hg (N := 5) ?hd (cs := #[.int .i64 0, .int .i64 0, .int .i64 0, .slice none 0 0, .slice none 0 0]) (t := 60) ?hr ?_; (case hd => rfl); (case hg => rfl); (case hr => first | (go_simp; done) | (go_simp; rfl))
             intro gb1498 hg w38 hbox hb
             have n0_ := Aside0.mk (Kd.R_below (by (with_reducible repeat (first | apply Kd.R_alloc | apply Kd.R_drewN | apply Kd.R_drew)); exact HO_1478003.out) hb)
             have n1_ := Aside0.mk (Kd.R_below (by (with_reducible repeat (first | apply Kd.R_alloc | apply Kd.R_drewN | apply Kd.R_drew)); exact HO_1478004.out) hb)
             have n2_ := Aside0.mk (Kd.R_below (by (with_reducible repeat (first | apply Kd.R_alloc | apply Kd.R_drewN | apply Kd.R_drew)); exact HO1482.out) hb)
             have n3_ := zb BK1455 hb rfl
             have n4_ := zb BK1477 hb rfl
             have n5_ := Aside0.mk (IsS101.below (by repeat (first | (with_reducible first | exact HI0.out | apply IsS101.alloc | apply IsS101.drewN | apply IsS101.drew | apply IsS101.set_1 | refine IsS101.far ?_ NB0_1455.out _ | refine IsS101.far ?_ NB0_1477.out _) | exact HI0.out)) hb)
             have n6_ := Aside0.mk (KeepBut.trans (by repeat (first | (with_reducible first | exact HK.out | apply KeepBut.set_ | apply keep_drewN | apply keep_drew | apply keep_alloc | refine keep_far ?_ GW1455.out _ | refine keep_far ?_ GW1477.out _) | exact HK.out)) (KeepBut.of_below hb g none) (.inl rfl))
             have n7_ := Aside0.mk (below_step (by repeat (first | (with_reducible first | exact HB.out | apply below_alloc | apply pw_below_drewN | apply below_drew1 | refine below_set ?_ (IsS101.ge HI0.out) | refine below_set ?_ GE1455.out | refine below_set ?_ GE1477.out) | exact HB.out)) hb)
             have n8_ := Aside0.mk (hbox)
             have n9_ := Aside0.mk ((by rw [hg]; exact (keep_size (w := w) (g := g) (row := none) (by repeat (first | (with_reducible first | exact HK.out | apply KeepBut.set_ | apply keep_drewN | apply keep_drew | apply keep_alloc | refine keep_far ?_ GW1455.out _ | refine keep_far ?_ GW1477.out _) | exact HK.out))) : w.heap.size ≤ gb1498))
             have n10_ := Aside0.mk ((Nat.le_trans HW0.out (by rw [hg]; exact (keep_size (w := w) (g := g) (row := none) (by repeat (first | (with_reducible first | exact HK.out | apply KeepBut.set_ | apply keep_drewN | apply keep_drew | apply keep_alloc | refine keep_far ?_ GW1455.out _ | refine keep_far ?_ GW1477.out _) | exact HK.out))) : w.heap.size ≤ gb1498) : w0.heap.size ≤ gb1498))
             have n11_ := zl BK1455 hg rfl
             have n12_ := zg BK1455 hg rfl
             have n13_ := zl BK1477 hg rfl
             have n14_ := zg BK1477 hg rfl
             have n15_ := Aside0.mk ((by rw [hg]; exact Nat.ne_of_lt (IsS101.lt (show IsS101 w0 _ g s0_0 t1484 from by repeat (first | (with_reducible first | exact HI0.out | apply IsS101.alloc | apply IsS101.drewN | apply IsS101.drew | apply IsS101.set_1 | refine IsS101.far ?_ NB0_1455.out _ | refine IsS101.far ?_ NB0_1477.out _) | exact HI0.out))) : g ≠ gb1498))
             have n16_ := Aside0.mk ((by rw [hg]; exact Nat.ne_of_gt (IsS101.lt (show IsS101 w0 _ g s0_0 t1484 from by repeat (first | (with_reducible first | exact HI0.out | apply IsS101.alloc | apply IsS101.drewN | apply IsS101.drew | apply IsS101.set_1 | refine IsS101.far ?_ NB0_1455.out _ | refine IsS101.far ?_ NB0_1477.out _) | exact HI0.out))) : gb1498 ≠ g))
             clear HO_1478003
             clear HO_1478004
             clear HO1482
             clear BK1455
             clear BK1477
             clear HI0
             clear HK
             clear HB
             have HO_1478003 := n0_
             have HO_1478004 := n1_
             have HO1482 := n2_
             have BK1455 := n3_
             have BK1477 := n4_
             have HI0 := n5_
             have HK := n6_
             have HB := n7_
             have BK1498 := n8_
             have GW1498 := n9_
             have GE1498 := n10_
             have NB1455_1498 := n11_
             have NB1498_1455 := n12_
             have NB1477_1498 := n13_
             have NB1498_1477 := n14_
             have NB0_1498 := n15_
             have NB1498_0 := n16_
             clear n0_ n1_ n2_ n3_ n4_ n5_ n6_ n7_ n8_ n9_ n10_ n11_ n12_ n13_ n14_ n15_ n16_
             clear hb hbox hg
             refine hK.out _ _ ⟨(blk_cell BK1477.out 0).trans rfl, (blk_cell BK1477.out 1).trans rfl, (blk_cell BK1477.out 2).trans rfl, (blk_cell BK1477.out 3).trans rfl, (blk_cell BK1477.out 4).trans rfl⟩ (fun hHeld => ?_)
             clear hK K
             refine norm_ (a' := ?_) ?_ ?_
             rotate_left
             ·show Act.put _ (some 5) _ = _
              simp only [Act.put, List.setIfInBounds_toArray, List.set_cons_zero, List.set_cons_succ, i64_w, i32_w]
              rfl
             exact norm_ (by first | (simp only [putAll, Act.put, List.setIfInBounds_toArray, List.set_cons_zero, List.set_cons_succ]; done) | (simp only [putAll, Act.put, List.setIfInBounds_toArray, List.set_cons_zero, List.set_cons_succ]; rfl)) (hJ2_3_13 (_, gb1498) _ ⟨hHeld, (by (with_reducible repeat (first | apply Kd.R_alloc | apply Kd.R_drewN | apply Kd.R_drew)); exact HO1482.out), (by (with_reducible repeat (first | apply Kd.R_alloc | apply Kd.R_drewN | apply Kd.R_drew)); exact HO_1478003.out), (by (with_reducible repeat (first | apply Kd.R_alloc | apply Kd.R_drewN | apply Kd.R_drew)); exact HO_1478004.out), (by (with_reducible repeat first | apply bN | apply bD | apply bA); exact BK1455.out), (by (with_reducible repeat first | apply bN | apply bD | apply bA); exact BK1477.out), (by (with_reducible repeat first | apply bN | apply bD | apply bA); exact BK1498.out), GW1498.out, GE1498.out, NB0_1498.out, NB1498_0.out, NB1455_1498.out, NB1498_1455.out, NB1477_1498.out, NB1498_1477.out, (by repeat (first | (with_reducible first | exact HI0.out | apply IsS101.alloc | apply IsS101.drewN | apply IsS101.drew | apply IsS101.set_1 | refine IsS101.far ?_ NB0_1455.out _ | refine IsS101.far ?_ NB0_1477.out _ | refine IsS101.far ?_ NB0_1498.out _) | exact HI0.out)), (by repeat (first | (with_reducible first | exact HK.out | apply KeepBut.set_ | apply keep_drewN | apply keep_drew | apply keep_alloc | refine keep_far ?_ GW1455.out _ | refine keep_far ?_ GW1477.out _ | refine keep_far ?_ GW1498.out _) | exact HK.out)), (by repeat (first | (with_reducible first | exact HB.out | apply below_alloc | apply pw_below_drewN | apply below_drew1 | refine below_set ?_ (IsS101.ge HI0.out) | refine below_set ?_ GE1455.out | refine below_set ?_ GE1477.out | refine below_set ?_ GE1498.out) | exact HB.out))⟩)
          ·skip
           rintro ⟨v1481, gb1498⟩ w38 ⟨hS_, h0_, h1_, h2_, h3_, h4_, h5_, h6_, h7_, h8_, h9_, h10_, h11_, h12_, h13_, h14_, h15_, h16_⟩
           have n0_ : Aside0 (Kd.R (Kd.int .i64) 3 w38 w.heap.size (fun k_ => some k_ ≠ (.slice Ao30 x1478003_1.length co30 : Value).ownBlock) v1481 y1480) := ⟨h0_⟩
           have n1_ : Aside0 (Kd.R (Kd.int .i64) 3 w38 w.heap.size (fun k_ => some k_ ≠ (v1481 : Value).ownBlock) (.slice Ao30 x1478003_1.length co30) x1478003_1) := ⟨h1_⟩
           have n2_ : Aside0 (Kd.R Kd.string 9 w38 w.heap.size (fun _ => True) (.slice Ao31 x1478004_1.length co31) x1478004_1) := ⟨h2_⟩
           have n3_ : Aside0 (w38.heap[gb1455]? = some (.cells #[.int .i64 0, .int .i64 0, .int .i64 0, .slice none 0 0, .slice none 0 0] 60 (0, 0))) := ⟨h3_⟩
           have n4_ : Aside0 (w38.heap[gb1477]? = some (.cells #[.int .i64 x1478000_1, .int .i64 x1478001_1, .int .i64 x1478002_1, .slice Ao30 x1478003_1.length co30, .slice Ao31 x1478004_1.length co31] 60 (0, 0))) := ⟨h4_⟩
           have n5_ : Aside0 (w38.heap[gb1498]? = some (.cells #[.int .i64 0, .int .i64 0, .int .i64 0, .slice none 0 0, .slice none 0 0] 60 (0, 0))) := ⟨h5_⟩
           have n6_ : Aside0 (w.heap.size ≤ gb1498) := ⟨h6_⟩
           have n7_ : Aside0 (w0.heap.size ≤ gb1498) := ⟨h7_⟩
           have n8_ : Aside0 (g ≠ gb1498) := ⟨h8_⟩
           have n9_ : Aside0 (gb1498 ≠ g) := ⟨h9_⟩
           have n10_ : Aside0 (gb1455 ≠ gb1498) := ⟨h10_⟩
           have n11_ : Aside0 (gb1498 ≠ gb1455) := ⟨h11_⟩
           have n12_ : Aside0 (gb1477 ≠ gb1498) := ⟨h12_⟩
           have n13_ : Aside0 (gb1498 ≠ gb1477) := ⟨h13_⟩
           have n14_ : Aside0 (IsS101 w0 w38 g s0_0 t1484) := ⟨h14_⟩
           have n15_ : Aside0 (KeepBut w w38 g none) := ⟨h15_⟩
           have n16_ : Aside0 (Below w0.heap.size w0 w38) := ⟨h16_⟩
           clear HO_1478003
           clear HO_1478004
           clear BK1455
           clear BK1477
           clear HI0
           clear HK
           clear HB
           clear h0_ h1_ h2_ h3_ h4_ h5_ h6_ h7_ h8_ h9_ h10_ h11_ h12_ h13_ h14_ h15_ h16_
           have HO1482 := n0_
           have HO_1478003 := n1_
           have HO_1478004 := n2_
           have BK1455 := n3_
           have BK1477 := n4_
           have BK1498 := n5_
           have GW1498 := n6_
           have GE1498 := n7_
           have NB0_1498 := n8_
           have NB1498_0 := n9_
           have NB1455_1498 := n10_
           have NB1498_1455 := n11_
           have NB1477_1498 := n12_
           have NB1498_1477 := n13_
           have HI0 := n14_
           have HK := n15_
           have HB := n16_
           clear n0_ n1_ n2_ n3_ n4_ n5_ n6_ n7_ n8_ n9_ n10_ n11_ n12_ n13_ n14_ n15_ n16_
           have hHeld : w38.cell? ⟨gb1477, 0, none⟩ = some (.int .i64 x1478000_1) ∧ w38.cell? ⟨gb1477, 1, none⟩ = some (.int .i64 x1478001_1) ∧ w38.cell? ⟨gb1477, 2, none⟩ = some (.int .i64 x1478002_1) ∧ w38.cell? ⟨gb1477, 3, none⟩ = some (.slice Ao30 x1478003_1.length co30) ∧ w38.cell? ⟨gb1477, 4, none⟩ = some (.slice Ao31 x1478004_1.length co31) := hS_
           refine norm_ (a' := ?_) ?_ ?_
           rotate_left
           ·simp only [putAll, Act.put, List.setIfInBounds_toArray, List.set_cons_zero, List.set_cons_succ]
            rfl
           refine one_ (i := 5) (N := some 29) #[true, true, true, true, true, true, true, true, false, false, false, false, false, true, false, false] rfl rfl (one_of HT_.out (by kernel_rfl)) (by decide) (fun K hK => ?_)
           refine goes_ Try.func61 (by kernel_rfl) rfl #[.pointer (some ⟨g, 0, none⟩)] (by rfl) rfl rfl (by (try simp only [List.map_toArray, List.map_cons, List.map_nil]); first | done | rfl | (simp only [List.length_drop, List.length_take]; rfl)) ?_
           with_reducible refine (spec_l20Number.calls k1 g s0_0 t1484 t1485 t1486 w0 _ ?side1 ?side2 A27.out).mono ?_
           (case side1 => repeat (first | (with_reducible first | exact HI0.out | apply IsS101.alloc | apply IsS101.drewN | apply IsS101.drew | apply IsS101.set_1 | refine IsS101.far ?_ NB0_1455.out _ | refine IsS101.far ?_ NB0_1477.out _ | refine IsS101.far ?_ NB0_1498.out _) | exact HI0.out))
           (case side2 => repeat (first | (with_reducible first | exact HB.out | apply below_alloc | apply pw_below_drewN | apply below_drew1 | refine below_set ?_ (IsS101.ge HI0.out) | refine below_set ?_ GE1455.out | refine below_set ?_ GE1477.out | refine below_set ?_ GE1498.out) | exact HB.out))
           rintro e w39 ⟨rfl, hi, hb, hk⟩
           refine ⟨_, rfl, ?_⟩
           have n0_ := Aside0.mk (Kd.R_mono (Kd.R_keep (IsS101.apart (show IsS101 w0 _ g s0_0 t1484 from by repeat (first | (with_reducible first | exact HI0.out | apply IsS101.alloc | apply IsS101.drewN | apply IsS101.drew | apply IsS101.set_1 | refine IsS101.far ?_ NB0_1455.out _ | refine IsS101.far ?_ NB0_1477.out _ | refine IsS101.far ?_ NB0_1498.out _) | exact HI0.out)) (by (with_reducible repeat (first | apply Kd.R_alloc | apply Kd.R_drewN | apply Kd.R_drew)); exact HO_1478003.out) (by decide)) hk (fun _ h => h.2)) (fun _ h => h.1))
           have n1_ := Aside0.mk (Kd.R_mono (Kd.R_keep (IsS101.apart (show IsS101 w0 _ g s0_0 t1484 from by repeat (first | (with_reducible first | exact HI0.out | apply IsS101.alloc | apply IsS101.drewN | apply IsS101.drew | apply IsS101.set_1 | refine IsS101.far ?_ NB0_1455.out _ | refine IsS101.far ?_ NB0_1477.out _ | refine IsS101.far ?_ NB0_1498.out _) | exact HI0.out)) (by (with_reducible repeat (first | apply Kd.R_alloc | apply Kd.R_drewN | apply Kd.R_drew)); exact HO_1478004.out) (by decide)) hk (fun _ h => h.2)) (fun _ h => h.1))
           have n2_ := Aside0.mk (KeepBut.blk hk (g' := gb1455) (o := .cells #[.int .i64 0, .int .i64 0, .int .i64 0, .slice none 0 0, .slice none 0 0] 60 (0, 0)) (by (with_reducible repeat first | apply bN | apply bD | apply bA); exact BK1455.out) NB1455_0.out (by simp))
           have n3_ := Aside0.mk (KeepBut.blk hk (g' := gb1477) (o := .cells #[.int .i64 x1478000_1, .int .i64 x1478001_1, .int .i64 x1478002_1, .slice Ao30 x1478003_1.length co30, .slice Ao31 x1478004_1.length co31] 60 (0, 0)) (by (with_reducible repeat first | apply bN | apply bD | apply bA); exact BK1477.out) NB1477_0.out (by simp))
           have n4_ := Aside0.mk (Kd.R_mono (Kd.R_keep (IsS101.apart (show IsS101 w0 _ g s0_0 t1484 from by repeat (first | (with_reducible first | exact HI0.out | apply IsS101.alloc | apply IsS101.drewN | apply IsS101.drew | apply IsS101.set_1 | refine IsS101.far ?_ NB0_1455.out _ | refine IsS101.far ?_ NB0_1477.out _ | refine IsS101.far ?_ NB0_1498.out _) | exact HI0.out)) (by (with_reducible repeat (first | apply Kd.R_alloc | apply Kd.R_drewN | apply Kd.R_drew)); exact HO1482.out) (by decide)) hk (fun _ h => h.2)) (fun _ h => h.1))
           have n5_ := Aside0.mk (KeepBut.blk hk (g' := gb1498) (o := .cells #[.int .i64 0, .int .i64 0, .int .i64 0, .slice none 0 0, .slice none 0 0] 60 (0, 0)) (by (with_reducible repeat first | apply bN | apply bD | apply bA); exact BK1498.out) NB1498_0.out (by simp))
           have n6_ := Aside0.mk (KeepBut.trans (by repeat (first | (with_reducible first | exact HK.out | apply KeepBut.set_ | apply keep_drewN | apply keep_drew | apply keep_alloc | refine keep_far ?_ GW1455.out _ | refine keep_far ?_ GW1477.out _ | refine keep_far ?_ GW1498.out _) | exact HK.out)) hk (.inl rfl))
           have n7_ := Aside0.mk (hb)
           have n8_ := Aside0.mk (hi)
           clear HO_1478003
           clear HO_1478004
           clear BK1455
           clear BK1477
           clear HO1482
           clear BK1498
           clear HK
           clear HB
           clear HI0
           have HO_1478003 := n0_
           have HO_1478004 := n1_
           have BK1455 := n2_
           have BK1477 := n3_
           have HO1482 := n4_
           have BK1498 := n5_
           have HK := n6_
           have HB := n7_
           have HI0 := n8_
           clear n0_ n1_ n2_ n3_ n4_ n5_ n6_ n7_ n8_
           (try clear hb)
           (try clear hb2)
           (try clear hk)
           (try clear hi)
           refine hK.out _ _ ⟨(blk_cell BK1477.out 0).trans rfl, (blk_cell BK1477.out 1).trans rfl, (blk_cell BK1477.out 2).trans rfl, (blk_cell BK1477.out 3).trans rfl, (blk_cell BK1477.out 4).trans rfl⟩ (fun hHeld => ?_)
           clear hK K
           refine norm_ (a' := ?_) ?_ ?_
           rotate_left
           ·show Act.put _ (some 29) _ = _
            simp only [Act.put, List.setIfInBounds_toArray, List.set_cons_zero, List.set_cons_succ, i64_w, i32_w]
            rfl
           exact norm_ (by first | (simp only [putAll, Act.put, List.setIfInBounds_toArray, List.set_cons_zero, List.set_cons_succ]; done) | (simp only [putAll, Act.put, List.setIfInBounds_toArray, List.set_cons_zero, List.set_cons_succ]; rfl)) (hJ2_3_5_13 (_, gb1498) _ ⟨hHeld, (by (with_reducible repeat (first | apply Kd.R_alloc | apply Kd.R_drewN | apply Kd.R_drew)); exact HO1482.out), (by (with_reducible repeat (first | apply Kd.R_alloc | apply Kd.R_drewN | apply Kd.R_drew)); exact HO_1478003.out), (by (with_reducible repeat (first | apply Kd.R_alloc | apply Kd.R_drewN | apply Kd.R_drew)); exact HO_1478004.out), (by (with_reducible repeat first | apply bN | apply bD | apply bA); exact BK1455.out), (by (with_reducible repeat first | apply bN | apply bD | apply bA); exact BK1477.out), (by (with_reducible repeat first | apply bN | apply bD | apply bA); exact BK1498.out), GW1498.out, GE1498.out, NB0_1498.out, NB1498_0.out, NB1455_1498.out, NB1498_1455.out, NB1477_1498.out, NB1498_1477.out, (by repeat (first | (with_reducible first | exact HI0.out | apply IsS101.alloc | apply IsS101.drewN | apply IsS101.drew | apply IsS101.set_1 | refine IsS101.far ?_ NB0_1455.out _ | refine IsS101.far ?_ NB0_1477.out _ | refine IsS101.far ?_ NB0_1498.out _) | exact HI0.out)), (by repeat (first | (with_reducible first | exact HK.out | apply KeepBut.set_ | apply keep_drewN | apply keep_drew | apply keep_alloc | refine keep_far ?_ GW1455.out _ | refine keep_far ?_ GW1477.out _ | refine keep_far ?_ GW1498.out _) | exact HK.out)), (by repeat (first | (with_reducible first | exact HB.out | apply below_alloc | apply pw_below_drewN | apply below_drew1 | refine below_set ?_ (IsS101.ge HI0.out) | refine below_set ?_ GE1455.out | refine below_set ?_ GE1477.out | refine below_set ?_ GE1498.out) | exact HB.out))⟩)
         ·skip
          rintro v1481 w38 ⟨hS_, h0_, h1_, h2_, h3_, h4_, h5_, h6_, h7_⟩
          have n0_ : Aside0 (Kd.R (Kd.int .i64) 3 w38 w.heap.size (fun k_ => some k_ ≠ (.slice Ao30 x1478003_1.length co30 : Value).ownBlock) v1481 y1480) := ⟨h0_⟩
          have n1_ : Aside0 (Kd.R (Kd.int .i64) 3 w38 w.heap.size (fun k_ => some k_ ≠ (v1481 : Value).ownBlock) (.slice Ao30 x1478003_1.length co30) x1478003_1) := ⟨h1_⟩
          have n2_ : Aside0 (Kd.R Kd.string 9 w38 w.heap.size (fun _ => True) (.slice Ao31 x1478004_1.length co31) x1478004_1) := ⟨h2_⟩
          have n3_ : Aside0 (w38.heap[gb1455]? = some (.cells #[.int .i64 0, .int .i64 0, .int .i64 0, .slice none 0 0, .slice none 0 0] 60 (0, 0))) := ⟨h3_⟩
          have n4_ : Aside0 (w38.heap[gb1477]? = some (.cells #[.int .i64 x1478000_1, .int .i64 x1478001_1, .int .i64 x1478002_1, .slice Ao30 x1478003_1.length co30, .slice Ao31 x1478004_1.length co31] 60 (0, 0))) := ⟨h4_⟩
          have n5_ : Aside0 (IsS101 w0 w38 g s0_0 t1486) := ⟨h5_⟩
          have n6_ : Aside0 (KeepBut w w38 g none) := ⟨h6_⟩
          have n7_ : Aside0 (Below w0.heap.size w0 w38) := ⟨h7_⟩
          clear HO_1478003
          clear HO_1478004
          clear BK1455
          clear BK1477
          clear HI0
          clear HK
          clear HB
          clear h0_ h1_ h2_ h3_ h4_ h5_ h6_ h7_
          have HO1482 := n0_
          have HO_1478003 := n1_
          have HO_1478004 := n2_
          have BK1455 := n3_
          have BK1477 := n4_
          have HI0 := n5_
          have HK := n6_
          have HB := n7_
          clear n0_ n1_ n2_ n3_ n4_ n5_ n6_ n7_
          have hHeld : w38.cell? ⟨gb1477, 0, none⟩ = some (.int .i64 x1478000_1) ∧ w38.cell? ⟨gb1477, 1, none⟩ = some (.int .i64 x1478001_1) ∧ w38.cell? ⟨gb1477, 2, none⟩ = some (.int .i64 x1478002_1) ∧ w38.cell? ⟨gb1477, 3, none⟩ = some (.slice Ao30 x1478003_1.length co30) ∧ w38.cell? ⟨gb1477, 4, none⟩ = some (.slice Ao31 x1478004_1.length co31) := hS_
          refine norm_ (a' := ?_) ?_ ?_
          rotate_left
          ·simp only [putAll, Act.put, List.setIfInBounds_toArray, List.set_cons_zero, List.set_cons_succ]
           rfl
          refine two_ (i := 8) (j := 13) (Ni := some 32) (Nj := some 5) #[true, true, true, true, true, true, true, true, true, false, false, false, false, false, false, false] #[true, true, true, true, true, true, true, true, false, false, false, false, false, true, false, false] rfl rfl rfl rfl (two_of HT_.out (by kernel_rfl)) (by decide) (by decide) (fun K hK => ?_) (fun K hK => ?_)
          ·skip
           refine goes_ Try.func142 (by kernel_rfl) rfl #[.int .i64 t1485, .int .i64 x1478001_1] (by rfl) rfl rfl (by (try simp only [List.map_toArray, List.map_cons, List.map_nil]); first | done | rfl | (simp only [List.length_drop, List.length_take]; rfl)) ?_
           with_reducible refine (spec_l4Bytes.calls k1 t1485 x1478001_1 t1487 _ A28.out).mono ?_
           rintro e w39 ⟨rfl, hb⟩
           refine ⟨_, rfl, ?_⟩
           have n0_ := Aside0.mk (Kd.R_below (by (with_reducible repeat (first | apply Kd.R_alloc | apply Kd.R_drewN | apply Kd.R_drew)); exact HO_1478003.out) hb)
           have n1_ := Aside0.mk (Kd.R_below (by (with_reducible repeat (first | apply Kd.R_alloc | apply Kd.R_drewN | apply Kd.R_drew)); exact HO_1478004.out) hb)
           have n2_ := Aside0.mk (Kd.R_below (by (with_reducible repeat (first | apply Kd.R_alloc | apply Kd.R_drewN | apply Kd.R_drew)); exact HO1482.out) hb)
           have n3_ := zb BK1455 hb rfl
           have n4_ := zb BK1477 hb rfl
           have n5_ := Aside0.mk (IsS101.below (by repeat (first | (with_reducible first | exact HI0.out | apply IsS101.alloc | apply IsS101.drewN | apply IsS101.drew | apply IsS101.set_1 | refine IsS101.far ?_ NB0_1455.out _ | refine IsS101.far ?_ NB0_1477.out _) | exact HI0.out)) hb)
           have n6_ := Aside0.mk (KeepBut.trans (by repeat (first | (with_reducible first | exact HK.out | apply KeepBut.set_ | apply keep_drewN | apply keep_drew | apply keep_alloc | refine keep_far ?_ GW1455.out _ | refine keep_far ?_ GW1477.out _) | exact HK.out)) (KeepBut.of_below hb g none) (.inl rfl))
           have n7_ := Aside0.mk (below_step (by repeat (first | (with_reducible first | exact HB.out | apply below_alloc | apply pw_below_drewN | apply below_drew1 | refine below_set ?_ (IsS101.ge HI0.out) | refine below_set ?_ GE1455.out | refine below_set ?_ GE1477.out) | exact HB.out)) hb)
           clear HO_1478003
           clear HO_1478004
           clear HO1482
           clear BK1455
           clear BK1477
           clear HI0
           clear HK
           clear HB
           have HO_1478003 := n0_
           have HO_1478004 := n1_
           have HO1482 := n2_
           have BK1455 := n3_
           have BK1477 := n4_
           have HI0 := n5_
           have HK := n6_
           have HB := n7_
           clear n0_ n1_ n2_ n3_ n4_ n5_ n6_ n7_
           (try clear hb)
           (try clear hb2)
           (try clear hk)
           (try clear hi)
           refine hK.out _ _ ⟨(blk_cell BK1477.out 0).trans rfl, (blk_cell BK1477.out 1).trans rfl, (blk_cell BK1477.out 2).trans rfl, (blk_cell BK1477.out 3).trans rfl, (blk_cell BK1477.out 4).trans rfl⟩ (fun hHeld => ?_)
           clear hK K
           refine norm_ (a' := ?_) ?_ ?_
           rotate_left
           ·show Act.put _ (some 32) _ = _
            simp only [Act.put, List.setIfInBounds_toArray, List.set_cons_zero, List.set_cons_succ, i64_w, i32_w]
            rfl
           exact norm_ (by first | (simp only [putAll, Act.put, List.setIfInBounds_toArray, List.set_cons_zero, List.set_cons_succ]; done) | (simp only [putAll, Act.put, List.setIfInBounds_toArray, List.set_cons_zero, List.set_cons_succ]; rfl)) (hJ2_3_5_8 (v1481) _ ⟨hHeld, (by (with_reducible repeat (first | apply Kd.R_alloc | apply Kd.R_drewN | apply Kd.R_drew)); exact HO1482.out), (by (with_reducible repeat (first | apply Kd.R_alloc | apply Kd.R_drewN | apply Kd.R_drew)); exact HO_1478003.out), (by (with_reducible repeat (first | apply Kd.R_alloc | apply Kd.R_drewN | apply Kd.R_drew)); exact HO_1478004.out), (by (with_reducible repeat first | apply bN | apply bD | apply bA); exact BK1455.out), (by (with_reducible repeat first | apply bN | apply bD | apply bA); exact BK1477.out), (by repeat (first | (with_reducible first | exact HI0.out | apply IsS101.alloc | apply IsS101.drewN | apply IsS101.drew | apply IsS101.set_1 | refine IsS101.far ?_ NB0_1455.out _ | refine IsS101.far ?_ NB0_1477.out _) | exact HI0.out)), (by repeat (first | (with_reducible first | exact HK.out | apply KeepBut.set_ | apply keep_drewN | apply keep_drew | apply keep_alloc | refine keep_far ?_ GW1455.out _ | refine keep_far ?_ GW1477.out _) | exact HK.out)), (by repeat (first | (with_reducible first | exact HB.out | apply below_alloc | apply pw_below_drewN | apply below_drew1 | refine below_set ?_ (IsS101.ge HI0.out) | refine below_set ?_ GE1455.out | refine below_set ?_ GE1477.out) | exact HB.out))⟩)
          ·skip
           refine box_step ?hg (N := 5) ?hd (cs := #[.int .i64 0, .int .i64 0, .int .i64 0, .slice none 0 0, .slice none 0 0]) (t := 60) ?hr ?_; (case hd => rfl); (case hg => rfl); (case hr => first | (go_simp; done) | (go_simp; rfl))
           intro gb1498 hg w39 hbox hb
           have n0_ := Aside0.mk (Kd.R_below (by (with_reducible repeat (first | apply Kd.R_alloc | apply Kd.R_drewN | apply Kd.R_drew)); exact HO_1478003.out) hb)
           have n1_ := Aside0.mk (Kd.R_below (by (with_reducible repeat (first | apply Kd.R_alloc | apply Kd.R_drewN | apply Kd.R_drew)); exact HO_1478004.out) hb)
           have n2_ := Aside0.mk (Kd.R_below (by (with_reducible repeat (first | apply Kd.R_alloc | apply Kd.R_drewN | apply Kd.R_drew)); exact HO1482.out) hb)
           have n3_ := zb BK1455 hb rfl
           have n4_ := zb BK1477 hb rfl
           have n5_ := Aside0.mk (IsS101.below (by repeat (first | (with_reducible first | exact HI0.out | apply IsS101.alloc | apply IsS101.drewN | apply IsS101.drew | apply IsS101.set_1 | refine IsS101.far ?_ NB0_1455.out _ | refine IsS101.far ?_ NB0_1477.out _) | exact HI0.out)) hb)
           have n6_ := Aside0.mk (KeepBut.trans (by repeat (first | (with_reducible first | exact HK.out | apply KeepBut.set_ | apply keep_drewN | apply keep_drew | apply keep_alloc | refine keep_far ?_ GW1455.out _ | refine keep_far ?_ GW1477.out _) | exact HK.out)) (KeepBut.of_below hb g none) (.inl rfl))
           have n7_ := Aside0.mk (below_step (by repeat (first | (with_reducible first | exact HB.out | apply below_alloc | apply pw_below_drewN | apply below_drew1 | refine below_set ?_ (IsS101.ge HI0.out) | refine below_set ?_ GE1455.out | refine below_set ?_ GE1477.out) | exact HB.out)) hb)
           have n8_ := Aside0.mk (hbox)
           have n9_ := Aside0.mk ((by rw [hg]; exact (keep_size (w := w) (g := g) (row := none) (by repeat (first | (with_reducible first | exact HK.out | apply KeepBut.set_ | apply keep_drewN | apply keep_drew | apply keep_alloc | refine keep_far ?_ GW1455.out _ | refine keep_far ?_ GW1477.out _) | exact HK.out))) : w.heap.size ≤ gb1498))
           have n10_ := Aside0.mk ((Nat.le_trans HW0.out (by rw [hg]; exact (keep_size (w := w) (g := g) (row := none) (by repeat (first | (with_reducible first | exact HK.out | apply KeepBut.set_ | apply keep_drewN | apply keep_drew | apply keep_alloc | refine keep_far ?_ GW1455.out _ | refine keep_far ?_ GW1477.out _) | exact HK.out))) : w.heap.size ≤ gb1498) : w0.heap.size ≤ gb1498))
           have n11_ := zl BK1455 hg rfl
           have n12_ := zg BK1455 hg rfl
           have n13_ := zl BK1477 hg rfl
           have n14_ := zg BK1477 hg rfl
           have n15_ := Aside0.mk ((by rw [hg]; exact Nat.ne_of_lt (IsS101.lt (show IsS101 w0 _ g s0_0 t1486 from by repeat (first | (with_reducible first | exact HI0.out | apply IsS101.alloc | apply IsS101.drewN | apply IsS101.drew | apply IsS101.set_1 | refine IsS101.far ?_ NB0_1455.out _ | refine IsS101.far ?_ NB0_1477.out _) | exact HI0.out))) : g ≠ gb1498))
           have n16_ := Aside0.mk ((by rw [hg]; exact Nat.ne_of_gt (IsS101.lt (show IsS101 w0 _ g s0_0 t1486 from by repeat (first | (with_reducible first | exact HI0.out | apply IsS101.alloc | apply IsS101.drewN | apply IsS101.drew | apply IsS101.set_1 | refine IsS101.far ?_ NB0_1455.out _ | refine IsS101.far ?_ NB0_1477.out _) | exact HI0.out))) : gb1498 ≠ g))
           clear HO_1478003
           clear HO_1478004
           clear HO1482
           clear BK1455
           clear BK1477
           clear HI0
           clear HK
           clear HB
           have HO_1478003 := n0_
           have HO_1478004 := n1_
           have HO1482 := n2_
           have BK1455 := n3_
           have BK1477 := n4_
           have HI0 := n5_
           have HK := n6_
           have HB := n7_
           have BK1498 := n8_
           have GW1498 := n9_
           have GE1498 := n10_
           have NB1455_1498 := n11_
           have NB1498_1455 := n12_
           have NB1477_1498 := n13_
           have NB1498_1477 := n14_
           have NB0_1498 := n15_
           have NB1498_0 := n16_
           clear n0_ n1_ n2_ n3_ n4_ n5_ n6_ n7_ n8_ n9_ n10_ n11_ n12_ n13_ n14_ n15_ n16_
           clear hb hbox hg
           refine hK.out _ _ ⟨(blk_cell BK1477.out 0).trans rfl, (blk_cell BK1477.out 1).trans rfl, (blk_cell BK1477.out 2).trans rfl, (blk_cell BK1477.out 3).trans rfl, (blk_cell BK1477.out 4).trans rfl⟩ (fun hHeld => ?_)
           clear hK K
           refine norm_ (a' := ?_) ?_ ?_
           rotate_left
           ·show Act.put _ (some 5) _ = _
            simp only [Act.put, List.setIfInBounds_toArray, List.set_cons_zero, List.set_cons_succ, i64_w, i32_w]
            rfl
           exact norm_ (by first | (simp only [putAll, Act.put, List.setIfInBounds_toArray, List.set_cons_zero, List.set_cons_succ]; done) | (simp only [putAll, Act.put, List.setIfInBounds_toArray, List.set_cons_zero, List.set_cons_succ]; rfl)) (hJ2_3_5_13 (_, gb1498) _ ⟨hHeld, (by (with_reducible repeat (first | apply Kd.R_alloc | apply Kd.R_drewN | apply Kd.R_drew)); exact HO1482.out), (by (with_reducible repeat (first | apply Kd.R_alloc | apply Kd.R_drewN | apply Kd.R_drew)); exact HO_1478003.out), (by (with_reducible repeat (first | apply Kd.R_alloc | apply Kd.R_drewN | apply Kd.R_drew)); exact HO_1478004.out), (by (with_reducible repeat first | apply bN | apply bD | apply bA); exact BK1455.out), (by (with_reducible repeat first | apply bN | apply bD | apply bA); exact BK1477.out), (by (with_reducible repeat first | apply bN | apply bD | apply bA); exact BK1498.out), GW1498.out, GE1498.out, NB0_1498.out, NB1498_0.out, NB1455_1498.out, NB1498_1455.out, NB1477_1498.out, NB1498_1477.out, (by repeat (first | (with_reducible first | exact HI0.out | apply IsS101.alloc | apply IsS101.drewN | apply IsS101.drew | apply IsS101.set_1 | refine IsS101.far ?_ NB0_1455.out _ | refine IsS101.far ?_ NB0_1477.out _ | refine IsS101.far ?_ NB0_1498.out _) | exact HI0.out)), (by repeat (first | (with_reducible first | exact HK.out | apply KeepBut.set_ | apply keep_drewN | apply keep_drew | apply keep_alloc | refine keep_far ?_ GW1455.out _ | refine keep_far ?_ GW1477.out _ | refine keep_far ?_ GW1498.out _) | exact HK.out)), (by repeat (first | (with_reducible first | exact HB.out | apply below_alloc | apply pw_below_drewN | apply below_drew1 | refine below_set ?_ (IsS101.ge HI0.out) | refine below_set ?_ GE1455.out | refine below_set ?_ GE1477.out | refine below_set ?_ GE1498.out) | exact HB.out))⟩)
        ·skip
         rintro ⟨v1481, gb1498⟩ w39 ⟨hS_, h0_, h1_, h2_, h3_, h4_, h5_, h6_, h7_, h8_, h9_, h10_, h11_, h12_, h13_, h14_, h15_, h16_⟩
         have n0_ : Aside0 (Kd.R (Kd.int .i64) 3 w39 w.heap.size (fun k_ => some k_ ≠ (.slice Ao30 x1478003_1.length co30 : Value).ownBlock) v1481 y1480) := ⟨h0_⟩
         have n1_ : Aside0 (Kd.R (Kd.int .i64) 3 w39 w.heap.size (fun k_ => some k_ ≠ (v1481 : Value).ownBlock) (.slice Ao30 x1478003_1.length co30) x1478003_1) := ⟨h1_⟩
         have n2_ : Aside0 (Kd.R Kd.string 9 w39 w.heap.size (fun _ => True) (.slice Ao31 x1478004_1.length co31) x1478004_1) := ⟨h2_⟩
         have n3_ : Aside0 (w39.heap[gb1455]? = some (.cells #[.int .i64 0, .int .i64 0, .int .i64 0, .slice none 0 0, .slice none 0 0] 60 (0, 0))) := ⟨h3_⟩
         have n4_ : Aside0 (w39.heap[gb1477]? = some (.cells #[.int .i64 x1478000_1, .int .i64 x1478001_1, .int .i64 x1478002_1, .slice Ao30 x1478003_1.length co30, .slice Ao31 x1478004_1.length co31] 60 (0, 0))) := ⟨h4_⟩
         have n5_ : Aside0 (w39.heap[gb1498]? = some (.cells #[.int .i64 0, .int .i64 0, .int .i64 0, .slice none 0 0, .slice none 0 0] 60 (0, 0))) := ⟨h5_⟩
         have n6_ : Aside0 (w.heap.size ≤ gb1498) := ⟨h6_⟩
         have n7_ : Aside0 (w0.heap.size ≤ gb1498) := ⟨h7_⟩
         have n8_ : Aside0 (g ≠ gb1498) := ⟨h8_⟩
         have n9_ : Aside0 (gb1498 ≠ g) := ⟨h9_⟩
         have n10_ : Aside0 (gb1455 ≠ gb1498) := ⟨h10_⟩
         have n11_ : Aside0 (gb1498 ≠ gb1455) := ⟨h11_⟩
         have n12_ : Aside0 (gb1477 ≠ gb1498) := ⟨h12_⟩
         have n13_ : Aside0 (gb1498 ≠ gb1477) := ⟨h13_⟩
         have n14_ : Aside0 (IsS101 w0 w39 g s0_0 t1486) := ⟨h14_⟩
         have n15_ : Aside0 (KeepBut w w39 g none) := ⟨h15_⟩
         have n16_ : Aside0 (Below w0.heap.size w0 w39) := ⟨h16_⟩
         clear HO_1478003
         clear HO_1478004
         clear BK1455
         clear BK1477
         clear HI0
         clear HK
         clear HB
         clear h0_ h1_ h2_ h3_ h4_ h5_ h6_ h7_ h8_ h9_ h10_ h11_ h12_ h13_ h14_ h15_ h16_
         have HO1482 := n0_
         have HO_1478003 := n1_
         have HO_1478004 := n2_
         have BK1455 := n3_
         have BK1477 := n4_
         have BK1498 := n5_
         have GW1498 := n6_
         have GE1498 := n7_
         have NB0_1498 := n8_
         have NB1498_0 := n9_
         have NB1455_1498 := n10_
         have NB1498_1455 := n11_
         have NB1477_1498 := n12_
         have NB1498_1477 := n13_
         have HI0 := n14_
         have HK := n15_
         have HB := n16_
         clear n0_ n1_ n2_ n3_ n4_ n5_ n6_ n7_ n8_ n9_ n10_ n11_ n12_ n13_ n14_ n15_ n16_
         have hHeld : w39.cell? ⟨gb1477, 0, none⟩ = some (.int .i64 x1478000_1) ∧ w39.cell? ⟨gb1477, 1, none⟩ = some (.int .i64 x1478001_1) ∧ w39.cell? ⟨gb1477, 2, none⟩ = some (.int .i64 x1478002_1) ∧ w39.cell? ⟨gb1477, 3, none⟩ = some (.slice Ao30 x1478003_1.length co30) ∧ w39.cell? ⟨gb1477, 4, none⟩ = some (.slice Ao31 x1478004_1.length co31) := hS_
         refine norm_ (a' := ?_) ?_ ?_
         rotate_left
         ·simp only [putAll, Act.put, List.setIfInBounds_toArray, List.set_cons_zero, List.set_cons_succ]
          rfl
         refine one_ (i := 8) (N := some 32) #[true, true, true, true, true, true, true, true, true, false, false, false, false, true, false, false] rfl rfl (one_of HT_.out (by kernel_rfl)) (by decide) (fun K hK => ?_)
         refine goes_ Try.func142 (by kernel_rfl) rfl #[.int .i64 t1485, .int .i64 x1478001_1] (by rfl) rfl rfl (by (try simp only [List.map_toArray, List.map_cons, List.map_nil]); first | done | rfl | (simp only [List.length_drop, List.length_take]; rfl)) ?_
         with_reducible refine (spec_l4Bytes.calls k1 t1485 x1478001_1 t1487 _ A28.out).mono ?_
         rintro e w40 ⟨rfl, hb⟩
         refine ⟨_, rfl, ?_⟩
         have n0_ := Aside0.mk (Kd.R_below (by (with_reducible repeat (first | apply Kd.R_alloc | apply Kd.R_drewN | apply Kd.R_drew)); exact HO_1478003.out) hb)
         have n1_ := Aside0.mk (Kd.R_below (by (with_reducible repeat (first | apply Kd.R_alloc | apply Kd.R_drewN | apply Kd.R_drew)); exact HO_1478004.out) hb)
         have n2_ := Aside0.mk (Kd.R_below (by (with_reducible repeat (first | apply Kd.R_alloc | apply Kd.R_drewN | apply Kd.R_drew)); exact HO1482.out) hb)
         have n3_ := zb BK1455 hb rfl
         have n4_ := zb BK1477 hb rfl
         have n5_ := Aside0.mk (IsS101.below (by repeat (first | (with_reducible first | exact HI0.out | apply IsS101.alloc | apply IsS101.drewN | apply IsS101.drew | apply IsS101.set_1 | refine IsS101.far ?_ NB0_1455.out _ | refine IsS101.far ?_ NB0_1477.out _ | refine IsS101.far ?_ NB0_1498.out _) | exact HI0.out)) hb)
         have n6_ := zb BK1498 hb rfl
         have n7_ := Aside0.mk (KeepBut.trans (by repeat (first | (with_reducible first | exact HK.out | apply KeepBut.set_ | apply keep_drewN | apply keep_drew | apply keep_alloc | refine keep_far ?_ GW1455.out _ | refine keep_far ?_ GW1477.out _ | refine keep_far ?_ GW1498.out _) | exact HK.out)) (KeepBut.of_below hb g none) (.inl rfl))
         have n8_ := Aside0.mk (below_step (by repeat (first | (with_reducible first | exact HB.out | apply below_alloc | apply pw_below_drewN | apply below_drew1 | refine below_set ?_ (IsS101.ge HI0.out) | refine below_set ?_ GE1455.out | refine below_set ?_ GE1477.out | refine below_set ?_ GE1498.out) | exact HB.out)) hb)
         clear HO_1478003
         clear HO_1478004
         clear HO1482
         clear BK1455
         clear BK1477
         clear HI0
         clear BK1498
         clear HK
         clear HB
         have HO_1478003 := n0_
         have HO_1478004 := n1_
         have HO1482 := n2_
         have BK1455 := n3_
         have BK1477 := n4_
         have HI0 := n5_
         have BK1498 := n6_
         have HK := n7_
         have HB := n8_
         clear n0_ n1_ n2_ n3_ n4_ n5_ n6_ n7_ n8_
         (try clear hb)
         (try clear hb2)
         (try clear hk)
         (try clear hi)
         refine hK.out _ _ ⟨(blk_cell BK1477.out 0).trans rfl, (blk_cell BK1477.out 1).trans rfl, (blk_cell BK1477.out 2).trans rfl, (blk_cell BK1477.out 3).trans rfl, (blk_cell BK1477.out 4).trans rfl⟩ (fun hHeld => ?_)
         clear hK K
         refine norm_ (a' := ?_) ?_ ?_
         rotate_left
         ·show Act.put _ (some 32) _ = _
          simp only [Act.put, List.setIfInBounds_toArray, List.set_cons_zero, List.set_cons_succ, i64_w, i32_w]
          rfl
         exact norm_ (by first | (simp only [putAll, Act.put, List.setIfInBounds_toArray, List.set_cons_zero, List.set_cons_succ]; done) | (simp only [putAll, Act.put, List.setIfInBounds_toArray, List.set_cons_zero, List.set_cons_succ]; rfl)) (hJ2_3_5_8_13 (_, gb1498) _ ⟨hHeld, (by (with_reducible repeat (first | apply Kd.R_alloc | apply Kd.R_drewN | apply Kd.R_drew)); exact HO1482.out), (by (with_reducible repeat (first | apply Kd.R_alloc | apply Kd.R_drewN | apply Kd.R_drew)); exact HO_1478003.out), (by (with_reducible repeat (first | apply Kd.R_alloc | apply Kd.R_drewN | apply Kd.R_drew)); exact HO_1478004.out), (by (with_reducible repeat first | apply bN | apply bD | apply bA); exact BK1455.out), (by (with_reducible repeat first | apply bN | apply bD | apply bA); exact BK1477.out), (by (with_reducible repeat first | apply bN | apply bD | apply bA); exact BK1498.out), GW1498.out, GE1498.out, NB0_1498.out, NB1498_0.out, NB1455_1498.out, NB1498_1455.out, NB1477_1498.out, NB1498_1477.out, (by repeat (first | (with_reducible first | exact HI0.out | apply IsS101.alloc | apply IsS101.drewN | apply IsS101.drew | apply IsS101.set_1 | refine IsS101.far ?_ NB0_1455.out _ | refine IsS101.far ?_ NB0_1477.out _ | refine IsS101.far ?_ NB0_1498.out _) | exact HI0.out)), (by repeat (first | (with_reducible first | exact HK.out | apply KeepBut.set_ | apply keep_drewN | apply keep_drew | apply keep_alloc | refine keep_far ?_ GW1455.out _ | refine keep_far ?_ GW1477.out _ | refine keep_far ?_ GW1498.out _) | exact HK.out)), (by repeat (first | (with_reducible first | exact HB.out | apply below_alloc | apply pw_below_drewN | apply below_drew1 | refine below_set ?_ (IsS101.ge HI0.out) | refine below_set ?_ GE1455.out | refine below_set ?_ GE1477.out | refine below_set ?_ GE1498.out) | exact HB.out))⟩)
       ·skip
        rintro v1481 w39 ⟨hS_, h0_, h1_, h2_, h3_, h4_, h5_, h6_, h7_⟩
        have n0_ : Aside0 (Kd.R (Kd.int .i64) 3 w39 w.heap.size (fun k_ => some k_ ≠ (.slice Ao30 x1478003_1.length co30 : Value).ownBlock) v1481 y1480) := ⟨h0_⟩
        have n1_ : Aside0 (Kd.R (Kd.int .i64) 3 w39 w.heap.size (fun k_ => some k_ ≠ (v1481 : Value).ownBlock) (.slice Ao30 x1478003_1.length co30) x1478003_1) := ⟨h1_⟩
        have n2_ : Aside0 (Kd.R Kd.string 9 w39 w.heap.size (fun _ => True) (.slice Ao31 x1478004_1.length co31) x1478004_1) := ⟨h2_⟩
        have n3_ : Aside0 (w39.heap[gb1455]? = some (.cells #[.int .i64 0, .int .i64 0, .int .i64 0, .slice none 0 0, .slice none 0 0] 60 (0, 0))) := ⟨h3_⟩
        have n4_ : Aside0 (w39.heap[gb1477]? = some (.cells #[.int .i64 x1478000_1, .int .i64 x1478001_1, .int .i64 x1478002_1, .slice Ao30 x1478003_1.length co30, .slice Ao31 x1478004_1.length co31] 60 (0, 0))) := ⟨h4_⟩
        have n5_ : Aside0 (IsS101 w0 w39 g s0_0 t1486) := ⟨h5_⟩
        have n6_ : Aside0 (KeepBut w w39 g none) := ⟨h6_⟩
        have n7_ : Aside0 (Below w0.heap.size w0 w39) := ⟨h7_⟩
        clear HO_1478003
        clear HO_1478004
        clear BK1455
        clear BK1477
        clear HI0
        clear HK
        clear HB
        clear h0_ h1_ h2_ h3_ h4_ h5_ h6_ h7_
        have HO1482 := n0_
        have HO_1478003 := n1_
        have HO_1478004 := n2_
        have BK1455 := n3_
        have BK1477 := n4_
        have HI0 := n5_
        have HK := n6_
        have HB := n7_
        clear n0_ n1_ n2_ n3_ n4_ n5_ n6_ n7_
        have hHeld : w39.cell? ⟨gb1477, 0, none⟩ = some (.int .i64 x1478000_1) ∧ w39.cell? ⟨gb1477, 1, none⟩ = some (.int .i64 x1478001_1) ∧ w39.cell? ⟨gb1477, 2, none⟩ = some (.int .i64 x1478002_1) ∧ w39.cell? ⟨gb1477, 3, none⟩ = some (.slice Ao30 x1478003_1.length co30) ∧ w39.cell? ⟨gb1477, 4, none⟩ = some (.slice Ao31 x1478004_1.length co31) := hS_
        refine norm_ (a' := ?_) ?_ ?_
        rotate_left
        ·simp only [putAll, Act.put, List.setIfInBounds_toArray, List.set_cons_zero, List.set_cons_succ]
         rfl
        refine two_ (i := 9) (j := 13) (Ni := some 33) (Nj := some 5) #[true, true, true, true, true, true, true, true, true, true, false, false, false, false, false, false] #[true, true, true, true, true, true, true, true, true, false, false, false, false, true, false, false] rfl rfl rfl rfl (two_of HT_.out (by kernel_rfl)) (by decide) (by decide) (fun K hK => ?_) (fun K hK => ?_)
        ·skip
         refine goes_ Try.func141 (by kernel_rfl) rfl #[.agg #[.int .i64 x1478000_1, .int .i64 x1478001_1, .int .i64 x1478002_1, .slice Ao30 x1478003_1.length co30, .slice Ao31 x1478004_1.length co31], .int .i64 t1483, .string t1487] (by rfl) rfl rfl (by (try simp only [List.map_toArray, List.map_cons, List.map_nil]); first | done | rfl | (simp only [List.length_drop, List.length_take]; rfl)) ?_
         with_reducible refine (spec_TablePut.calls k1 x1478000_1 x1478001_1 x1478002_1 _ _ x1478003_1 _ _ x1478004_1 t1483 t1487 t1488 t1489 t1490 t1491 t1494 t1497 _ ?side1 ?side2 ?side3 ?side4 A29.out).mono ?_
         (case side1 => repeat (first | exact (Kd.R_reads' HO_1478003.out).2.2 | (with_reducible refine Kd.C_alloc ?_ _) | (with_reducible refine Kd.C_drewN ?_ _) | (with_reducible refine Kd.C_drew ?_)))
         (case side2 => exact (Kd.R_reads' HO_1478003.out).2.1)
         (case side3 => repeat (first | exact (Kd.R_reads' HO_1478004.out).2.2 | (with_reducible refine Kd.C_alloc ?_ _) | (with_reducible refine Kd.C_drewN ?_ _) | (with_reducible refine Kd.C_drew ?_)))
         (case side4 => exact (Kd.R_reads' HO_1478004.out).2.1)
         rintro e w40 ⟨v1492, v1495, rfl, ho0, ho1, hb⟩
         refine ⟨_, rfl, ?_⟩
         have n0_ := Aside0.mk (Kd.R_elder' (by (with_reducible repeat (first | apply Kd.R_alloc | apply Kd.R_drewN | apply Kd.R_drew)); exact HO_1478003.out) (Kd.R_base ho0) hb)
         have n1_ := Aside0.mk (Kd.R_elder' (by (with_reducible repeat (first | apply Kd.R_alloc | apply Kd.R_drewN | apply Kd.R_drew)); exact HO_1478004.out) (Kd.R_base ho1) hb)
         have n2_ := Aside0.mk (Kd.R_elder' (by (with_reducible repeat (first | apply Kd.R_alloc | apply Kd.R_drewN | apply Kd.R_drew)); exact HO1482.out) (Kd.R_base ho0) hb)
         have n3_ := Aside0.mk (Kd.R_lower (Kd.R_new' (Kd.R_new' ho0 (Kd.R_lt (by (with_reducible repeat (first | apply Kd.R_alloc | apply Kd.R_drewN | apply Kd.R_drew)); exact HO_1478003.out))) (Kd.R_lt (by (with_reducible repeat (first | apply Kd.R_alloc | apply Kd.R_drewN | apply Kd.R_drew)); exact HO1482.out))) (keep_size (w := w) (g := g) (row := none) (by repeat (first | (with_reducible first | exact HK.out | apply KeepBut.set_ | apply keep_drewN | apply keep_drew | apply keep_alloc | refine keep_far ?_ GW1455.out _ | refine keep_far ?_ GW1477.out _) | exact HK.out))))
         have n4_ := Aside0.mk (Kd.R_lower (Kd.R_new' ho1 (Kd.R_lt (by (with_reducible repeat (first | apply Kd.R_alloc | apply Kd.R_drewN | apply Kd.R_drew)); exact HO_1478004.out))) (keep_size (w := w) (g := g) (row := none) (by repeat (first | (with_reducible first | exact HK.out | apply KeepBut.set_ | apply keep_drewN | apply keep_drew | apply keep_alloc | refine keep_far ?_ GW1455.out _ | refine keep_far ?_ GW1477.out _) | exact HK.out))))
         have n5_ := zb BK1455 hb rfl
         have n6_ := zb BK1477 hb rfl
         have n7_ := Aside0.mk (IsS101.below (by repeat (first | (with_reducible first | exact HI0.out | apply IsS101.alloc | apply IsS101.drewN | apply IsS101.drew | apply IsS101.set_1 | refine IsS101.far ?_ NB0_1455.out _ | refine IsS101.far ?_ NB0_1477.out _) | exact HI0.out)) hb)
         have n8_ := Aside0.mk (KeepBut.trans (by repeat (first | (with_reducible first | exact HK.out | apply KeepBut.set_ | apply keep_drewN | apply keep_drew | apply keep_alloc | refine keep_far ?_ GW1455.out _ | refine keep_far ?_ GW1477.out _) | exact HK.out)) (KeepBut.of_below hb g none) (.inl rfl))
         have n9_ := Aside0.mk (below_step (by repeat (first | (with_reducible first | exact HB.out | apply below_alloc | apply pw_below_drewN | apply below_drew1 | refine below_set ?_ (IsS101.ge HI0.out) | refine below_set ?_ GE1455.out | refine below_set ?_ GE1477.out) | exact HB.out)) hb)
         clear HO_1478003
         clear HO_1478004
         clear HO1482
         clear BK1455
         clear BK1477
         clear HI0
         clear HK
         clear HB
         have HO_1478003 := n0_
         have HO_1478004 := n1_
         have HO1482 := n2_
         have HO1493 := n3_
         have HO1496 := n4_
         have BK1455 := n5_
         have BK1477 := n6_
         have HI0 := n7_
         have HK := n8_
         have HB := n9_
         clear n0_ n1_ n2_ n3_ n4_ n5_ n6_ n7_ n8_ n9_
         (try clear hb)
         (try clear hb2)
         (try clear hk)
         (try clear hi)
         (try clear ho0)
         (try clear ho1)
         refine hK.out _ _ ⟨(blk_cell BK1477.out 0).trans rfl, (blk_cell BK1477.out 1).trans rfl, (blk_cell BK1477.out 2).trans rfl, (blk_cell BK1477.out 3).trans rfl, (blk_cell BK1477.out 4).trans rfl⟩ (fun hHeld => ?_)
         clear hK K
         refine norm_ (a' := ?_) ?_ ?_
         rotate_left
         ·show Act.put _ (some 33) _ = _
          simp only [Act.put, List.setIfInBounds_toArray, List.set_cons_zero, List.set_cons_succ, i64_w, i32_w]
          rfl
         refine pure_ (i := 10) (N := some 23) (v := ?_) (a' := ?_) #[true, true, true, true, true, true, true, true, true, true, true, false, false, false, false, false] rfl rfl (any_of HT_.out (by kernel_rfl)) (fun _ _ _ h => h) (Or.inl ⟨by rfl, ?_⟩) ?_ ?_
         rotate_left
         ·intro w'
          go_simp
          with_reducible rfl
         rotate_left
         ·simp only [Act.put, List.setIfInBounds_toArray, List.set_cons_zero, List.set_cons_succ, i64_w, i32_w]
          rfl
         refine pure_ (i := 11) (N := some 34) (v := ?_) (a' := ?_) #[true, true, true, true, true, true, true, true, true, true, true, true, false, false, false, false] rfl rfl (any_of HT_.out (by kernel_rfl)) (fun _ _ _ h => h) (Or.inl ⟨by rfl, ?_⟩) ?_ ?_
         rotate_left
         ·intro w'
          go_simp
          with_reducible rfl
         rotate_left
         ·simp only [Act.put, List.setIfInBounds_toArray, List.set_cons_zero, List.set_cons_succ, i64_w, i32_w]
          rfl
         refine pure_ (i := 12) (N := some 35) (v := ?_) (a' := ?_) #[true, true, true, true, true, true, true, true, true, true, true, true, true, false, false, false] rfl rfl (any_of HT_.out (by kernel_rfl)) (fun _ _ _ h => h) (Or.inl ⟨by rfl, ?_⟩) ?_ ?_
         rotate_left
         ·intro w'
          go_simp
          with_reducible rfl
         rotate_left
         ·simp only [Act.put, List.setIfInBounds_toArray, List.set_cons_zero, List.set_cons_succ, i64_w, i32_w]
          rfl
         exact norm_ (by first | (simp only [putAll, Act.put, List.setIfInBounds_toArray, List.set_cons_zero, List.set_cons_succ]; done) | (simp only [putAll, Act.put, List.setIfInBounds_toArray, List.set_cons_zero, List.set_cons_succ]; rfl)) (hJ2_3_5_8_9 (v1481, v1492, v1495) _ ⟨hHeld, (by (with_reducible repeat (first | apply Kd.R_alloc | apply Kd.R_drewN | apply Kd.R_drew)); exact Kd.R_mono HO1482.out (fun _ hk => ⟨hk.2, hk.1⟩)), (by (with_reducible repeat (first | apply Kd.R_alloc | apply Kd.R_drewN | apply Kd.R_drew)); exact Kd.R_mono HO1493.out (fun _ hk => ⟨hk.2, hk.1.2⟩)), (by (with_reducible repeat (first | apply Kd.R_alloc | apply Kd.R_drewN | apply Kd.R_drew)); exact Kd.R_mono HO1496.out (fun _ hk => hk.2)), (by (with_reducible repeat (first | apply Kd.R_alloc | apply Kd.R_drewN | apply Kd.R_drew)); exact HO_1478003.out), (by (with_reducible repeat (first | apply Kd.R_alloc | apply Kd.R_drewN | apply Kd.R_drew)); exact Kd.R_mono HO_1478004.out (fun _ hk => hk.2)), (by (with_reducible repeat first | apply bN | apply bD | apply bA); exact BK1455.out), (by (with_reducible repeat first | apply bN | apply bD | apply bA); exact BK1477.out), (by repeat (first | (with_reducible first | exact HI0.out | apply IsS101.alloc | apply IsS101.drewN | apply IsS101.drew | apply IsS101.set_1 | refine IsS101.far ?_ NB0_1455.out _ | refine IsS101.far ?_ NB0_1477.out _) | exact HI0.out)), (by repeat (first | (with_reducible first | exact HK.out | apply KeepBut.set_ | apply keep_drewN | apply keep_drew | apply keep_alloc | refine keep_far ?_ GW1455.out _ | refine keep_far ?_ GW1477.out _) | exact HK.out)), (by repeat (first | (with_reducible first | exact HB.out | apply below_alloc | apply pw_below_drewN | apply below_drew1 | refine below_set ?_ (IsS101.ge HI0.out) | refine below_set ?_ GE1455.out | refine below_set ?_ GE1477.out) | exact HB.out))⟩)
        ·skip
         refine box_step ?hg (N := 5) ?hd (cs := #[.int .i64 0, .int .i64 0, .int .i64 0, .slice none 0 0, .slice none 0 0]) (t := 60) ?hr ?_; (case hd => rfl); (case hg => rfl); (case hr => first | (go_simp; done) | (go_simp; rfl))
         intro gb1498 hg w40 hbox hb
         have n0_ := Aside0.mk (Kd.R_below (by (with_reducible repeat (first | apply Kd.R_alloc | apply Kd.R_drewN | apply Kd.R_drew)); exact HO_1478003.out) hb)
         have n1_ := Aside0.mk (Kd.R_below (by (with_reducible repeat (first | apply Kd.R_alloc | apply Kd.R_drewN | apply Kd.R_drew)); exact HO_1478004.out) hb)
         have n2_ := Aside0.mk (Kd.R_below (by (with_reducible repeat (first | apply Kd.R_alloc | apply Kd.R_drewN | apply Kd.R_drew)); exact HO1482.out) hb)
         have n3_ := zb BK1455 hb rfl
         have n4_ := zb BK1477 hb rfl
         have n5_ := Aside0.mk (IsS101.below (by repeat (first | (with_reducible first | exact HI0.out | apply IsS101.alloc | apply IsS101.drewN | apply IsS101.drew | apply IsS101.set_1 | refine IsS101.far ?_ NB0_1455.out _ | refine IsS101.far ?_ NB0_1477.out _) | exact HI0.out)) hb)
         have n6_ := Aside0.mk (KeepBut.trans (by repeat (first | (with_reducible first | exact HK.out | apply KeepBut.set_ | apply keep_drewN | apply keep_drew | apply keep_alloc | refine keep_far ?_ GW1455.out _ | refine keep_far ?_ GW1477.out _) | exact HK.out)) (KeepBut.of_below hb g none) (.inl rfl))
         have n7_ := Aside0.mk (below_step (by repeat (first | (with_reducible first | exact HB.out | apply below_alloc | apply pw_below_drewN | apply below_drew1 | refine below_set ?_ (IsS101.ge HI0.out) | refine below_set ?_ GE1455.out | refine below_set ?_ GE1477.out) | exact HB.out)) hb)
         have n8_ := Aside0.mk (hbox)
         have n9_ := Aside0.mk ((by rw [hg]; exact (keep_size (w := w) (g := g) (row := none) (by repeat (first | (with_reducible first | exact HK.out | apply KeepBut.set_ | apply keep_drewN | apply keep_drew | apply keep_alloc | refine keep_far ?_ GW1455.out _ | refine keep_far ?_ GW1477.out _) | exact HK.out))) : w.heap.size ≤ gb1498))
         have n10_ := Aside0.mk ((Nat.le_trans HW0.out (by rw [hg]; exact (keep_size (w := w) (g := g) (row := none) (by repeat (first | (with_reducible first | exact HK.out | apply KeepBut.set_ | apply keep_drewN | apply keep_drew | apply keep_alloc | refine keep_far ?_ GW1455.out _ | refine keep_far ?_ GW1477.out _) | exact HK.out))) : w.heap.size ≤ gb1498) : w0.heap.size ≤ gb1498))
         have n11_ := zl BK1455 hg rfl
         have n12_ := zg BK1455 hg rfl
         have n13_ := zl BK1477 hg rfl
         have n14_ := zg BK1477 hg rfl
         have n15_ := Aside0.mk ((by rw [hg]; exact Nat.ne_of_lt (IsS101.lt (show IsS101 w0 _ g s0_0 t1486 from by repeat (first | (with_reducible first | exact HI0.out | apply IsS101.alloc | apply IsS101.drewN | apply IsS101.drew | apply IsS101.set_1 | refine IsS101.far ?_ NB0_1455.out _ | refine IsS101.far ?_ NB0_1477.out _) | exact HI0.out))) : g ≠ gb1498))
         have n16_ := Aside0.mk ((by rw [hg]; exact Nat.ne_of_gt (IsS101.lt (show IsS101 w0 _ g s0_0 t1486 from by repeat (first | (with_reducible first | exact HI0.out | apply IsS101.alloc | apply IsS101.drewN | apply IsS101.drew | apply IsS101.set_1 | refine IsS101.far ?_ NB0_1455.out _ | refine IsS101.far ?_ NB0_1477.out _) | exact HI0.out))) : gb1498 ≠ g))
         clear HO_1478003
         clear HO_1478004
         clear HO1482
         clear BK1455
         clear BK1477
         clear HI0
         clear HK
         clear HB
         have HO_1478003 := n0_
         have HO_1478004 := n1_
         have HO1482 := n2_
         have BK1455 := n3_
         have BK1477 := n4_
         have HI0 := n5_
         have HK := n6_
         have HB := n7_
         have BK1498 := n8_
         have GW1498 := n9_
         have GE1498 := n10_
         have NB1455_1498 := n11_
         have NB1498_1455 := n12_
         have NB1477_1498 := n13_
         have NB1498_1477 := n14_
         have NB0_1498 := n15_
         have NB1498_0 := n16_
         clear n0_ n1_ n2_ n3_ n4_ n5_ n6_ n7_ n8_ n9_ n10_ n11_ n12_ n13_ n14_ n15_ n16_
         clear hb hbox hg
         refine hK.out _ _ ⟨(blk_cell BK1477.out 0).trans rfl, (blk_cell BK1477.out 1).trans rfl, (blk_cell BK1477.out 2).trans rfl, (blk_cell BK1477.out 3).trans rfl, (blk_cell BK1477.out 4).trans rfl⟩ (fun hHeld => ?_)
         clear hK K
         refine norm_ (a' := ?_) ?_ ?_
         rotate_left
         ·show Act.put _ (some 5) _ = _
          simp only [Act.put, List.setIfInBounds_toArray, List.set_cons_zero, List.set_cons_succ, i64_w, i32_w]
          rfl
         exact norm_ (by first | (simp only [putAll, Act.put, List.setIfInBounds_toArray, List.set_cons_zero, List.set_cons_succ]; done) | (simp only [putAll, Act.put, List.setIfInBounds_toArray, List.set_cons_zero, List.set_cons_succ]; rfl)) (hJ2_3_5_8_13 (_, gb1498) _ ⟨hHeld, (by (with_reducible repeat (first | apply Kd.R_alloc | apply Kd.R_drewN | apply Kd.R_drew)); exact HO1482.out), (by (with_reducible repeat (first | apply Kd.R_alloc | apply Kd.R_drewN | apply Kd.R_drew)); exact HO_1478003.out), (by (with_reducible repeat (first | apply Kd.R_alloc | apply Kd.R_drewN | apply Kd.R_drew)); exact HO_1478004.out), (by (with_reducible repeat first | apply bN | apply bD | apply bA); exact BK1455.out), (by (with_reducible repeat first | apply bN | apply bD | apply bA); exact BK1477.out), (by (with_reducible repeat first | apply bN | apply bD | apply bA); exact BK1498.out), GW1498.out, GE1498.out, NB0_1498.out, NB1498_0.out, NB1455_1498.out, NB1498_1455.out, NB1477_1498.out, NB1498_1477.out, (by repeat (first | (with_reducible first | exact HI0.out | apply IsS101.alloc | apply IsS101.drewN | apply IsS101.drew | apply IsS101.set_1 | refine IsS101.far ?_ NB0_1455.out _ | refine IsS101.far ?_ NB0_1477.out _ | refine IsS101.far ?_ NB0_1498.out _) | exact HI0.out)), (by repeat (first | (with_reducible first | exact HK.out | apply KeepBut.set_ | apply keep_drewN | apply keep_drew | apply keep_alloc | refine keep_far ?_ GW1455.out _ | refine keep_far ?_ GW1477.out _ | refine keep_far ?_ GW1498.out _) | exact HK.out)), (by repeat (first | (with_reducible first | exact HB.out | apply below_alloc | apply pw_below_drewN | apply below_drew1 | refine below_set ?_ (IsS101.ge HI0.out) | refine below_set ?_ GE1455.out | refine below_set ?_ GE1477.out | refine below_set ?_ GE1498.out) | exact HB.out))⟩)
      ·skip
       rintro ⟨v1481, gb1498⟩ w40 ⟨hS_, h0_, h1_, h2_, h3_, h4_, h5_, h6_, h7_, h8_, h9_, h10_, h11_, h12_, h13_, h14_, h15_, h16_⟩
       have n0_ : Aside0 (Kd.R (Kd.int .i64) 3 w40 w.heap.size (fun k_ => some k_ ≠ (.slice Ao30 x1478003_1.length co30 : Value).ownBlock) v1481 y1480) := ⟨h0_⟩
       have n1_ : Aside0 (Kd.R (Kd.int .i64) 3 w40 w.heap.size (fun k_ => some k_ ≠ (v1481 : Value).ownBlock) (.slice Ao30 x1478003_1.length co30) x1478003_1) := ⟨h1_⟩
       have n2_ : Aside0 (Kd.R Kd.string 9 w40 w.heap.size (fun _ => True) (.slice Ao31 x1478004_1.length co31) x1478004_1) := ⟨h2_⟩
       have n3_ : Aside0 (w40.heap[gb1455]? = some (.cells #[.int .i64 0, .int .i64 0, .int .i64 0, .slice none 0 0, .slice none 0 0] 60 (0, 0))) := ⟨h3_⟩
       have n4_ : Aside0 (w40.heap[gb1477]? = some (.cells #[.int .i64 x1478000_1, .int .i64 x1478001_1, .int .i64 x1478002_1, .slice Ao30 x1478003_1.length co30, .slice Ao31 x1478004_1.length co31] 60 (0, 0))) := ⟨h4_⟩
       have n5_ : Aside0 (w40.heap[gb1498]? = some (.cells #[.int .i64 0, .int .i64 0, .int .i64 0, .slice none 0 0, .slice none 0 0] 60 (0, 0))) := ⟨h5_⟩
       have n6_ : Aside0 (w.heap.size ≤ gb1498) := ⟨h6_⟩
       have n7_ : Aside0 (w0.heap.size ≤ gb1498) := ⟨h7_⟩
       have n8_ : Aside0 (g ≠ gb1498) := ⟨h8_⟩
       have n9_ : Aside0 (gb1498 ≠ g) := ⟨h9_⟩
       have n10_ : Aside0 (gb1455 ≠ gb1498) := ⟨h10_⟩
       have n11_ : Aside0 (gb1498 ≠ gb1455) := ⟨h11_⟩
       have n12_ : Aside0 (gb1477 ≠ gb1498) := ⟨h12_⟩
       have n13_ : Aside0 (gb1498 ≠ gb1477) := ⟨h13_⟩
       have n14_ : Aside0 (IsS101 w0 w40 g s0_0 t1486) := ⟨h14_⟩
       have n15_ : Aside0 (KeepBut w w40 g none) := ⟨h15_⟩
       have n16_ : Aside0 (Below w0.heap.size w0 w40) := ⟨h16_⟩
       clear HO_1478003
       clear HO_1478004
       clear BK1455
       clear BK1477
       clear HI0
       clear HK
       clear HB
       clear h0_ h1_ h2_ h3_ h4_ h5_ h6_ h7_ h8_ h9_ h10_ h11_ h12_ h13_ h14_ h15_ h16_
       have HO1482 := n0_
       have HO_1478003 := n1_
       have HO_1478004 := n2_
       have BK1455 := n3_
       have BK1477 := n4_
       have BK1498 := n5_
       have GW1498 := n6_
       have GE1498 := n7_
       have NB0_1498 := n8_
       have NB1498_0 := n9_
       have NB1455_1498 := n10_
       have NB1498_1455 := n11_
       have NB1477_1498 := n12_
       have NB1498_1477 := n13_
       have HI0 := n14_
       have HK := n15_
       have HB := n16_
       clear n0_ n1_ n2_ n3_ n4_ n5_ n6_ n7_ n8_ n9_ n10_ n11_ n12_ n13_ n14_ n15_ n16_
       have hHeld : w40.cell? ⟨gb1477, 0, none⟩ = some (.int .i64 x1478000_1) ∧ w40.cell? ⟨gb1477, 1, none⟩ = some (.int .i64 x1478001_1) ∧ w40.cell? ⟨gb1477, 2, none⟩ = some (.int .i64 x1478002_1) ∧ w40.cell? ⟨gb1477, 3, none⟩ = some (.slice Ao30 x1478003_1.length co30) ∧ w40.cell? ⟨gb1477, 4, none⟩ = some (.slice Ao31 x1478004_1.length co31) := hS_
       refine norm_ (a' := ?_) ?_ ?_
       rotate_left
       ·simp only [putAll, Act.put, List.setIfInBounds_toArray, List.set_cons_zero, List.set_cons_succ]
        rfl
       refine one_ (i := 9) (N := some 33) #[true, true, true, true, true, true, true, true, true, true, false, false, false, true, false, false] rfl rfl (one_of HT_.out (by kernel_rfl)) (by decide) (fun K hK => ?_)
       refine goes_ Try.func141 (by kernel_rfl) rfl #[.agg #[.int .i64 x1478000_1, .int .i64 x1478001_1, .int .i64 x1478002_1, .slice Ao30 x1478003_1.length co30, .slice Ao31 x1478004_1.length co31], .int .i64 t1483, .string t1487] (by rfl) rfl rfl (by (try simp only [List.map_toArray, List.map_cons, List.map_nil]); first | done | rfl | (simp only [List.length_drop, List.length_take]; rfl)) ?_
       with_reducible refine (spec_TablePut.calls k1 x1478000_1 x1478001_1 x1478002_1 _ _ x1478003_1 _ _ x1478004_1 t1483 t1487 t1488 t1489 t1490 t1491 t1494 t1497 _ ?side1 ?side2 ?side3 ?side4 A29.out).mono ?_
       (case side1 => repeat (first | exact (Kd.R_reads' HO_1478003.out).2.2 | (with_reducible refine Kd.C_alloc ?_ _) | (with_reducible refine Kd.C_drewN ?_ _) | (with_reducible refine Kd.C_drew ?_)))
       (case side2 => exact (Kd.R_reads' HO_1478003.out).2.1)
       (case side3 => repeat (first | exact (Kd.R_reads' HO_1478004.out).2.2 | (with_reducible refine Kd.C_alloc ?_ _) | (with_reducible refine Kd.C_drewN ?_ _) | (with_reducible refine Kd.C_drew ?_)))
       (case side4 => exact (Kd.R_reads' HO_1478004.out).2.1)
       rintro e w41 ⟨v1492, v1495, rfl, ho0, ho1, hb⟩
       refine ⟨_, rfl, ?_⟩
       have n0_ := Aside0.mk (Kd.R_elder' (by (with_reducible repeat (first | apply Kd.R_alloc | apply Kd.R_drewN | apply Kd.R_drew)); exact HO_1478003.out) (Kd.R_base ho0) hb)
       have n1_ := Aside0.mk (Kd.R_elder' (by (with_reducible repeat (first | apply Kd.R_alloc | apply Kd.R_drewN | apply Kd.R_drew)); exact HO_1478004.out) (Kd.R_base ho1) hb)
       have n2_ := Aside0.mk (Kd.R_elder' (by (with_reducible repeat (first | apply Kd.R_alloc | apply Kd.R_drewN | apply Kd.R_drew)); exact HO1482.out) (Kd.R_base ho0) hb)
       have n3_ := Aside0.mk (Kd.R_lower (Kd.R_new' (Kd.R_new' ho0 (Kd.R_lt (by (with_reducible repeat (first | apply Kd.R_alloc | apply Kd.R_drewN | apply Kd.R_drew)); exact HO_1478003.out))) (Kd.R_lt (by (with_reducible repeat (first | apply Kd.R_alloc | apply Kd.R_drewN | apply Kd.R_drew)); exact HO1482.out))) (keep_size (w := w) (g := g) (row := none) (by repeat (first | (with_reducible first | exact HK.out | apply KeepBut.set_ | apply keep_drewN | apply keep_drew | apply keep_alloc | refine keep_far ?_ GW1455.out _ | refine keep_far ?_ GW1477.out _ | refine keep_far ?_ GW1498.out _) | exact HK.out))))
       have n4_ := Aside0.mk (Kd.R_lower (Kd.R_new' ho1 (Kd.R_lt (by (with_reducible repeat (first | apply Kd.R_alloc | apply Kd.R_drewN | apply Kd.R_drew)); exact HO_1478004.out))) (keep_size (w := w) (g := g) (row := none) (by repeat (first | (with_reducible first | exact HK.out | apply KeepBut.set_ | apply keep_drewN | apply keep_drew | apply keep_alloc | refine keep_far ?_ GW1455.out _ | refine keep_far ?_ GW1477.out _ | refine keep_far ?_ GW1498.out _) | exact HK.out))))
       have n5_ := zb BK1455 hb rfl
       have n6_ := zb BK1477 hb rfl
       have n7_ := Aside0.mk (IsS101.below (by repeat (first | (with_reducible first | exact HI0.out | apply IsS101.alloc | apply IsS101.drewN | apply IsS101.drew | apply IsS101.set_1 | refine IsS101.far ?_ NB0_1455.out _ | refine IsS101.far ?_ NB0_1477.out _ | refine IsS101.far ?_ NB0_1498.out _) | exact HI0.out)) hb)
       have n8_ := zb BK1498 hb rfl
       have n9_ := Aside0.mk (KeepBut.trans (by repeat (first | (with_reducible first | exact HK.out | apply KeepBut.set_ | apply keep_drewN | apply keep_drew | apply keep_alloc | refine keep_far ?_ GW1455.out _ | refine keep_far ?_ GW1477.out _ | refine keep_far ?_ GW1498.out _) | exact HK.out)) (KeepBut.of_below hb g none) (.inl rfl))
       have n10_ := Aside0.mk (below_step (by repeat (first | (with_reducible first | exact HB.out | apply below_alloc | apply pw_below_drewN | apply below_drew1 | refine below_set ?_ (IsS101.ge HI0.out) | refine below_set ?_ GE1455.out | refine below_set ?_ GE1477.out | refine below_set ?_ GE1498.out) | exact HB.out)) hb)
       clear HO_1478003
       clear HO_1478004
       clear HO1482
       clear BK1455
       clear BK1477
       clear HI0
       clear BK1498
       clear HK
       clear HB
       have HO_1478003 := n0_
       have HO_1478004 := n1_
       have HO1482 := n2_
       have HO1493 := n3_
       have HO1496 := n4_
       have BK1455 := n5_
       have BK1477 := n6_
       have HI0 := n7_
       have BK1498 := n8_
       have HK := n9_
       have HB := n10_
       clear n0_ n1_ n2_ n3_ n4_ n5_ n6_ n7_ n8_ n9_ n10_
       (try clear hb)
       (try clear hb2)
       (try clear hk)
       (try clear hi)
       (try clear ho0)
       (try clear ho1)
       refine hK.out _ _ ⟨(blk_cell BK1477.out 0).trans rfl, (blk_cell BK1477.out 1).trans rfl, (blk_cell BK1477.out 2).trans rfl, (blk_cell BK1477.out 3).trans rfl, (blk_cell BK1477.out 4).trans rfl⟩ (fun hHeld => ?_)
       clear hK K
       refine norm_ (a' := ?_) ?_ ?_
       rotate_left
       ·show Act.put _ (some 33) _ = _
        simp only [Act.put, List.setIfInBounds_toArray, List.set_cons_zero, List.set_cons_succ, i64_w, i32_w]
        rfl
       refine pure_ (i := 10) (N := some 23) (v := ?_) (a' := ?_) #[true, true, true, true, true, true, true, true, true, true, true, false, false, true, false, false] rfl rfl (any_of HT_.out (by kernel_rfl)) (fun _ _ _ h => h) (Or.inl ⟨by rfl, ?_⟩) ?_ ?_
       rotate_left
       ·intro w'
        go_simp
        with_reducible rfl
       rotate_left
       ·simp only [Act.put, List.setIfInBounds_toArray, List.set_cons_zero, List.set_cons_succ, i64_w, i32_w]
        rfl
       refine pure_ (i := 11) (N := some 34) (v := ?_) (a' := ?_) #[true, true, true, true, true, true, true, true, true, true, true, true, false, true, false, false] rfl rfl (any_of HT_.out (by kernel_rfl)) (fun _ _ _ h => h) (Or.inl ⟨by rfl, ?_⟩) ?_ ?_
       rotate_left
       ·intro w'
        go_simp
        with_reducible rfl
       rotate_left
       ·simp only [Act.put, List.setIfInBounds_toArray, List.set_cons_zero, List.set_cons_succ, i64_w, i32_w]
        rfl
       refine pure_ (i := 12) (N := some 35) (v := ?_) (a' := ?_) #[true, true, true, true, true, true, true, true, true, true, true, true, true, true, false, false] rfl rfl (any_of HT_.out (by kernel_rfl)) (fun _ _ _ h => h) (Or.inl ⟨by rfl, ?_⟩) ?_ ?_
       rotate_left
       ·intro w'
        go_simp
        with_reducible rfl
       rotate_left
       ·simp only [Act.put, List.setIfInBounds_toArray, List.set_cons_zero, List.set_cons_succ, i64_w, i32_w]
        rfl
       exact norm_ (by first | (simp only [putAll, Act.put, List.setIfInBounds_toArray, List.set_cons_zero, List.set_cons_succ]; done) | (simp only [putAll, Act.put, List.setIfInBounds_toArray, List.set_cons_zero, List.set_cons_succ]; rfl)) (hJ2_3_5_8_9_13 (v1481, v1492, v1495, gb1498) _ ⟨hHeld, (by (with_reducible repeat (first | apply Kd.R_alloc | apply Kd.R_drewN | apply Kd.R_drew)); exact Kd.R_mono HO1482.out (fun _ hk => ⟨hk.2, hk.1⟩)), (by (with_reducible repeat (first | apply Kd.R_alloc | apply Kd.R_drewN | apply Kd.R_drew)); exact Kd.R_mono HO1493.out (fun _ hk => ⟨hk.2, hk.1.2⟩)), (by (with_reducible repeat (first | apply Kd.R_alloc | apply Kd.R_drewN | apply Kd.R_drew)); exact Kd.R_mono HO1496.out (fun _ hk => hk.2)), (by (with_reducible repeat (first | apply Kd.R_alloc | apply Kd.R_drewN | apply Kd.R_drew)); exact HO_1478003.out), (by (with_reducible repeat (first | apply Kd.R_alloc | apply Kd.R_drewN | apply Kd.R_drew)); exact Kd.R_mono HO_1478004.out (fun _ hk => hk.2)), (by (with_reducible repeat first | apply bN | apply bD | apply bA); exact BK1455.out), (by (with_reducible repeat first | apply bN | apply bD | apply bA); exact BK1477.out), (by (with_reducible repeat first | apply bN | apply bD | apply bA); exact BK1498.out), GW1498.out, GE1498.out, NB0_1498.out, NB1498_0.out, NB1455_1498.out, NB1498_1455.out, NB1477_1498.out, NB1498_1477.out, (by repeat (first | (with_reducible first | exact HI0.out | apply IsS101.alloc | apply IsS101.drewN | apply IsS101.drew | apply IsS101.set_1 | refine IsS101.far ?_ NB0_1455.out _ | refine IsS101.far ?_ NB0_1477.out _ | refine IsS101.far ?_ NB0_1498.out _) | exact HI0.out)), (by repeat (first | (with_reducible first | exact HK.out | apply KeepBut.set_ | apply keep_drewN | apply keep_drew | apply keep_alloc | refine keep_far ?_ GW1455.out _ | refine keep_far ?_ GW1477.out _ | refine keep_far ?_ GW1498.out _) | exact HK.out)), (by repeat (first | (with_reducible first | exact HB.out | apply below_alloc | apply pw_below_drewN | apply below_drew1 | refine below_set ?_ (IsS101.ge HI0.out) | refine below_set ?_ GE1455.out | refine below_set ?_ GE1477.out | refine below_set ?_ GE1498.out) | exact HB.out))⟩)
     ·skip
      rintro ⟨v1481, v1492, v1495⟩ w40 ⟨hS_, h0_, h1_, h2_, h3_, h4_, h5_, h6_, h7_, h8_, h9_⟩
      have n0_ : Aside0 (Kd.R (Kd.int .i64) 3 w40 w.heap.size (fun k_ => some k_ ≠ (v1492 : Value).ownBlock ∧ some k_ ≠ (.slice Ao30 x1478003_1.length co30 : Value).ownBlock) v1481 y1480) := ⟨h0_⟩
      have n1_ : Aside0 (Kd.R (Kd.int .i64) 3 w40 w.heap.size (fun k_ => some k_ ≠ (v1481 : Value).ownBlock ∧ some k_ ≠ (.slice Ao30 x1478003_1.length co30 : Value).ownBlock) v1492 t1491) := ⟨h1_⟩
      have n2_ : Aside0 (Kd.R Kd.string 9 w40 w.heap.size (fun k_ => some k_ ≠ (.slice Ao31 x1478004_1.length co31 : Value).ownBlock) v1495 t1494) := ⟨h2_⟩
      have n3_ : Aside0 (Kd.R (Kd.int .i64) 3 w40 w.heap.size (fun k_ => some k_ ≠ (v1481 : Value).ownBlock ∧ some k_ ≠ (v1492 : Value).ownBlock) (.slice Ao30 x1478003_1.length co30) x1478003_1) := ⟨h3_⟩
      have n4_ : Aside0 (Kd.R Kd.string 9 w40 w.heap.size (fun k_ => some k_ ≠ (v1495 : Value).ownBlock) (.slice Ao31 x1478004_1.length co31) x1478004_1) := ⟨h4_⟩
      have n5_ : Aside0 (w40.heap[gb1455]? = some (.cells #[.int .i64 0, .int .i64 0, .int .i64 0, .slice none 0 0, .slice none 0 0] 60 (0, 0))) := ⟨h5_⟩
      have n6_ : Aside0 (w40.heap[gb1477]? = some (.cells #[.int .i64 x1478000_1, .int .i64 x1478001_1, .int .i64 x1478002_1, .slice Ao30 x1478003_1.length co30, .slice Ao31 x1478004_1.length co31] 60 (0, 0))) := ⟨h6_⟩
      have n7_ : Aside0 (IsS101 w0 w40 g s0_0 t1486) := ⟨h7_⟩
      have n8_ : Aside0 (KeepBut w w40 g none) := ⟨h8_⟩
      have n9_ : Aside0 (Below w0.heap.size w0 w40) := ⟨h9_⟩
      clear HO_1478003
      clear HO_1478004
      clear BK1455
      clear BK1477
      clear HI0
      clear HK
      clear HB
      clear h0_ h1_ h2_ h3_ h4_ h5_ h6_ h7_ h8_ h9_
      have HO1482 := n0_
      have HO1493 := n1_
      have HO1496 := n2_
      have HO_1478003 := n3_
      have HO_1478004 := n4_
      have BK1455 := n5_
      have BK1477 := n6_
      have HI0 := n7_
      have HK := n8_
      have HB := n9_
      clear n0_ n1_ n2_ n3_ n4_ n5_ n6_ n7_ n8_ n9_
      have hHeld : w40.cell? ⟨gb1477, 0, none⟩ = some (.int .i64 x1478000_1) ∧ w40.cell? ⟨gb1477, 1, none⟩ = some (.int .i64 x1478001_1) ∧ w40.cell? ⟨gb1477, 2, none⟩ = some (.int .i64 x1478002_1) ∧ w40.cell? ⟨gb1477, 3, none⟩ = some (.slice Ao30 x1478003_1.length co30) ∧ w40.cell? ⟨gb1477, 4, none⟩ = some (.slice Ao31 x1478004_1.length co31) := hS_
      refine norm_ (a' := ?_) ?_ ?_
      rotate_left
      ·simp only [putAll, Act.put, List.setIfInBounds_toArray, List.set_cons_zero, List.set_cons_succ]
       rfl
      refine one_ (i := 13) (N := some 5) #[true, true, true, true, true, true, true, true, true, true, true, true, true, true, false, false] rfl rfl (one_of HT_.out (by kernel_rfl)) (by decide) (fun K hK => ?_)
      refine box_step ?hg (N := 5) ?hd (cs := #[.int .i64 0, .int .i64 0, .int .i64 0, .slice none 0 0, .slice none 0 0]) (t := 60) ?hr ?_; (case hd => rfl); (case hg => rfl); (case hr => first | (go_simp; done) | (go_simp; rfl))
      intro gb1498 hg w41 hbox hb
      have n0_ := Aside0.mk (Kd.R_below (by (with_reducible repeat (first | apply Kd.R_alloc | apply Kd.R_drewN | apply Kd.R_drew)); exact HO_1478003.out) hb)
      have n1_ := Aside0.mk (Kd.R_below (by (with_reducible repeat (first | apply Kd.R_alloc | apply Kd.R_drewN | apply Kd.R_drew)); exact HO_1478004.out) hb)
      have n2_ := Aside0.mk (Kd.R_below (by (with_reducible repeat (first | apply Kd.R_alloc | apply Kd.R_drewN | apply Kd.R_drew)); exact HO1482.out) hb)
      have n3_ := Aside0.mk (Kd.R_below (by (with_reducible repeat (first | apply Kd.R_alloc | apply Kd.R_drewN | apply Kd.R_drew)); exact HO1493.out) hb)
      have n4_ := Aside0.mk (Kd.R_below (by (with_reducible repeat (first | apply Kd.R_alloc | apply Kd.R_drewN | apply Kd.R_drew)); exact HO1496.out) hb)
      have n5_ := zb BK1455 hb rfl
      have n6_ := zb BK1477 hb rfl
      have n7_ := Aside0.mk (IsS101.below (by repeat (first | (with_reducible first | exact HI0.out | apply IsS101.alloc | apply IsS101.drewN | apply IsS101.drew | apply IsS101.set_1 | refine IsS101.far ?_ NB0_1455.out _ | refine IsS101.far ?_ NB0_1477.out _) | exact HI0.out)) hb)
      have n8_ := Aside0.mk (KeepBut.trans (by repeat (first | (with_reducible first | exact HK.out | apply KeepBut.set_ | apply keep_drewN | apply keep_drew | apply keep_alloc | refine keep_far ?_ GW1455.out _ | refine keep_far ?_ GW1477.out _) | exact HK.out)) (KeepBut.of_below hb g none) (.inl rfl))
      have n9_ := Aside0.mk (below_step (by repeat (first | (with_reducible first | exact HB.out | apply below_alloc | apply pw_below_drewN | apply below_drew1 | refine below_set ?_ (IsS101.ge HI0.out) | refine below_set ?_ GE1455.out | refine below_set ?_ GE1477.out) | exact HB.out)) hb)
      have n10_ := Aside0.mk (hbox)
      have n11_ := Aside0.mk ((by rw [hg]; exact (keep_size (w := w) (g := g) (row := none) (by repeat (first | (with_reducible first | exact HK.out | apply KeepBut.set_ | apply keep_drewN | apply keep_drew | apply keep_alloc | refine keep_far ?_ GW1455.out _ | refine keep_far ?_ GW1477.out _) | exact HK.out))) : w.heap.size ≤ gb1498))
      have n12_ := Aside0.mk ((Nat.le_trans HW0.out (by rw [hg]; exact (keep_size (w := w) (g := g) (row := none) (by repeat (first | (with_reducible first | exact HK.out | apply KeepBut.set_ | apply keep_drewN | apply keep_drew | apply keep_alloc | refine keep_far ?_ GW1455.out _ | refine keep_far ?_ GW1477.out _) | exact HK.out))) : w.heap.size ≤ gb1498) : w0.heap.size ≤ gb1498))
      have n13_ := zl BK1455 hg rfl
      have n14_ := zg BK1455 hg rfl
      have n15_ := zl BK1477 hg rfl
      have n16_ := zg BK1477 hg rfl
      have n17_ := Aside0.mk ((by rw [hg]; exact Nat.ne_of_lt (IsS101.lt (show IsS101 w0 _ g s0_0 t1486 from by repeat (first | (with_reducible first | exact HI0.out | apply IsS101.alloc | apply IsS101.drewN | apply IsS101.drew | apply IsS101.set_1 | refine IsS101.far ?_ NB0_1455.out _ | refine IsS101.far ?_ NB0_1477.out _) | exact HI0.out))) : g ≠ gb1498))
      have n18_ := Aside0.mk ((by rw [hg]; exact Nat.ne_of_gt (IsS101.lt (show IsS101 w0 _ g s0_0 t1486 from by repeat (first | (with_reducible first | exact HI0.out | apply IsS101.alloc | apply IsS101.drewN | apply IsS101.drew | apply IsS101.set_1 | refine IsS101.far ?_ NB0_1455.out _ | refine IsS101.far ?_ NB0_1477.out _) | exact HI0.out))) : gb1498 ≠ g))
      clear HO_1478003
      clear HO_1478004
      clear HO1482
      clear HO1493
      clear HO1496
      clear BK1455
      clear BK1477
      clear HI0
      clear HK
      clear HB
      have HO_1478003 := n0_
      have HO_1478004 := n1_
      have HO1482 := n2_
      have HO1493 := n3_
      have HO1496 := n4_
      have BK1455 := n5_
      have BK1477 := n6_
      have HI0 := n7_
      have HK := n8_
      have HB := n9_
      have BK1498 := n10_
      have GW1498 := n11_
      have GE1498 := n12_
      have NB1455_1498 := n13_
      have NB1498_1455 := n14_
      have NB1477_1498 := n15_
      have NB1498_1477 := n16_
      have NB0_1498 := n17_
      have NB1498_0 := n18_
      clear n0_ n1_ n2_ n3_ n4_ n5_ n6_ n7_ n8_ n9_ n10_ n11_ n12_ n13_ n14_ n15_ n16_ n17_ n18_
      clear hb hbox hg
      refine hK.out _ _ ⟨(blk_cell BK1477.out 0).trans rfl, (blk_cell BK1477.out 1).trans rfl, (blk_cell BK1477.out 2).trans rfl, (blk_cell BK1477.out 3).trans rfl, (blk_cell BK1477.out 4).trans rfl⟩ (fun hHeld => ?_)
      clear hK K
      refine norm_ (a' := ?_) ?_ ?_
      rotate_left
      ·show Act.put _ (some 5) _ = _
       simp only [Act.put, List.setIfInBounds_toArray, List.set_cons_zero, List.set_cons_succ, i64_w, i32_w]
       rfl
      exact norm_ (by first | (simp only [putAll, Act.put, List.setIfInBounds_toArray, List.set_cons_zero, List.set_cons_succ]; done) | (simp only [putAll, Act.put, List.setIfInBounds_toArray, List.set_cons_zero, List.set_cons_succ]; rfl)) (hJ2_3_5_8_9_13 (v1481, v1492, v1495, gb1498) _ ⟨hHeld, (by (with_reducible repeat (first | apply Kd.R_alloc | apply Kd.R_drewN | apply Kd.R_drew)); exact HO1482.out), (by (with_reducible repeat (first | apply Kd.R_alloc | apply Kd.R_drewN | apply Kd.R_drew)); exact HO1493.out), (by (with_reducible repeat (first | apply Kd.R_alloc | apply Kd.R_drewN | apply Kd.R_drew)); exact HO1496.out), (by (with_reducible repeat (first | apply Kd.R_alloc | apply Kd.R_drewN | apply Kd.R_drew)); exact HO_1478003.out), (by (with_reducible repeat (first | apply Kd.R_alloc | apply Kd.R_drewN | apply Kd.R_drew)); exact HO_1478004.out), (by (with_reducible repeat first | apply bN | apply bD | apply bA); exact BK1455.out), (by (with_reducible repeat first | apply bN | apply bD | apply bA); exact BK1477.out), (by (with_reducible repeat first | apply bN | apply bD | apply bA); exact BK1498.out), GW1498.out, GE1498.out, NB0_1498.out, NB1498_0.out, NB1455_1498.out, NB1498_1455.out, NB1477_1498.out, NB1498_1477.out, (by repeat (first | (with_reducible first | exact HI0.out | apply IsS101.alloc | apply IsS101.drewN | apply IsS101.drew | apply IsS101.set_1 | refine IsS101.far ?_ NB0_1455.out _ | refine IsS101.far ?_ NB0_1477.out _ | refine IsS101.far ?_ NB0_1498.out _) | exact HI0.out)), (by repeat (first | (with_reducible first | exact HK.out | apply KeepBut.set_ | apply keep_drewN | apply keep_drew | apply keep_alloc | refine keep_far ?_ GW1455.out _ | refine keep_far ?_ GW1477.out _ | refine keep_far ?_ GW1498.out _) | exact HK.out)), (by repeat (first | (with_reducible first | exact HB.out | apply below_alloc | apply pw_below_drewN | apply below_drew1 | refine below_set ?_ (IsS101.ge HI0.out) | refine below_set ?_ GE1455.out | refine below_set ?_ GE1477.out | refine below_set ?_ GE1498.out) | exact HB.out))⟩)
    rintro ⟨v1481, v1492, v1495, gb1498⟩ w41 ⟨hS_, h0_, h1_, h2_, h3_, h4_, h5_, h6_, h7_, h8_, h9_, h10_, h11_, h12_, h13_, h14_, h15_, h16_, h17_, h18_⟩
    have n0_ : Aside0 (Kd.R (Kd.int .i64) 3 w41 w.heap.size (fun k_ => some k_ ≠ (v1492 : Value).ownBlock ∧ some k_ ≠ (.slice Ao30 x1478003_1.length co30 : Value).ownBlock) v1481 y1480) := ⟨h0_⟩
    have n1_ : Aside0 (Kd.R (Kd.int .i64) 3 w41 w.heap.size (fun k_ => some k_ ≠ (v1481 : Value).ownBlock ∧ some k_ ≠ (.slice Ao30 x1478003_1.length co30 : Value).ownBlock) v1492 t1491) := ⟨h1_⟩
    have n2_ : Aside0 (Kd.R Kd.string 9 w41 w.heap.size (fun k_ => some k_ ≠ (.slice Ao31 x1478004_1.length co31 : Value).ownBlock) v1495 t1494) := ⟨h2_⟩
    have n3_ : Aside0 (Kd.R (Kd.int .i64) 3 w41 w.heap.size (fun k_ => some k_ ≠ (v1481 : Value).ownBlock ∧ some k_ ≠ (v1492 : Value).ownBlock) (.slice Ao30 x1478003_1.length co30) x1478003_1) := ⟨h3_⟩
    have n4_ : Aside0 (Kd.R Kd.string 9 w41 w.heap.size (fun k_ => some k_ ≠ (v1495 : Value).ownBlock) (.slice Ao31 x1478004_1.length co31) x1478004_1) := ⟨h4_⟩
    have n5_ : Aside0 (w41.heap[gb1455]? = some (.cells #[.int .i64 0, .int .i64 0, .int .i64 0, .slice none 0 0, .slice none 0 0] 60 (0, 0))) := ⟨h5_⟩
    have n6_ : Aside0 (w41.heap[gb1477]? = some (.cells #[.int .i64 x1478000_1, .int .i64 x1478001_1, .int .i64 x1478002_1, .slice Ao30 x1478003_1.length co30, .slice Ao31 x1478004_1.length co31] 60 (0, 0))) := ⟨h6_⟩
    have n7_ : Aside0 (w41.heap[gb1498]? = some (.cells #[.int .i64 0, .int .i64 0, .int .i64 0, .slice none 0 0, .slice none 0 0] 60 (0, 0))) := ⟨h7_⟩
    have n8_ : Aside0 (w.heap.size ≤ gb1498) := ⟨h8_⟩
    have n9_ : Aside0 (w0.heap.size ≤ gb1498) := ⟨h9_⟩
    have n10_ : Aside0 (g ≠ gb1498) := ⟨h10_⟩
    have n11_ : Aside0 (gb1498 ≠ g) := ⟨h11_⟩
    have n12_ : Aside0 (gb1455 ≠ gb1498) := ⟨h12_⟩
    have n13_ : Aside0 (gb1498 ≠ gb1455) := ⟨h13_⟩
    have n14_ : Aside0 (gb1477 ≠ gb1498) := ⟨h14_⟩
    have n15_ : Aside0 (gb1498 ≠ gb1477) := ⟨h15_⟩
    have n16_ : Aside0 (IsS101 w0 w41 g s0_0 t1486) := ⟨h16_⟩
    have n17_ : Aside0 (KeepBut w w41 g none) := ⟨h17_⟩
    have n18_ : Aside0 (Below w0.heap.size w0 w41) := ⟨h18_⟩
    clear HO_1478003
    clear HO_1478004
    clear BK1455
    clear BK1477
    clear HI0
    clear HK
    clear HB
    clear h0_ h1_ h2_ h3_ h4_ h5_ h6_ h7_ h8_ h9_ h10_ h11_ h12_ h13_ h14_ h15_ h16_ h17_ h18_
    have HO1482 := n0_
    have HO1493 := n1_
    have HO1496 := n2_
    have HO_1478003 := n3_
    have HO_1478004 := n4_
    have BK1455 := n5_
    have BK1477 := n6_
    have BK1498 := n7_
    have GW1498 := n8_
    have GE1498 := n9_
    have NB0_1498 := n10_
    have NB1498_0 := n11_
    have NB1455_1498 := n12_
    have NB1498_1455 := n13_
    have NB1477_1498 := n14_
    have NB1498_1477 := n15_
    have HI0 := n16_
    have HK := n17_
    have HB := n18_
    clear n0_ n1_ n2_ n3_ n4_ n5_ n6_ n7_ n8_ n9_ n10_ n11_ n12_ n13_ n14_ n15_ n16_ n17_ n18_
    have hHeld : w41.cell? ⟨gb1477, 0, none⟩ = some (.int .i64 x1478000_1) ∧ w41.cell? ⟨gb1477, 1, none⟩ = some (.int .i64 x1478001_1) ∧ w41.cell? ⟨gb1477, 2, none⟩ = some (.int .i64 x1478002_1) ∧ w41.cell? ⟨gb1477, 3, none⟩ = some (.slice Ao30 x1478003_1.length co30) ∧ w41.cell? ⟨gb1477, 4, none⟩ = some (.slice Ao31 x1478004_1.length co31) := hS_
    obtain ⟨Ao45, co45, eo45⟩ := Kd.R_slice HO1493.out
    (first | subst eo45 | (injection eo45 with f1_ f2_ f3_; have f4_ := f1_.symm; have f5_ := f3_.symm; clear f1_ f2_ f3_; subst f4_; subst f5_))
    obtain ⟨Ao47, co47, eo47⟩ := Kd.R_slice HO1496.out
    (first | subst eo47 | (injection eo47 with f1_ f2_ f3_; have f4_ := f1_.symm; have f5_ := f3_.symm; clear f1_ f2_ f3_; subst f4_; subst f5_))
    refine norm_ (a' := ?_) ?_ ?_
    rotate_left
    ·simp only [putAll, Act.put, List.setIfInBounds_toArray, List.set_cons_zero, List.set_cons_succ]
     rfl
    refine one_ (i := 14) (N := none) #[true, true, true, true, true, true, true, true, true, true, true, true, true, true, true, false] rfl rfl (one_of HT_.out (by kernel_rfl)) (by decide) (fun K hK => ?_)
    have hs42 : w41.cell? ⟨gb1498, 0, none⟩ = some (.int .i64 0) := (blk_cell BK1498.out 0).trans rfl
    have hfs42 := blk_frozen BK1498.out 0
    have hns42_0 := NB1455_1498.out
    have hns42_1 := NB1477_1498.out
    have hms42_0 := NB1498_1455.out
    have hms42_1 := NB1498_1477.out
    have hs43 : w41.cell? ⟨gb1498, 1, none⟩ = some (.int .i64 0) := (blk_cell BK1498.out 1).trans rfl
    have hfs43 := blk_frozen BK1498.out 1
    have hns43_0 := NB1455_1498.out
    have hns43_1 := NB1477_1498.out
    have hms43_0 := NB1498_1455.out
    have hms43_1 := NB1498_1477.out
    have hs44 : w41.cell? ⟨gb1498, 2, none⟩ = some (.int .i64 0) := (blk_cell BK1498.out 2).trans rfl
    have hfs44 := blk_frozen BK1498.out 2
    have hns44_0 := NB1455_1498.out
    have hns44_1 := NB1477_1498.out
    have hms44_0 := NB1498_1455.out
    have hms44_1 := NB1498_1477.out
    have hs46 : w41.cell? ⟨gb1498, 3, none⟩ = some (.slice none 0 0) := (blk_cell BK1498.out 3).trans rfl
    have hfs46 := blk_frozen BK1498.out 3
    have hns46_0 := NB1455_1498.out
    have hns46_1 := NB1477_1498.out
    have hms46_0 := NB1498_1455.out
    have hms46_1 := NB1498_1477.out
    have hs48 : w41.cell? ⟨gb1498, 4, none⟩ = some (.slice none 0 0) := (blk_cell BK1498.out 4).trans rfl
    have hfs48 := blk_frozen BK1498.out 4
    have hns48_0 := NB1455_1498.out
    have hns48_1 := NB1477_1498.out
    have hms48_0 := NB1498_1455.out
    have hms48_1 := NB1498_1477.out
    refine skip_ (w1 := ?_) (by rfl) rfl ?_ ?_
    rotate_left
    ·go_simp
     rfl
    refine hK.out _ _ ⟨((cell_far (p := ⟨gb1498, _, none⟩) NB1477_1498.out _).trans (((cell_far (p := ⟨gb1498, _, none⟩) NB1477_1498.out _).trans (((cell_far (p := ⟨gb1498, _, none⟩) NB1477_1498.out _).trans (((cell_far (p := ⟨gb1498, _, none⟩) NB1477_1498.out _).trans (((cell_far (p := ⟨gb1498, _, none⟩) NB1477_1498.out _).trans (hHeld.1)))))))))), ((cell_far (p := ⟨gb1498, _, none⟩) NB1477_1498.out _).trans (((cell_far (p := ⟨gb1498, _, none⟩) NB1477_1498.out _).trans (((cell_far (p := ⟨gb1498, _, none⟩) NB1477_1498.out _).trans (((cell_far (p := ⟨gb1498, _, none⟩) NB1477_1498.out _).trans (((cell_far (p := ⟨gb1498, _, none⟩) NB1477_1498.out _).trans (hHeld.2.1)))))))))), ((cell_far (p := ⟨gb1498, _, none⟩) NB1477_1498.out _).trans (((cell_far (p := ⟨gb1498, _, none⟩) NB1477_1498.out _).trans (((cell_far (p := ⟨gb1498, _, none⟩) NB1477_1498.out _).trans (((cell_far (p := ⟨gb1498, _, none⟩) NB1477_1498.out _).trans (((cell_far (p := ⟨gb1498, _, none⟩) NB1477_1498.out _).trans (hHeld.2.2.1)))))))))), ((cell_far (p := ⟨gb1498, _, none⟩) NB1477_1498.out _).trans (((cell_far (p := ⟨gb1498, _, none⟩) NB1477_1498.out _).trans (((cell_far (p := ⟨gb1498, _, none⟩) NB1477_1498.out _).trans (((cell_far (p := ⟨gb1498, _, none⟩) NB1477_1498.out _).trans (((cell_far (p := ⟨gb1498, _, none⟩) NB1477_1498.out _).trans (hHeld.2.2.2.1)))))))))), ((cell_far (p := ⟨gb1498, _, none⟩) NB1477_1498.out _).trans (((cell_far (p := ⟨gb1498, _, none⟩) NB1477_1498.out _).trans (((cell_far (p := ⟨gb1498, _, none⟩) NB1477_1498.out _).trans (((cell_far (p := ⟨gb1498, _, none⟩) NB1477_1498.out _).trans (((cell_far (p := ⟨gb1498, _, none⟩) NB1477_1498.out _).trans (hHeld.2.2.2.2))))))))))⟩ (fun hHeld => ?_)
    clear hK K
    refine pure_ (i := 15) (N := some 6) (v := ?_) (a' := ?_) #[true, true, true, true, true, true, true, true, true, true, true, true, true, true, true, true] rfl rfl (any_of HT_.out (by kernel_rfl)) (fun _ _ _ h => h) (Or.inl ⟨by rfl, ?_⟩) ?_ ?_
    rotate_left
    ·intro w'
     go_simp
     with_reducible rfl
    rotate_left
    ·simp only [Act.put, List.setIfInBounds_toArray, List.set_cons_zero, List.set_cons_succ, i64_w, i32_w]
     rfl
    refine done_ (done_of HT_.out (by kernel_rfl)) ?_
    have hnb49 := NB1498_1455.out
    have hnc49 := NB1455_1498.out
    have hnb50 := NB1498_1477.out
    have hnc50 := NB1477_1498.out
    have hnb51 := NB1498_0.out
    have hnc51 := NB0_1498.out
    obtain ⟨hcz52_0, hcz52_1, hcz52_2, hcz52_3, hcz52_4, hfz52_0, hfz52_1, hfz52_2, hfz52_3, hfz52_4⟩ := zc5 BK1498
    have hnb53 := NB1477_1455.out
    have hnc53 := NB1455_1477.out
    have hnb54 := NB1477_0.out
    have hnc54 := NB0_1477.out
    obtain ⟨hcz55_0, hcz55_1, hcz55_2, hcz55_3, hcz55_4, hfz55_0, hfz55_1, hfz55_2, hfz55_3, hfz55_4⟩ := zc5 BK1477
    try go_wp2
    go_roundg k1
    case measure => have := HK1.out; omega
    case rel => exact ⟨(wrap64 (x4_1 - 1)), (t1486), (t1488), (t1489), (t1490), (t1491), (t1494), (.slice Ao45 t1491.length co45), (.slice Ao47 t1494.length co47), (by first | rfl | (simp; done) | (simp [*]; done)), H', ⟨by have := HK1.out; omega⟩, ⟨by (with_reducible repeat (first | apply Kd.R_alloc | apply Kd.R_drewN | apply Kd.R_drew)); exact Kd.R_mono (Kd.R_far (p := ⟨gb1477, 4, none⟩) (Kd.R_far (p := ⟨gb1477, 3, none⟩) (Kd.R_far (p := ⟨gb1477, 2, none⟩) (Kd.R_far (p := ⟨gb1477, 1, none⟩) (Kd.R_far (p := ⟨gb1477, 0, none⟩) (Kd.R_far (p := ⟨gb1498, 4, none⟩) (Kd.R_far (p := ⟨gb1498, 3, none⟩) (Kd.R_far (p := ⟨gb1498, 2, none⟩) (Kd.R_far (p := ⟨gb1498, 1, none⟩) (Kd.R_far (p := ⟨gb1498, 0, none⟩) (Kd.R_types (Kd.R_types HO1493.out BK1498.out (by decide)) BK1477.out (by decide)) (fun _ hk => hk.1.2) (.int .i64 t1488)) (fun _ hk => hk.1.2) (.int .i64 t1489)) (fun _ hk => hk.1.2) (.int .i64 t1490)) (fun _ hk => hk.1.2) (.slice Ao45 t1491.length co45)) (fun _ hk => hk.1.2) (.slice Ao47 t1494.length co47)) (fun _ hk => hk.2) (.int .i64 t1488)) (fun _ hk => hk.2) (.int .i64 t1489)) (fun _ hk => hk.2) (.int .i64 t1490)) (fun _ hk => hk.2) (.slice Ao45 t1491.length co45)) (fun _ hk => hk.2) (.slice Ao47 t1494.length co47)) (fun _ hk => trivial)⟩, ⟨by (with_reducible repeat (first | apply Kd.R_alloc | apply Kd.R_drewN | apply Kd.R_drew)); exact Kd.R_mono (Kd.R_far (p := ⟨gb1477, 4, none⟩) (Kd.R_far (p := ⟨gb1477, 3, none⟩) (Kd.R_far (p := ⟨gb1477, 2, none⟩) (Kd.R_far (p := ⟨gb1477, 1, none⟩) (Kd.R_far (p := ⟨gb1477, 0, none⟩) (Kd.R_far (p := ⟨gb1498, 4, none⟩) (Kd.R_far (p := ⟨gb1498, 3, none⟩) (Kd.R_far (p := ⟨gb1498, 2, none⟩) (Kd.R_far (p := ⟨gb1498, 1, none⟩) (Kd.R_far (p := ⟨gb1498, 0, none⟩) (Kd.R_types (Kd.R_types HO1496.out BK1498.out (by decide)) BK1477.out (by decide)) (fun _ hk => hk.1.2) (.int .i64 t1488)) (fun _ hk => hk.1.2) (.int .i64 t1489)) (fun _ hk => hk.1.2) (.int .i64 t1490)) (fun _ hk => hk.1.2) (.slice Ao45 t1491.length co45)) (fun _ hk => hk.1.2) (.slice Ao47 t1494.length co47)) (fun _ hk => hk.2) (.int .i64 t1488)) (fun _ hk => hk.2) (.int .i64 t1489)) (fun _ hk => hk.2) (.int .i64 t1490)) (fun _ hk => hk.2) (.slice Ao45 t1491.length co45)) (fun _ hk => hk.2) (.slice Ao47 t1494.length co47)) (fun _ hk => trivial)⟩, ⟨by (with_reducible repeat first | apply bN | apply bD | apply bA); refine blk_far ?_ NB1455_1477.out _; (with_reducible repeat first | apply bN | apply bD | apply bA); refine blk_far ?_ NB1455_1477.out _; (with_reducible repeat first | apply bN | apply bD | apply bA); refine blk_far ?_ NB1455_1477.out _; (with_reducible repeat first | apply bN | apply bD | apply bA); refine blk_far ?_ NB1455_1477.out _; (with_reducible repeat first | apply bN | apply bD | apply bA); refine blk_far ?_ NB1455_1477.out _; (with_reducible repeat first | apply bN | apply bD | apply bA); refine blk_far ?_ NB1455_1498.out _; (with_reducible repeat first | apply bN | apply bD | apply bA); refine blk_far ?_ NB1455_1498.out _; (with_reducible repeat first | apply bN | apply bD | apply bA); refine blk_far ?_ NB1455_1498.out _; (with_reducible repeat first | apply bN | apply bD | apply bA); refine blk_far ?_ NB1455_1498.out _; (with_reducible repeat first | apply bN | apply bD | apply bA); refine blk_far ?_ NB1455_1498.out _; (with_reducible repeat first | apply bN | apply bD | apply bA); exact BK1455.out⟩, ⟨by (with_reducible repeat first | apply bN | apply bD | apply bA); refine blk_put (cs := #[.int .i64 t1488, .int .i64 t1489, .int .i64 t1490, .slice Ao45 t1491.length co45, .slice Ao31 x1478004_1.length co31]) ?_ 4 _ rfl; (with_reducible repeat first | apply bN | apply bD | apply bA); refine blk_put (cs := #[.int .i64 t1488, .int .i64 t1489, .int .i64 t1490, .slice Ao30 x1478003_1.length co30, .slice Ao31 x1478004_1.length co31]) ?_ 3 _ rfl; (with_reducible repeat first | apply bN | apply bD | apply bA); refine blk_put (cs := #[.int .i64 t1488, .int .i64 t1489, .int .i64 x1478002_1, .slice Ao30 x1478003_1.length co30, .slice Ao31 x1478004_1.length co31]) ?_ 2 _ rfl; (with_reducible repeat first | apply bN | apply bD | apply bA); refine blk_put (cs := #[.int .i64 t1488, .int .i64 x1478001_1, .int .i64 x1478002_1, .slice Ao30 x1478003_1.length co30, .slice Ao31 x1478004_1.length co31]) ?_ 1 _ rfl; (with_reducible repeat first | apply bN | apply bD | apply bA); refine blk_put (cs := #[.int .i64 x1478000_1, .int .i64 x1478001_1, .int .i64 x1478002_1, .slice Ao30 x1478003_1.length co30, .slice Ao31 x1478004_1.length co31]) ?_ 0 _ rfl; (with_reducible repeat first | apply bN | apply bD | apply bA); refine blk_far ?_ NB1477_1498.out _; (with_reducible repeat first | apply bN | apply bD | apply bA); refine blk_far ?_ NB1477_1498.out _; (with_reducible repeat first | apply bN | apply bD | apply bA); refine blk_far ?_ NB1477_1498.out _; (with_reducible repeat first | apply bN | apply bD | apply bA); refine blk_far ?_ NB1477_1498.out _; (with_reducible repeat first | apply bN | apply bD | apply bA); refine blk_far ?_ NB1477_1498.out _; (with_reducible repeat first | apply bN | apply bD | apply bA); exact BK1477.out⟩, ⟨by repeat (first | (with_reducible first | exact HI0.out | apply IsS101.alloc | apply IsS101.drewN | apply IsS101.drew | apply IsS101.set_1 | refine IsS101.far ?_ NB0_1455.out _ | refine IsS101.far ?_ NB0_1477.out _ | refine IsS101.far ?_ NB0_1498.out _) | exact HI0.out)⟩, ⟨by repeat (first | (with_reducible first | exact HK.out | apply KeepBut.set_ | apply keep_drewN | apply keep_drew | apply keep_alloc | refine keep_far ?_ GW1455.out _ | refine keep_far ?_ GW1477.out _ | refine keep_far ?_ GW1498.out _) | exact HK.out)⟩, ⟨by repeat (first | (with_reducible first | exact HB.out | apply below_alloc | apply pw_below_drewN | apply below_drew1 | refine below_set ?_ (IsS101.ge HI0.out) | refine below_set ?_ GE1455.out | refine below_set ?_ GE1477.out | refine below_set ?_ GE1498.out) | exact HB.out)⟩⟩
   ·rw [if_neg c25] at H
    have c25b0 : decide (0 < x4_1) = false := decide_eq_false c25
    clear c25
    simp only [Option.some.injEq, Prod.mk.injEq] at H
    obtain ⟨rfl, rfl, rfl, rfl, rfl, rfl⟩ := H
    have hnb56 := NB1477_1455.out
    have hnc56 := NB1455_1477.out
    have hnb57 := NB1477_0.out
    have hnc57 := NB0_1477.out
    obtain ⟨hcz58_0, hcz58_1, hcz58_2, hcz58_3, hcz58_4, hfz58_0, hfz58_1, hfz58_2, hfz58_3, hfz58_4⟩ := zc5 BK1477
    have hnb59 := NB1455_0.out
    have hnc59 := NB0_1455.out
    obtain ⟨hcz60_0, hcz60_1, hcz60_2, hcz60_3, hcz60_4, hfz60_0, hfz60_1, hfz60_2, hfz60_3, hfz60_4⟩ := zc5 BK1455
    obtain ⟨Ao61, co61, eo61⟩ := Kd.R_slice HO_1478003.out
    subst eo61
    obtain ⟨Ao62, co62, eo62⟩ := Kd.R_slice HO_1478004.out
    subst eo62
    go_wp2
    refine bodyPost_ret (results_cell_row rfl _ _ gb1455 60 #[.int .i64 x1478000_1, .int .i64 x1478001_1, .int .i64 x1478002_1, .slice Ao61 x1478003_1.length co61, .slice Ao62 x1478004_1.length co62] (0, 0) _ rfl (by (with_reducible repeat first | apply bN | apply bD | apply bA); refine blk_put (cs := #[.int .i64 x1478000_1, .int .i64 x1478001_1, .int .i64 x1478002_1, .slice Ao61 x1478003_1.length co61, .slice none 0 0]) ?_ 4 _ rfl; (with_reducible repeat first | apply bN | apply bD | apply bA); refine blk_put (cs := #[.int .i64 x1478000_1, .int .i64 x1478001_1, .int .i64 x1478002_1, .slice none 0 0, .slice none 0 0]) ?_ 3 _ rfl; (with_reducible repeat first | apply bN | apply bD | apply bA); refine blk_put (cs := #[.int .i64 x1478000_1, .int .i64 x1478001_1, .int .i64 0, .slice none 0 0, .slice none 0 0]) ?_ 2 _ rfl; (with_reducible repeat first | apply bN | apply bD | apply bA); refine blk_put (cs := #[.int .i64 x1478000_1, .int .i64 0, .int .i64 0, .slice none 0 0, .slice none 0 0]) ?_ 1 _ rfl; (with_reducible repeat first | apply bN | apply bD | apply bA); refine blk_put (cs := #[.int .i64 0, .int .i64 0, .int .i64 0, .slice none 0 0, .slice none 0 0]) ?_ 0 _ rfl; (with_reducible repeat first | apply bN | apply bD | apply bA); exact BK1455.out) Try.underlying60 rfl (by kernel_rfl)) rfl ?_
    exact ⟨_, _, by first | rfl | (simp [errW_none, errW_some] <;> rfl) | (simp [*, errW_none, errW_some] <;> rfl), by (with_reducible repeat (first | apply Kd.R_alloc | apply Kd.R_drewN | apply Kd.R_drew)); exact Kd.R_mono (Kd.R_far (p := ⟨gb1455, 4, none⟩) (Kd.R_far (p := ⟨gb1455, 3, none⟩) (Kd.R_far (p := ⟨gb1455, 2, none⟩) (Kd.R_far (p := ⟨gb1455, 1, none⟩) (Kd.R_far (p := ⟨gb1455, 0, none⟩) (Kd.R_types HO_1478003.out BK1455.out (by decide)) (fun _ hk => hk.2) (.int .i64 x1478000_1)) (fun _ hk => hk.2) (.int .i64 x1478001_1)) (fun _ hk => hk.2) (.int .i64 x1478002_1)) (fun _ hk => hk.2) (.slice Ao61 x1478003_1.length co61)) (fun _ hk => hk.2) (.slice Ao62 x1478004_1.length co62)) (fun _ hk => trivial), by (with_reducible repeat (first | apply Kd.R_alloc | apply Kd.R_drewN | apply Kd.R_drew)); exact Kd.R_mono (Kd.R_far (p := ⟨gb1455, 4, none⟩) (Kd.R_far (p := ⟨gb1455, 3, none⟩) (Kd.R_far (p := ⟨gb1455, 2, none⟩) (Kd.R_far (p := ⟨gb1455, 1, none⟩) (Kd.R_far (p := ⟨gb1455, 0, none⟩) (Kd.R_types HO_1478004.out BK1455.out (by decide)) (fun _ hk => hk.2) (.int .i64 x1478000_1)) (fun _ hk => hk.2) (.int .i64 x1478001_1)) (fun _ hk => hk.2) (.int .i64 x1478002_1)) (fun _ hk => hk.2) (.slice Ao61 x1478003_1.length co61)) (fun _ hk => hk.2) (.slice Ao62 x1478004_1.length co62)) (fun _ hk => trivial), by repeat (first | (with_reducible first | exact HI0.out | apply IsS101.alloc | apply IsS101.drewN | apply IsS101.drew | apply IsS101.set_1 | refine IsS101.far ?_ NB0_1455.out _ | refine IsS101.far ?_ NB0_1477.out _) | exact HI0.out), by repeat (first | (with_reducible first | exact HB.out | apply below_alloc | apply pw_below_drewN | apply below_drew1 | refine below_set ?_ (IsS101.ge HI0.out) | refine below_set ?_ GE1455.out | refine below_set ?_ GE1477.out) | exact HB.out), by repeat (first | (with_reducible first | exact HK.out | apply KeepBut.set_ | apply keep_drewN | apply keep_drew | apply keep_alloc | refine keep_far ?_ GW1455.out _ | refine keep_far ?_ GW1477.out _) | exact HK.out)⟩

end Go.Proofs.Ytcobkligpdaanaa.Q
