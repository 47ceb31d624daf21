/- The machine's side of this seat's laws: Go functions as Lean functions, and their contracts. By a program of this work over the kit's print. -/
import Derived.Test.YtjengfiaphgjbaaQ0
import Derived.Test.YtjengfiaphgjbaaQ1
import Derived.Test.YtjengfiaphgjbaaQ3
namespace Go.Proofs.Ytjengfiaphgjbaa.Q
open Go.RowKit Go.Proofs.YtjengfiaphgjbaaW.PrintWords Go.Proofs.YtjengfiaphgjbaaW.PrintLast Go.Proofs.YtjengfiaphgjbaaW.PrintMore
attribute [local go_sem] max2_int min2_int max_two min_two max_three min_three max_four min_four Go.Proofs.YtjengfiaphgjbaaN.not_i64 Go.Proofs.YtjengfiaphgjbaaN.isSome_setCell   -- for this text's walks alone
set_option linter.unusedVariables false
set_option linter.unusedSimpArgs false

/-! ### spec_l2Meet: function 20 -/
mutual
def spec_l2Meet.j0 : Nat → Int → Int → Int → Int → Int → Int → Int → Int → Option (Int × Int × Int × Int × Bool)
 | 0, _, _, _, _, _, _, _, _ => none
 | k + 1, x119000, x119001, x119002, x119003, x121000, x121001, x121002, x121003 => if x119001 < x121001 then (spec_l2Meet.j1 k x121000 x119001 x121002 x121003) else (spec_l2Meet.j1 k x121000 x121001 x121002 x121003)
def spec_l2Meet.j1 : Nat → Int → Int → Int → Int → Option (Int × Int × Int × Int × Bool)
 | 0, _, _, _, _ => none
 | k + 1, x121000, x121001, x121002, x121003 => if x121000 > x121001 then (some (1, 0, 0, 0, false)) else ((spec_l2Some.f k x121000 x121001 x121002 x121003).bind fun t121 => (if t121 = true then ((spec_l2Tidy.f k x121000 x121001 x121002 x121003).bind fun bt122 => (some (bt122.1, bt122.2.1, bt122.2.2.1, bt122.2.2.2, true))) else (some (1, 0, 0, 0, false))))
end
def spec_l2Meet.f (k : Nat) (a0_0 : Int) (a0_1 : Int) (a0_2 : Int) (a0_3 : Int) (a1_0 : Int) (a1_1 : Int) (a1_2 : Int) (a1_3 : Int) : Option (Int × Int × Int × Int × Bool) := if (Go.bits .and .i64 (Go.bits .and .i64 (Go.bits .xor .i64 4294967295 a0_3) (Go.bits .xor .i64 4294967295 a1_3)) (Go.bits .xor .i64 a0_2 a1_2)) = 0 then (if a1_0 > a0_0 then (spec_l2Meet.j0 k a1_0 a1_1 a1_2 a1_3 a1_0 a0_1 (Go.bits .or .i64 a0_2 a1_2) (Go.bits .and .i64 a0_3 a1_3)) else (spec_l2Meet.j0 k a1_0 a1_1 a1_2 a1_3 a0_0 a0_1 (Go.bits .or .i64 a0_2 a1_2) (Go.bits .and .i64 a0_3 a1_3))) else (some (1, 0, 0, 0, false))


set_option maxHeartbeats 8000000 in
set_option maxRecDepth 100000 in
theorem spec_l2Meet.calls (k : Nat) (a0_0 : Int) (a0_1 : Int) (a0_2 : Int) (a0_3 : Int) (a1_0 : Int) (a1_1 : Int) (a1_2 : Int) (a1_3 : Int) (r1 : Int) (r2 : Int) (r3 : Int) (r4 : Int) (r5 : Bool) (w : World) (h : spec_l2Meet.f k a0_0 a0_1 a0_2 a0_3 a1_0 a1_1 a1_2 a1_3 = some (r1, r2, r3, r4, r5)) :
  Calls Try.prog 20 #[.agg #[.int .i64 a0_0, .int .i64 a0_1, .int .i64 a0_2, .int .i64 a0_3], .agg #[.int .i64 a1_0, .int .i64 a1_1, .int .i64 a1_2, .int .i64 a1_3]] w fun e w' => e = .returned (.tuple #[.agg #[.int .i64 r1, .int .i64 r2, .int .i64 r3, .int .i64 r4], .bool r5]) ∧ Below w.heap.size w w' := by
 have hu24 := Try.underlying24
 have HB := Aside0.mk (Below.refl w.heap.size w)
 have H : (if (Go.bits .and .i64 (Go.bits .and .i64 (Go.bits .xor .i64 4294967295 a0_3) (Go.bits .xor .i64 4294967295 a1_3)) (Go.bits .xor .i64 a0_2 a1_2)) = 0 then (if a1_0 > a0_0 then (spec_l2Meet.j0 k a1_0 a1_1 a1_2 a1_3 a1_0 a0_1 (Go.bits .or .i64 a0_2 a1_2) (Go.bits .and .i64 a0_3 a1_3)) else (spec_l2Meet.j0 k a1_0 a1_1 a1_2 a1_3 a0_0 a0_1 (Go.bits .or .i64 a0_2 a1_2) (Go.bits .and .i64 a0_3 a1_3))) else (some (1, 0, 0, 0, false))) = some (r1, r2, r3, r4, r5) := h
 clear h
 have AC_spec_l2Top := Aside0.mk (show spec_l2Top.f = some 4294967295 from rfl)
 have AC_spec_l2Top := Aside0.mk (show spec_l2Top.f = some 4294967295 from rfl)
 by_cases c3 : (Go.bits .and .i64 (Go.bits .and .i64 (Go.bits .xor .i64 4294967295 a0_3) (Go.bits .xor .i64 4294967295 a1_3)) (Go.bits .xor .i64 a0_2 a1_2)) = 0
 ·rw [if_pos c3] at H
  have c3b0 : ((Go.bits .and .i64 (Go.bits .and .i64 (Go.bits .xor .i64 4294967295 a0_3) (Go.bits .xor .i64 4294967295 a1_3)) (Go.bits .xor .i64 a0_2 a1_2)) == 0) = true := beq_iff_eq.mpr c3
  have c3b1 : ((Go.bits .and .i64 (Go.bits .and .i64 (Go.bits .xor .i64 4294967295 a0_3) (Go.bits .xor .i64 4294967295 a1_3)) (Go.bits .xor .i64 a0_2 a1_2)) != 0) = false := bne_eq_false_iff_eq.mpr c3
  clear c3
  have HC4 := Aside0.mk H
  clear H
  go_enter Try.func20, Try.ntmps20
  go_upto_if 45 with (first | ((with_reducible refine gate_dst (N := 2) rfl ?_); refine be 2 #[.int .i64 a0_0, .int .i64 a0_1, .int .i64 a0_2, .int .i64 a0_3] 24 ?_; intro gb117 hg w5 hbox hb; have BK117 := Aside0.mk hbox; have GW117 := zW hg; replace HB := zS hb; have GE117 := GW117; clear hb hbox hg) | ((with_reducible refine gate_dst (N := 3) rfl ?_); refine be 3 #[.int .i64 a1_0, .int .i64 a1_1, .int .i64 a1_2, .int .i64 a1_3] 24 ?_; intro gb118 hg w6 hbox hb; have BK118 := Aside0.mk hbox; have GW118 := zW hg; replace HB := zS hb; have GE118 := GW118; have NB117_118 := zl BK117 hg rfl; have NB118_117 := zg BK117 hg rfl; replace BK117 := zb BK117 hb rfl; clear hb hbox hg) | ((with_reducible refine gate_dst (N := 4) rfl ?_); refine be 4 #[.int .i64 0, .int .i64 0, .int .i64 0, .int .i64 0] 24 ?_; intro gb119 hg w7 hbox hb; have BK119 := Aside0.mk hbox; have GW119 := zW hg; replace HB := zS hb; have GE119 := GW119; have NB117_119 := zl BK117 hg rfl; have NB119_117 := zg BK117 hg rfl; replace BK117 := zb BK117 hb rfl; have NB118_119 := zl BK118 hg rfl; have NB119_118 := zg BK118 hg rfl; replace BK118 := zb BK118 hb rfl; clear hb hbox hg) | (go_at_call 18; (with_reducible refine (spec_l2Top.calls  4294967295 _ AC_spec_l2Top.out).mono ?_); rintro e w' ⟨rfl, ⟨nd, rfl⟩⟩; (try first | exact ⟨rfl, _, World.drewN_drewN _ _ _⟩ | exact ⟨rfl, _, Eq.trans (World.drewN_drewN _ _ _) (congrArg (World.drewN _) (Nat.add_assoc _ _ _))⟩); (try (have hnb8 := NB117_118.out)); (try (have hnc8 := NB118_117.out)); (try (have hnb9 := NB117_119.out)); (try (have hnc9 := NB119_117.out)); (try (have hcz10_0 : w7.cell? ⟨gb117, 0, none⟩ = some (.int .i64 a0_0) := (blk_cell BK117.out 0).trans rfl)); (try (have hcz10_1 : w7.cell? ⟨gb117, 1, none⟩ = some (.int .i64 a0_1) := (blk_cell BK117.out 1).trans rfl)); (try (have hcz10_2 : w7.cell? ⟨gb117, 2, none⟩ = some (.int .i64 a0_2) := (blk_cell BK117.out 2).trans rfl)); (try (have hcz10_3 : w7.cell? ⟨gb117, 3, none⟩ = some (.int .i64 a0_3) := (blk_cell BK117.out 3).trans rfl)); (try (have hfz10_0 := blk_frozen BK117.out 0)); (try (have hfz10_1 := blk_frozen BK117.out 1)); (try (have hfz10_2 := blk_frozen BK117.out 2)); (try (have hfz10_3 := blk_frozen BK117.out 3)); (try (have hnb11 := NB118_119.out)); (try (have hnc11 := NB119_118.out)); (try (have hcz12_0 : w7.cell? ⟨gb118, 0, none⟩ = some (.int .i64 a1_0) := (blk_cell BK118.out 0).trans rfl)); (try (have hcz12_1 : w7.cell? ⟨gb118, 1, none⟩ = some (.int .i64 a1_1) := (blk_cell BK118.out 1).trans rfl)); (try (have hcz12_2 : w7.cell? ⟨gb118, 2, none⟩ = some (.int .i64 a1_2) := (blk_cell BK118.out 2).trans rfl)); (try (have hcz12_3 : w7.cell? ⟨gb118, 3, none⟩ = some (.int .i64 a1_3) := (blk_cell BK118.out 3).trans rfl)); (try (have hfz12_0 := blk_frozen BK118.out 0)); (try (have hfz12_1 := blk_frozen BK118.out 1)); (try (have hfz12_2 := blk_frozen BK118.out 2)); (try (have hfz12_3 := blk_frozen BK118.out 3))) | ((with_reducible refine gate_dst (N := 7) rfl ?_); refine be 7 #[.int .i64 0, .int .i64 0, .int .i64 0, .int .i64 0] 24 ?_; intro gb120 hg w13 hbox hb; have BK120 := Aside0.mk hbox; have GW120 := zW hg; replace HB := zS hb; have GE120 := GW120; have NB117_120 := zl BK117 hg rfl; have NB120_117 := zg BK117 hg rfl; replace BK117 := zb BK117 hb rfl; have NB118_120 := zl BK118 hg rfl; have NB120_118 := zg BK118 hg rfl; replace BK118 := zb BK118 hb rfl; have NB119_120 := zl BK119 hg rfl; have NB120_119 := zg BK119 hg rfl; replace BK119 := zb BK119 hb rfl; clear hb hbox hg; have hnb14 := NB120_117.out; have hnc14 := NB117_120.out; have hnb15 := NB120_118.out; have hnc15 := NB118_120.out; have hnb16 := NB120_119.out; have hnc16 := NB119_120.out; obtain ⟨hcz17_0, hcz17_1, hcz17_2, hcz17_3, hfz17_0, hfz17_1, hfz17_2, hfz17_3⟩ := zc4 BK120; obtain ⟨hcz18_0, hcz18_1, hcz18_2, hcz18_3, hfz18_0, hfz18_1, hfz18_2, hfz18_3⟩ := zc4 BK118))
  repeat (go_quiet (first | ((with_reducible refine gate_dst (N := 2) rfl ?_); refine be 2 #[.int .i64 a0_0, .int .i64 a0_1, .int .i64 a0_2, .int .i64 a0_3] 24 ?_; intro gb117 hg w5 hbox hb; have BK117 := Aside0.mk hbox; have GW117 := zW hg; replace HB := zS hb; have GE117 := GW117; clear hb hbox hg) | ((with_reducible refine gate_dst (N := 3) rfl ?_); refine be 3 #[.int .i64 a1_0, .int .i64 a1_1, .int .i64 a1_2, .int .i64 a1_3] 24 ?_; intro gb118 hg w6 hbox hb; have BK118 := Aside0.mk hbox; have GW118 := zW hg; replace HB := zS hb; have GE118 := GW118; have NB117_118 := zl BK117 hg rfl; have NB118_117 := zg BK117 hg rfl; replace BK117 := zb BK117 hb rfl; clear hb hbox hg) | ((with_reducible refine gate_dst (N := 4) rfl ?_); refine be 4 #[.int .i64 0, .int .i64 0, .int .i64 0, .int .i64 0] 24 ?_; intro gb119 hg w7 hbox hb; have BK119 := Aside0.mk hbox; have GW119 := zW hg; replace HB := zS hb; have GE119 := GW119; have NB117_119 := zl BK117 hg rfl; have NB119_117 := zg BK117 hg rfl; replace BK117 := zb BK117 hb rfl; have NB118_119 := zl BK118 hg rfl; have NB119_118 := zg BK118 hg rfl; replace BK118 := zb BK118 hb rfl; clear hb hbox hg) | (go_at_call 18; (with_reducible refine (spec_l2Top.calls  4294967295 _ AC_spec_l2Top.out).mono ?_); rintro e w' ⟨rfl, ⟨nd, rfl⟩⟩; (try first | exact ⟨rfl, _, World.drewN_drewN _ _ _⟩ | exact ⟨rfl, _, Eq.trans (World.drewN_drewN _ _ _) (congrArg (World.drewN _) (Nat.add_assoc _ _ _))⟩); (try (have hnb8 := NB117_118.out)); (try (have hnc8 := NB118_117.out)); (try (have hnb9 := NB117_119.out)); (try (have hnc9 := NB119_117.out)); (try (have hcz10_0 : w7.cell? ⟨gb117, 0, none⟩ = some (.int .i64 a0_0) := (blk_cell BK117.out 0).trans rfl)); (try (have hcz10_1 : w7.cell? ⟨gb117, 1, none⟩ = some (.int .i64 a0_1) := (blk_cell BK117.out 1).trans rfl)); (try (have hcz10_2 : w7.cell? ⟨gb117, 2, none⟩ = some (.int .i64 a0_2) := (blk_cell BK117.out 2).trans rfl)); (try (have hcz10_3 : w7.cell? ⟨gb117, 3, none⟩ = some (.int .i64 a0_3) := (blk_cell BK117.out 3).trans rfl)); (try (have hfz10_0 := blk_frozen BK117.out 0)); (try (have hfz10_1 := blk_frozen BK117.out 1)); (try (have hfz10_2 := blk_frozen BK117.out 2)); (try (have hfz10_3 := blk_frozen BK117.out 3)); (try (have hnb11 := NB118_119.out)); (try (have hnc11 := NB119_118.out)); (try (have hcz12_0 : w7.cell? ⟨gb118, 0, none⟩ = some (.int .i64 a1_0) := (blk_cell BK118.out 0).trans rfl)); (try (have hcz12_1 : w7.cell? ⟨gb118, 1, none⟩ = some (.int .i64 a1_1) := (blk_cell BK118.out 1).trans rfl)); (try (have hcz12_2 : w7.cell? ⟨gb118, 2, none⟩ = some (.int .i64 a1_2) := (blk_cell BK118.out 2).trans rfl)); (try (have hcz12_3 : w7.cell? ⟨gb118, 3, none⟩ = some (.int .i64 a1_3) := (blk_cell BK118.out 3).trans rfl)); (try (have hfz12_0 := blk_frozen BK118.out 0)); (try (have hfz12_1 := blk_frozen BK118.out 1)); (try (have hfz12_2 := blk_frozen BK118.out 2)); (try (have hfz12_3 := blk_frozen BK118.out 3))) | ((with_reducible refine gate_dst (N := 7) rfl ?_); refine be 7 #[.int .i64 0, .int .i64 0, .int .i64 0, .int .i64 0] 24 ?_; intro gb120 hg w13 hbox hb; have BK120 := Aside0.mk hbox; have GW120 := zW hg; replace HB := zS hb; have GE120 := GW120; have NB117_120 := zl BK117 hg rfl; have NB120_117 := zg BK117 hg rfl; replace BK117 := zb BK117 hb rfl; have NB118_120 := zl BK118 hg rfl; have NB120_118 := zg BK118 hg rfl; replace BK118 := zb BK118 hb rfl; have NB119_120 := zl BK119 hg rfl; have NB120_119 := zg BK119 hg rfl; replace BK119 := zb BK119 hb rfl; clear hb hbox hg; have hnb14 := NB120_117.out; have hnc14 := NB117_120.out; have hnb15 := NB120_118.out; have hnc15 := NB118_120.out; have hnb16 := NB120_119.out; have hnc16 := NB119_120.out; obtain ⟨hcz17_0, hcz17_1, hcz17_2, hcz17_3, hfz17_0, hfz17_1, hfz17_2, hfz17_3⟩ := zc4 BK120; obtain ⟨hcz18_0, hcz18_1, hcz18_2, hcz18_3, hfz18_0, hfz18_1, hfz18_2, hfz18_3⟩ := zc4 BK118)); go_upto_if 45 with (first | ((with_reducible refine gate_dst (N := 2) rfl ?_); refine be 2 #[.int .i64 a0_0, .int .i64 a0_1, .int .i64 a0_2, .int .i64 a0_3] 24 ?_; intro gb117 hg w5 hbox hb; have BK117 := Aside0.mk hbox; have GW117 := zW hg; replace HB := zS hb; have GE117 := GW117; clear hb hbox hg) | ((with_reducible refine gate_dst (N := 3) rfl ?_); refine be 3 #[.int .i64 a1_0, .int .i64 a1_1, .int .i64 a1_2, .int .i64 a1_3] 24 ?_; intro gb118 hg w6 hbox hb; have BK118 := Aside0.mk hbox; have GW118 := zW hg; replace HB := zS hb; have GE118 := GW118; have NB117_118 := zl BK117 hg rfl; have NB118_117 := zg BK117 hg rfl; replace BK117 := zb BK117 hb rfl; clear hb hbox hg) | ((with_reducible refine gate_dst (N := 4) rfl ?_); refine be 4 #[.int .i64 0, .int .i64 0, .int .i64 0, .int .i64 0] 24 ?_; intro gb119 hg w7 hbox hb; have BK119 := Aside0.mk hbox; have GW119 := zW hg; replace HB := zS hb; have GE119 := GW119; have NB117_119 := zl BK117 hg rfl; have NB119_117 := zg BK117 hg rfl; replace BK117 := zb BK117 hb rfl; have NB118_119 := zl BK118 hg rfl; have NB119_118 := zg BK118 hg rfl; replace BK118 := zb BK118 hb rfl; clear hb hbox hg) | (go_at_call 18; (with_reducible refine (spec_l2Top.calls  4294967295 _ AC_spec_l2Top.out).mono ?_); rintro e w' ⟨rfl, ⟨nd, rfl⟩⟩; (try first | exact ⟨rfl, _, World.drewN_drewN _ _ _⟩ | exact ⟨rfl, _, Eq.trans (World.drewN_drewN _ _ _) (congrArg (World.drewN _) (Nat.add_assoc _ _ _))⟩); (try (have hnb8 := NB117_118.out)); (try (have hnc8 := NB118_117.out)); (try (have hnb9 := NB117_119.out)); (try (have hnc9 := NB119_117.out)); (try (have hcz10_0 : w7.cell? ⟨gb117, 0, none⟩ = some (.int .i64 a0_0) := (blk_cell BK117.out 0).trans rfl)); (try (have hcz10_1 : w7.cell? ⟨gb117, 1, none⟩ = some (.int .i64 a0_1) := (blk_cell BK117.out 1).trans rfl)); (try (have hcz10_2 : w7.cell? ⟨gb117, 2, none⟩ = some (.int .i64 a0_2) := (blk_cell BK117.out 2).trans rfl)); (try (have hcz10_3 : w7.cell? ⟨gb117, 3, none⟩ = some (.int .i64 a0_3) := (blk_cell BK117.out 3).trans rfl)); (try (have hfz10_0 := blk_frozen BK117.out 0)); (try (have hfz10_1 := blk_frozen BK117.out 1)); (try (have hfz10_2 := blk_frozen BK117.out 2)); (try (have hfz10_3 := blk_frozen BK117.out 3)); (try (have hnb11 := NB118_119.out)); (try (have hnc11 := NB119_118.out)); (try (have hcz12_0 : w7.cell? ⟨gb118, 0, none⟩ = some (.int .i64 a1_0) := (blk_cell BK118.out 0).trans rfl)); (try (have hcz12_1 : w7.cell? ⟨gb118, 1, none⟩ = some (.int .i64 a1_1) := (blk_cell BK118.out 1).trans rfl)); (try (have hcz12_2 : w7.cell? ⟨gb118, 2, none⟩ = some (.int .i64 a1_2) := (blk_cell BK118.out 2).trans rfl)); (try (have hcz12_3 : w7.cell? ⟨gb118, 3, none⟩ = some (.int .i64 a1_3) := (blk_cell BK118.out 3).trans rfl)); (try (have hfz12_0 := blk_frozen BK118.out 0)); (try (have hfz12_1 := blk_frozen BK118.out 1)); (try (have hfz12_2 := blk_frozen BK118.out 2)); (try (have hfz12_3 := blk_frozen BK118.out 3))) | ((with_reducible refine gate_dst (N := 7) rfl ?_); refine be 7 #[.int .i64 0, .int .i64 0, .int .i64 0, .int .i64 0] 24 ?_; intro gb120 hg w13 hbox hb; have BK120 := Aside0.mk hbox; have GW120 := zW hg; replace HB := zS hb; have GE120 := GW120; have NB117_120 := zl BK117 hg rfl; have NB120_117 := zg BK117 hg rfl; replace BK117 := zb BK117 hb rfl; have NB118_120 := zl BK118 hg rfl; have NB120_118 := zg BK118 hg rfl; replace BK118 := zb BK118 hb rfl; have NB119_120 := zl BK119 hg rfl; have NB120_119 := zg BK119 hg rfl; replace BK119 := zb BK119 hb rfl; clear hb hbox hg; have hnb14 := NB120_117.out; have hnc14 := NB117_120.out; have hnb15 := NB120_118.out; have hnc15 := NB118_120.out; have hnb16 := NB120_119.out; have hnc16 := NB119_120.out; obtain ⟨hcz17_0, hcz17_1, hcz17_2, hcz17_3, hfz17_0, hfz17_1, hfz17_2, hfz17_3⟩ := zc4 BK120; obtain ⟨hcz18_0, hcz18_1, hcz18_2, hcz18_3, hfz18_0, hfz18_1, hfz18_2, hfz18_3⟩ := zc4 BK118)))
  (try simp only [Act.put, List.setIfInBounds_toArray, List.set_cons_zero, List.set_cons_succ])
  go_cut [] (fun wc => ∃ (kq : Nat) (x121000_3 : Int), Aside0 (spec_l2Meet.j0 kq a1_0 a1_1 a1_2 a1_3 x121000_3 a0_1 (Go.bits .or .i64 a0_2 a1_2) (Go.bits .and .i64 a0_3 a1_3) = some (r1, r2, r3, r4, r5)) ∧ Aside0 (kq ≤ k) ∧ Aside0 (wc.heap[gb117]? = some (.cells #[.int .i64 a0_0, .int .i64 a0_1, .int .i64 a0_2, .int .i64 a0_3] 24 (0, 0))) ∧ Aside0 (wc.heap[gb118]? = some (.cells #[.int .i64 a1_0, .int .i64 a1_1, .int .i64 a1_2, .int .i64 a1_3] 24 (0, 0))) ∧ Aside0 (wc.heap[gb119]? = some (.cells #[.int .i64 0, .int .i64 0, .int .i64 0, .int .i64 0] 24 (0, 0))) ∧ Aside0 (wc.heap[gb120]? = some (.cells #[.int .i64 x121000_3, .int .i64 a0_1, .int .i64 (Go.bits .or .i64 a0_2 a1_2), .int .i64 (Go.bits .and .i64 a0_3 a1_3)] 24 (0, 0))) ∧ Aside0 (Below w.heap.size w wc))
  case first =>
   have H := HC4.out
   clear HC4
   by_cases c19 : a1_0 > a0_0
   ·rw [if_pos c19] at H
    have c19b0 : decide (a0_0 < a1_0) = true := decide_eq_true c19
    clear c19
    (first | rw [c19b0] | (simp only [i64_w, i32_w]; rw [c19b0]) | skip)
    have H' := Aside0.mk H
    clear H
    have hnb20 := NB118_117.out
    have hnc20 := NB117_118.out
    have hnb21 := NB118_119.out
    have hnc21 := NB119_118.out
    have hnb22 := NB118_120.out
    have hnc22 := NB120_118.out
    obtain ⟨hcz23_0, hcz23_1, hcz23_2, hcz23_3, hfz23_0, hfz23_1, hfz23_2, hfz23_3⟩ := zc4 BK118
    have hnb24 := NB120_117.out
    have hnc24 := NB117_120.out
    have hnb25 := NB120_119.out
    have hnc25 := NB119_120.out
    obtain ⟨hcz26_0, hcz26_1, hcz26_2, hcz26_3, hfz26_0, hfz26_1, hfz26_2, hfz26_3⟩ := zc4 BK120
    go_wp2
    repeat (go_quiet (fail); try go_wp2)
    go_meet
    case rel => exact ⟨_, (a1_0), H', ⟨by first | omega | exact Nat.le_refl _⟩, ⟨by refine fq ?_ NB117_120.out; refine fq ?_ NB117_120.out; refine fq ?_ NB117_120.out; refine fq ?_ NB117_120.out; refine fq ?_ NB117_120.out; exact bq BK117.out⟩, ⟨by refine fq ?_ NB118_120.out; refine fq ?_ NB118_120.out; refine fq ?_ NB118_120.out; refine fq ?_ NB118_120.out; refine fq ?_ NB118_120.out; exact bq BK118.out⟩, ⟨by refine fq ?_ NB119_120.out; refine fq ?_ NB119_120.out; refine fq ?_ NB119_120.out; refine fq ?_ NB119_120.out; refine fq ?_ NB119_120.out; exact bq BK119.out⟩, ⟨by refine bq ?_; refine blk_put (cs := #[.int .i64 a0_0, .int .i64 a0_1, .int .i64 (Go.bits .or .i64 a0_2 a1_2), .int .i64 (Go.bits .and .i64 a0_3 a1_3)]) ?_ 0 _ rfl; refine bq ?_; refine blk_put (cs := #[.int .i64 a0_0, .int .i64 a0_1, .int .i64 (Go.bits .or .i64 a0_2 a1_2), .int .i64 0]) ?_ 3 _ rfl; refine bq ?_; refine blk_put (cs := #[.int .i64 a0_0, .int .i64 a0_1, .int .i64 0, .int .i64 0]) ?_ 2 _ rfl; refine bq ?_; refine blk_put (cs := #[.int .i64 a0_0, .int .i64 0, .int .i64 0, .int .i64 0]) ?_ 1 _ rfl; refine bq ?_; refine blk_put (cs := #[.int .i64 0, .int .i64 0, .int .i64 0, .int .i64 0]) ?_ 0 _ rfl; exact bq BK120.out⟩, ⟨zB⟩⟩
   ·rw [if_neg c19] at H
    have c19b0 : decide (a0_0 < a1_0) = false := decide_eq_false c19
    clear c19
    (first | rw [c19b0] | (simp only [i64_w, i32_w]; rw [c19b0]) | skip)
    have H' := Aside0.mk H
    clear H
    go_wp2
    repeat (go_quiet (fail); try go_wp2)
    go_meet
    case rel => exact ⟨_, (a0_0), H', ⟨by first | omega | exact Nat.le_refl _⟩, ⟨by refine fq ?_ NB117_120.out; refine fq ?_ NB117_120.out; refine fq ?_ NB117_120.out; refine fq ?_ NB117_120.out; exact bq BK117.out⟩, ⟨by refine fq ?_ NB118_120.out; refine fq ?_ NB118_120.out; refine fq ?_ NB118_120.out; refine fq ?_ NB118_120.out; exact bq BK118.out⟩, ⟨by refine fq ?_ NB119_120.out; refine fq ?_ NB119_120.out; refine fq ?_ NB119_120.out; refine fq ?_ NB119_120.out; exact bq BK119.out⟩, ⟨by refine bq ?_; refine blk_put (cs := #[.int .i64 a0_0, .int .i64 a0_1, .int .i64 (Go.bits .or .i64 a0_2 a1_2), .int .i64 0]) ?_ 3 _ rfl; refine bq ?_; refine blk_put (cs := #[.int .i64 a0_0, .int .i64 a0_1, .int .i64 0, .int .i64 0]) ?_ 2 _ rfl; refine bq ?_; refine blk_put (cs := #[.int .i64 a0_0, .int .i64 0, .int .i64 0, .int .i64 0]) ?_ 1 _ rfl; refine bq ?_; refine blk_put (cs := #[.int .i64 0, .int .i64 0, .int .i64 0, .int .i64 0]) ?_ 0 _ rfl; exact bq BK120.out⟩, ⟨zB⟩⟩
  case rest =>
   clear HC4
   try clear c1
   try clear c2
   try clear p2
   try clear c3
   try clear c3b0
   try clear c3b1
   try clear c8
   try clear c9
   try clear c11
   try clear c14
   try clear c15
   try clear c16
   try clear c19
   try clear c19b0
   try clear c20
   try clear c21
   try clear c22
   try clear c24
   try clear c25
   try clear hcz10_0 hcz10_1 hcz10_2 hcz10_3 hfz10_0 hfz10_1 hfz10_2 hfz10_3
   try clear hcz12_0 hcz12_1 hcz12_2 hcz12_3 hfz12_0 hfz12_1 hfz12_2 hfz12_3
   try clear hcz17_0 hcz17_1 hcz17_2 hcz17_3 hfz17_0 hfz17_1 hfz17_2 hfz17_3
   try clear hcz18_0 hcz18_1 hcz18_2 hcz18_3 hfz18_0 hfz18_1 hfz18_2 hfz18_3
   try clear hcz23_0 hcz23_1 hcz23_2 hcz23_3 hfz23_0 hfz23_1 hfz23_2 hfz23_3
   try clear hcz26_0 hcz26_1 hcz26_2 hcz26_3 hfz26_0 hfz26_1 hfz26_2 hfz26_3
   obtain ⟨kq, x121000_3, HA, HJ3, BK117, BK118, BK119, BK120, HB⟩ := hcut
   cases kq with
   | zero => exact absurd HA.out (by simp [spec_l2Meet.j0])
   | succ kj3 =>
    have H := HA.out
    clear HA
    simp only [spec_l2Meet.j0] at H
    have HC27 := Aside0.mk H
    clear H
    have hnb28 := NB118_117.out
    have hnc28 := NB117_118.out
    have hnb29 := NB118_119.out
    have hnc29 := NB119_118.out
    have hnb30 := NB118_120.out
    have hnc30 := NB120_118.out
    obtain ⟨hcz31_0, hcz31_1, hcz31_2, hcz31_3, hfz31_0, hfz31_1, hfz31_2, hfz31_3⟩ := zc4 BK118
    have hnb32 := NB120_117.out
    have hnc32 := NB117_120.out
    have hnb33 := NB120_119.out
    have hnc33 := NB119_120.out
    obtain ⟨hcz34_0, hcz34_1, hcz34_2, hcz34_3, hfz34_0, hfz34_1, hfz34_2, hfz34_3⟩ := zc4 BK120
    go_upto_if 53 with (fail)
    repeat (go_quiet (fail); go_upto_if 53 with (fail))
    go_cut [] (fun wc => ∃ (kq : Nat) (x121001_26 : Int), Aside0 (spec_l2Meet.j1 kq x121000_3 x121001_26 (Go.bits .or .i64 a0_2 a1_2) (Go.bits .and .i64 a0_3 a1_3) = some (r1, r2, r3, r4, r5)) ∧ Aside0 (kq ≤ kj3) ∧ Aside0 (wc.heap[gb117]? = some (.cells #[.int .i64 a0_0, .int .i64 a0_1, .int .i64 a0_2, .int .i64 a0_3] 24 (0, 0))) ∧ Aside0 (wc.heap[gb118]? = some (.cells #[.int .i64 a1_0, .int .i64 a1_1, .int .i64 a1_2, .int .i64 a1_3] 24 (0, 0))) ∧ Aside0 (wc.heap[gb119]? = some (.cells #[.int .i64 0, .int .i64 0, .int .i64 0, .int .i64 0] 24 (0, 0))) ∧ Aside0 (wc.heap[gb120]? = some (.cells #[.int .i64 x121000_3, .int .i64 x121001_26, .int .i64 (Go.bits .or .i64 a0_2 a1_2), .int .i64 (Go.bits .and .i64 a0_3 a1_3)] 24 (0, 0))) ∧ Aside0 (Below w.heap.size w wc))
    case first =>
     have H := HC27.out
     clear HC27
     by_cases c35 : a1_1 < a0_1
     ·rw [if_pos c35] at H
      have c35b0 : decide (a1_1 < a0_1) = true := decide_eq_true c35
      clear c35
      (first | rw [c35b0] | (simp only [i64_w, i32_w]; rw [c35b0]) | skip)
      have H' := Aside0.mk H
      clear H
      have hnb36 := NB118_117.out
      have hnc36 := NB117_118.out
      have hnb37 := NB118_119.out
      have hnc37 := NB119_118.out
      have hnb38 := NB118_120.out
      have hnc38 := NB120_118.out
      obtain ⟨hcz39_0, hcz39_1, hcz39_2, hcz39_3, hfz39_0, hfz39_1, hfz39_2, hfz39_3⟩ := zc4 BK118
      have hnb40 := NB120_117.out
      have hnc40 := NB117_120.out
      have hnb41 := NB120_119.out
      have hnc41 := NB119_120.out
      obtain ⟨hcz42_0, hcz42_1, hcz42_2, hcz42_3, hfz42_0, hfz42_1, hfz42_2, hfz42_3⟩ := zc4 BK120
      go_wp2
      repeat (go_quiet (fail); try go_wp2)
      go_meet
      case rel => exact ⟨_, (a1_1), H', ⟨by have := HJ3.out; first | omega | exact Nat.le_refl _⟩, ⟨by refine fq ?_ NB117_120.out; exact bq BK117.out⟩, ⟨by refine fq ?_ NB118_120.out; exact bq BK118.out⟩, ⟨by refine fq ?_ NB119_120.out; exact bq BK119.out⟩, ⟨by refine bq ?_; refine blk_put (cs := #[.int .i64 x121000_3, .int .i64 a0_1, .int .i64 (Go.bits .or .i64 a0_2 a1_2), .int .i64 (Go.bits .and .i64 a0_3 a1_3)]) ?_ 1 _ rfl; exact bq BK120.out⟩, ⟨zB⟩⟩
     ·rw [if_neg c35] at H
      have c35b0 : decide (a1_1 < a0_1) = false := decide_eq_false c35
      clear c35
      (first | rw [c35b0] | (simp only [i64_w, i32_w]; rw [c35b0]) | skip)
      have H' := Aside0.mk H
      clear H
      go_wp2
      repeat (go_quiet (fail); try go_wp2)
      go_meet
      case rel => exact ⟨_, (a0_1), H', ⟨by have := HJ3.out; first | omega | exact Nat.le_refl _⟩, ⟨by exact bq BK117.out⟩, ⟨by exact bq BK118.out⟩, ⟨by exact bq BK119.out⟩, ⟨by exact bq BK120.out⟩, ⟨zB⟩⟩
    case rest =>
     clear HC27
     try clear c1
     try clear c2
     try clear p2 p2
     try clear c3
     try clear c3b0
     try clear c3b1
     try clear c4
     try clear c8
     try clear c9
     try clear c11
     try clear c14
     try clear c15
     try clear c16
     try clear c19
     try clear c19b0
     try clear c20
     try clear c21
     try clear c22
     try clear c24
     try clear c25
     try clear c28
     try clear c29
     try clear c30
     try clear c32
     try clear c33
     try clear c35
     try clear c35b0
     try clear c36
     try clear c37
     try clear c38
     try clear c40
     try clear c41
     try clear hcz10_0 hcz10_1 hcz10_2 hcz10_3 hfz10_0 hfz10_1 hfz10_2 hfz10_3
     try clear hcz12_0 hcz12_1 hcz12_2 hcz12_3 hfz12_0 hfz12_1 hfz12_2 hfz12_3
     try clear hcz17_0 hcz17_1 hcz17_2 hcz17_3 hfz17_0 hfz17_1 hfz17_2 hfz17_3
     try clear hcz18_0 hcz18_1 hcz18_2 hcz18_3 hfz18_0 hfz18_1 hfz18_2 hfz18_3
     try clear hcz23_0 hcz23_1 hcz23_2 hcz23_3 hfz23_0 hfz23_1 hfz23_2 hfz23_3
     try clear hcz26_0 hcz26_1 hcz26_2 hcz26_3 hfz26_0 hfz26_1 hfz26_2 hfz26_3
     try clear hcz31_0 hcz31_1 hcz31_2 hcz31_3 hfz31_0 hfz31_1 hfz31_2 hfz31_3
     try clear hcz34_0 hcz34_1 hcz34_2 hcz34_3 hfz34_0 hfz34_1 hfz34_2 hfz34_3
     try clear hcz39_0 hcz39_1 hcz39_2 hcz39_3 hfz39_0 hfz39_1 hfz39_2 hfz39_3
     try clear hcz42_0 hcz42_1 hcz42_2 hcz42_3 hfz42_0 hfz42_1 hfz42_2 hfz42_3
     obtain ⟨kq, x121001_26, HA, HJ26, BK117, BK118, BK119, BK120, HB⟩ := hcut
     cases kq with
     | zero => exact absurd HA.out (by simp [spec_l2Meet.j1])
     | succ kj26 =>
      have H := HA.out
      clear HA
      simp only [spec_l2Meet.j1] at H
      by_cases c43 : x121000_3 > x121001_26
      ·rw [if_pos c43] at H
       have c43b0 : decide (x121001_26 < x121000_3) = true := decide_eq_true c43
       clear c43
       simp only [Option.some.injEq, Prod.mk.injEq] at H
       obtain ⟨rfl, rfl, rfl, rfl, rfl⟩ := H
       have hnb44 := NB120_117.out
       have hnc44 := NB117_120.out
       have hnb45 := NB120_118.out
       have hnc45 := NB118_120.out
       have hnb46 := NB120_119.out
       have hnc46 := NB119_120.out
       obtain ⟨hcz47_0, hcz47_1, hcz47_2, hcz47_3, hfz47_0, hfz47_1, hfz47_2, hfz47_3⟩ := zc4 BK120
       have hnb48 := NB119_117.out
       have hnc48 := NB117_119.out
       have hnb49 := NB119_118.out
       have hnc49 := NB118_119.out
       obtain ⟨hcz50_0, hcz50_1, hcz50_2, hcz50_3, hfz50_0, hfz50_1, hfz50_2, hfz50_3⟩ := zc4 BK119
       go_wp2
       repeat (go_quiet (fail); try go_wp2)
       refine bodyPost_ret (results_ct rfl _ _ gb119 24 #[.int .i64 1, .int .i64 0, .int .i64 0, .int .i64 0] (0, 0) _ rfl (by refine bq ?_; refine blk_put (cs := #[.int .i64 1, .int .i64 0, .int .i64 0, .int .i64 0]) ?_ 3 _ rfl; refine bq ?_; refine blk_put (cs := #[.int .i64 1, .int .i64 0, .int .i64 0, .int .i64 0]) ?_ 2 _ rfl; refine bq ?_; refine blk_put (cs := #[.int .i64 1, .int .i64 0, .int .i64 0, .int .i64 0]) ?_ 1 _ rfl; refine bq ?_; refine blk_put (cs := #[.int .i64 0, .int .i64 0, .int .i64 0, .int .i64 0]) ?_ 0 _ rfl; exact bq BK119.out) Try.underlying24 rfl (by kernel_rfl)) rfl ?_
       exact ⟨zR, zB⟩
      ·rw [if_neg c43] at H
       have c43b0 : decide (x121001_26 < x121000_3) = false := decide_eq_false c43
       clear c43
       replace H := Option.bind_eq_some_iff.mp H
       obtain ⟨t121, A510, H⟩ := H
       try dsimp only at H
       have A51 := Aside0.mk A510
       clear A510
       by_cases c52 : t121 = true
       ·subst c52
        rw [if_pos rfl] at H
        replace H := Option.bind_eq_some_iff.mp H
        obtain ⟨⟨t122, t123, t124, t125⟩, A530, H⟩ := H
        try dsimp only at H
        have A53 := Aside0.mk A530
        clear A530
        simp only [Option.some.injEq, Prod.mk.injEq] at H
        obtain ⟨rfl, rfl, rfl, rfl, rfl⟩ := H
        have hnb54 := NB120_117.out
        have hnc54 := NB117_120.out
        have hnb55 := NB120_118.out
        have hnc55 := NB118_120.out
        have hnb56 := NB120_119.out
        have hnc56 := NB119_120.out
        obtain ⟨hcz57_0, hcz57_1, hcz57_2, hcz57_3, hfz57_0, hfz57_1, hfz57_2, hfz57_3⟩ := zc4 BK120
        go_wp2_with (first | (go_at_call 10; (with_reducible refine (spec_l2Some.calls kj26 x121000_3 x121001_26 (Go.bits .or .i64 a0_2 a1_2) (Go.bits .and .i64 a0_3 a1_3) true _ A51.out).mono ?_); rintro e w58 ⟨rfl, hb⟩; replace BK117 := zb BK117 hb rfl; replace BK118 := zb BK118 hb rfl; replace BK119 := zb BK119 hb rfl; replace BK120 := zb BK120 hb rfl; replace HB := zS hb; try clear hb; obtain ⟨hcz59_0, hcz59_1, hcz59_2, hcz59_3, hfz59_0, hfz59_1, hfz59_2, hfz59_3⟩ := zc4 BK120) | (go_at_call 12; (with_reducible refine (spec_l2Tidy.calls kj26 x121000_3 x121001_26 (Go.bits .or .i64 a0_2 a1_2) (Go.bits .and .i64 a0_3 a1_3) t122 t123 t124 t125 _ A53.out).mono ?_); rintro e w60 ⟨rfl, hb⟩; replace BK117 := zb BK117 hb rfl; replace BK118 := zb BK118 hb rfl; replace BK119 := zb BK119 hb rfl; replace BK120 := zb BK120 hb rfl; replace HB := zS hb; try clear hb; have hnb61 := NB119_117.out; have hnc61 := NB117_119.out; have hnb62 := NB119_118.out; have hnc62 := NB118_119.out; obtain ⟨hcz63_0, hcz63_1, hcz63_2, hcz63_3, hfz63_0, hfz63_1, hfz63_2, hfz63_3⟩ := zc4 BK119))
        repeat (go_quiet (first | (go_at_call 10; (with_reducible refine (spec_l2Some.calls kj26 x121000_3 x121001_26 (Go.bits .or .i64 a0_2 a1_2) (Go.bits .and .i64 a0_3 a1_3) true _ A51.out).mono ?_); rintro e w58 ⟨rfl, hb⟩; replace BK117 := zb BK117 hb rfl; replace BK118 := zb BK118 hb rfl; replace BK119 := zb BK119 hb rfl; replace BK120 := zb BK120 hb rfl; replace HB := zS hb; try clear hb; obtain ⟨hcz59_0, hcz59_1, hcz59_2, hcz59_3, hfz59_0, hfz59_1, hfz59_2, hfz59_3⟩ := zc4 BK120) | (go_at_call 12; (with_reducible refine (spec_l2Tidy.calls kj26 x121000_3 x121001_26 (Go.bits .or .i64 a0_2 a1_2) (Go.bits .and .i64 a0_3 a1_3) t122 t123 t124 t125 _ A53.out).mono ?_); rintro e w60 ⟨rfl, hb⟩; replace BK117 := zb BK117 hb rfl; replace BK118 := zb BK118 hb rfl; replace BK119 := zb BK119 hb rfl; replace BK120 := zb BK120 hb rfl; replace HB := zS hb; try clear hb; have hnb61 := NB119_117.out; have hnc61 := NB117_119.out; have hnb62 := NB119_118.out; have hnc62 := NB118_119.out; obtain ⟨hcz63_0, hcz63_1, hcz63_2, hcz63_3, hfz63_0, hfz63_1, hfz63_2, hfz63_3⟩ := zc4 BK119)); try go_wp2_with (first | (go_at_call 10; (with_reducible refine (spec_l2Some.calls kj26 x121000_3 x121001_26 (Go.bits .or .i64 a0_2 a1_2) (Go.bits .and .i64 a0_3 a1_3) true _ A51.out).mono ?_); rintro e w58 ⟨rfl, hb⟩; replace BK117 := zb BK117 hb rfl; replace BK118 := zb BK118 hb rfl; replace BK119 := zb BK119 hb rfl; replace BK120 := zb BK120 hb rfl; replace HB := zS hb; try clear hb; obtain ⟨hcz59_0, hcz59_1, hcz59_2, hcz59_3, hfz59_0, hfz59_1, hfz59_2, hfz59_3⟩ := zc4 BK120) | (go_at_call 12; (with_reducible refine (spec_l2Tidy.calls kj26 x121000_3 x121001_26 (Go.bits .or .i64 a0_2 a1_2) (Go.bits .and .i64 a0_3 a1_3) t122 t123 t124 t125 _ A53.out).mono ?_); rintro e w60 ⟨rfl, hb⟩; replace BK117 := zb BK117 hb rfl; replace BK118 := zb BK118 hb rfl; replace BK119 := zb BK119 hb rfl; replace BK120 := zb BK120 hb rfl; replace HB := zS hb; try clear hb; have hnb61 := NB119_117.out; have hnc61 := NB117_119.out; have hnb62 := NB119_118.out; have hnc62 := NB118_119.out; obtain ⟨hcz63_0, hcz63_1, hcz63_2, hcz63_3, hfz63_0, hfz63_1, hfz63_2, hfz63_3⟩ := zc4 BK119)))
        refine bodyPost_ret (results_ct rfl _ _ gb119 24 #[.int .i64 t122, .int .i64 t123, .int .i64 t124, .int .i64 t125] (0, 0) _ rfl (by refine bq ?_; refine blk_put (cs := #[.int .i64 t122, .int .i64 t123, .int .i64 t124, .int .i64 0]) ?_ 3 _ rfl; refine bq ?_; refine blk_put (cs := #[.int .i64 t122, .int .i64 t123, .int .i64 0, .int .i64 0]) ?_ 2 _ rfl; refine bq ?_; refine blk_put (cs := #[.int .i64 t122, .int .i64 0, .int .i64 0, .int .i64 0]) ?_ 1 _ rfl; refine bq ?_; refine blk_put (cs := #[.int .i64 0, .int .i64 0, .int .i64 0, .int .i64 0]) ?_ 0 _ rfl; exact bq BK119.out) Try.underlying24 rfl (by kernel_rfl)) rfl ?_
        exact ⟨zR, zB⟩
       ·replace c52 := Bool.eq_false_iff.mpr c52
        subst c52
        rw [if_neg (show ¬ (false = true) by decide)] at H
        simp only [Option.some.injEq, Prod.mk.injEq] at H
        obtain ⟨rfl, rfl, rfl, rfl, rfl⟩ := H
        have hnb64 := NB120_117.out
        have hnc64 := NB117_120.out
        have hnb65 := NB120_118.out
        have hnc65 := NB118_120.out
        have hnb66 := NB120_119.out
        have hnc66 := NB119_120.out
        obtain ⟨hcz67_0, hcz67_1, hcz67_2, hcz67_3, hfz67_0, hfz67_1, hfz67_2, hfz67_3⟩ := zc4 BK120
        go_wp2_with (first | (go_at_call 10; (with_reducible refine (spec_l2Some.calls kj26 x121000_3 x121001_26 (Go.bits .or .i64 a0_2 a1_2) (Go.bits .and .i64 a0_3 a1_3) false _ A51.out).mono ?_); rintro e w68 ⟨rfl, hb⟩; replace BK117 := zb BK117 hb rfl; replace BK118 := zb BK118 hb rfl; replace BK119 := zb BK119 hb rfl; replace BK120 := zb BK120 hb rfl; replace HB := zS hb; try clear hb; have hnb69 := NB119_117.out; have hnc69 := NB117_119.out; have hnb70 := NB119_118.out; have hnc70 := NB118_119.out; obtain ⟨hcz71_0, hcz71_1, hcz71_2, hcz71_3, hfz71_0, hfz71_1, hfz71_2, hfz71_3⟩ := zc4 BK119))
        repeat (go_quiet (first | (go_at_call 10; (with_reducible refine (spec_l2Some.calls kj26 x121000_3 x121001_26 (Go.bits .or .i64 a0_2 a1_2) (Go.bits .and .i64 a0_3 a1_3) false _ A51.out).mono ?_); rintro e w68 ⟨rfl, hb⟩; replace BK117 := zb BK117 hb rfl; replace BK118 := zb BK118 hb rfl; replace BK119 := zb BK119 hb rfl; replace BK120 := zb BK120 hb rfl; replace HB := zS hb; try clear hb; have hnb69 := NB119_117.out; have hnc69 := NB117_119.out; have hnb70 := NB119_118.out; have hnc70 := NB118_119.out; obtain ⟨hcz71_0, hcz71_1, hcz71_2, hcz71_3, hfz71_0, hfz71_1, hfz71_2, hfz71_3⟩ := zc4 BK119)); try go_wp2_with (first | (go_at_call 10; (with_reducible refine (spec_l2Some.calls kj26 x121000_3 x121001_26 (Go.bits .or .i64 a0_2 a1_2) (Go.bits .and .i64 a0_3 a1_3) false _ A51.out).mono ?_); rintro e w68 ⟨rfl, hb⟩; replace BK117 := zb BK117 hb rfl; replace BK118 := zb BK118 hb rfl; replace BK119 := zb BK119 hb rfl; replace BK120 := zb BK120 hb rfl; replace HB := zS hb; try clear hb; have hnb69 := NB119_117.out; have hnc69 := NB117_119.out; have hnb70 := NB119_118.out; have hnc70 := NB118_119.out; obtain ⟨hcz71_0, hcz71_1, hcz71_2, hcz71_3, hfz71_0, hfz71_1, hfz71_2, hfz71_3⟩ := zc4 BK119)))
        refine bodyPost_ret (results_ct rfl _ _ gb119 24 #[.int .i64 1, .int .i64 0, .int .i64 0, .int .i64 0] (0, 0) _ rfl (by refine bq ?_; refine blk_put (cs := #[.int .i64 1, .int .i64 0, .int .i64 0, .int .i64 0]) ?_ 3 _ rfl; refine bq ?_; refine blk_put (cs := #[.int .i64 1, .int .i64 0, .int .i64 0, .int .i64 0]) ?_ 2 _ rfl; refine bq ?_; refine blk_put (cs := #[.int .i64 1, .int .i64 0, .int .i64 0, .int .i64 0]) ?_ 1 _ rfl; refine bq ?_; refine blk_put (cs := #[.int .i64 0, .int .i64 0, .int .i64 0, .int .i64 0]) ?_ 0 _ rfl; exact bq BK119.out) Try.underlying24 rfl (by kernel_rfl)) rfl ?_
        exact ⟨zR, zB⟩
 ·rw [if_neg c3] at H
  have c3b0 : ((Go.bits .and .i64 (Go.bits .and .i64 (Go.bits .xor .i64 4294967295 a0_3) (Go.bits .xor .i64 4294967295 a1_3)) (Go.bits .xor .i64 a0_2 a1_2)) == 0) = false := beq_eq_false_iff_ne.mpr c3
  have c3b1 : ((Go.bits .and .i64 (Go.bits .and .i64 (Go.bits .xor .i64 4294967295 a0_3) (Go.bits .xor .i64 4294967295 a1_3)) (Go.bits .xor .i64 a0_2 a1_2)) != 0) = true := bne_iff_ne.mpr c3
  simp only [Option.some.injEq, Prod.mk.injEq] at H
  obtain ⟨rfl, rfl, rfl, rfl, rfl⟩ := H
  go_enter Try.func20, Try.ntmps20
  go_wp2_with (first | ((with_reducible refine gate_dst (N := 2) rfl ?_); refine be 2 #[.int .i64 a0_0, .int .i64 a0_1, .int .i64 a0_2, .int .i64 a0_3] 24 ?_; intro gb117 hg w72 hbox hb; have BK117 := Aside0.mk hbox; have GW117 := zW hg; replace HB := zS hb; have GE117 := GW117; clear hb hbox hg) | ((with_reducible refine gate_dst (N := 3) rfl ?_); refine be 3 #[.int .i64 a1_0, .int .i64 a1_1, .int .i64 a1_2, .int .i64 a1_3] 24 ?_; intro gb118 hg w73 hbox hb; have BK118 := Aside0.mk hbox; have GW118 := zW hg; replace HB := zS hb; have GE118 := GW118; have NB117_118 := zl BK117 hg rfl; have NB118_117 := zg BK117 hg rfl; replace BK117 := zb BK117 hb rfl; clear hb hbox hg) | ((with_reducible refine gate_dst (N := 4) rfl ?_); refine be 4 #[.int .i64 0, .int .i64 0, .int .i64 0, .int .i64 0] 24 ?_; intro gb119 hg w74 hbox hb; have BK119 := Aside0.mk hbox; have GW119 := zW hg; replace HB := zS hb; have GE119 := GW119; have NB117_119 := zl BK117 hg rfl; have NB119_117 := zg BK117 hg rfl; replace BK117 := zb BK117 hb rfl; have NB118_119 := zl BK118 hg rfl; have NB119_118 := zg BK118 hg rfl; replace BK118 := zb BK118 hb rfl; clear hb hbox hg) | (go_at_call 18; (with_reducible refine (spec_l2Top.calls  4294967295 _ AC_spec_l2Top.out).mono ?_); rintro e w' ⟨rfl, ⟨nd, rfl⟩⟩; (try first | exact ⟨rfl, _, World.drewN_drewN _ _ _⟩ | exact ⟨rfl, _, Eq.trans (World.drewN_drewN _ _ _) (congrArg (World.drewN _) (Nat.add_assoc _ _ _))⟩); (try (have hnb75 := NB117_118.out)); (try (have hnc75 := NB118_117.out)); (try (have hnb76 := NB117_119.out)); (try (have hnc76 := NB119_117.out)); (try (have hcz77_0 : w74.cell? ⟨gb117, 0, none⟩ = some (.int .i64 a0_0) := (blk_cell BK117.out 0).trans rfl)); (try (have hcz77_1 : w74.cell? ⟨gb117, 1, none⟩ = some (.int .i64 a0_1) := (blk_cell BK117.out 1).trans rfl)); (try (have hcz77_2 : w74.cell? ⟨gb117, 2, none⟩ = some (.int .i64 a0_2) := (blk_cell BK117.out 2).trans rfl)); (try (have hcz77_3 : w74.cell? ⟨gb117, 3, none⟩ = some (.int .i64 a0_3) := (blk_cell BK117.out 3).trans rfl)); (try (have hfz77_0 := blk_frozen BK117.out 0)); (try (have hfz77_1 := blk_frozen BK117.out 1)); (try (have hfz77_2 := blk_frozen BK117.out 2)); (try (have hfz77_3 := blk_frozen BK117.out 3)); (try (have hnb78 := NB118_119.out)); (try (have hnc78 := NB119_118.out)); (try (have hcz79_0 : w74.cell? ⟨gb118, 0, none⟩ = some (.int .i64 a1_0) := (blk_cell BK118.out 0).trans rfl)); (try (have hcz79_1 : w74.cell? ⟨gb118, 1, none⟩ = some (.int .i64 a1_1) := (blk_cell BK118.out 1).trans rfl)); (try (have hcz79_2 : w74.cell? ⟨gb118, 2, none⟩ = some (.int .i64 a1_2) := (blk_cell BK118.out 2).trans rfl)); (try (have hcz79_3 : w74.cell? ⟨gb118, 3, none⟩ = some (.int .i64 a1_3) := (blk_cell BK118.out 3).trans rfl)); (try (have hfz79_0 := blk_frozen BK118.out 0)); (try (have hfz79_1 := blk_frozen BK118.out 1)); (try (have hfz79_2 := blk_frozen BK118.out 2)); (try (have hfz79_3 := blk_frozen BK118.out 3)); (try (have hcz80_0 : w74.cell? ⟨gb119, 0, none⟩ = some (.int .i64 0) := (blk_cell BK119.out 0).trans rfl)); (try (have hcz80_1 : w74.cell? ⟨gb119, 1, none⟩ = some (.int .i64 0) := (blk_cell BK119.out 1).trans rfl)); (try (have hcz80_2 : w74.cell? ⟨gb119, 2, none⟩ = some (.int .i64 0) := (blk_cell BK119.out 2).trans rfl)); (try (have hcz80_3 : w74.cell? ⟨gb119, 3, none⟩ = some (.int .i64 0) := (blk_cell BK119.out 3).trans rfl)); (try (have hfz80_0 := blk_frozen BK119.out 0)); (try (have hfz80_1 := blk_frozen BK119.out 1)); (try (have hfz80_2 := blk_frozen BK119.out 2)); (try (have hfz80_3 := blk_frozen BK119.out 3))))
  repeat (go_quiet (first | ((with_reducible refine gate_dst (N := 2) rfl ?_); refine be 2 #[.int .i64 a0_0, .int .i64 a0_1, .int .i64 a0_2, .int .i64 a0_3] 24 ?_; intro gb117 hg w72 hbox hb; have BK117 := Aside0.mk hbox; have GW117 := zW hg; replace HB := zS hb; have GE117 := GW117; clear hb hbox hg) | ((with_reducible refine gate_dst (N := 3) rfl ?_); refine be 3 #[.int .i64 a1_0, .int .i64 a1_1, .int .i64 a1_2, .int .i64 a1_3] 24 ?_; intro gb118 hg w73 hbox hb; have BK118 := Aside0.mk hbox; have GW118 := zW hg; replace HB := zS hb; have GE118 := GW118; have NB117_118 := zl BK117 hg rfl; have NB118_117 := zg BK117 hg rfl; replace BK117 := zb BK117 hb rfl; clear hb hbox hg) | ((with_reducible refine gate_dst (N := 4) rfl ?_); refine be 4 #[.int .i64 0, .int .i64 0, .int .i64 0, .int .i64 0] 24 ?_; intro gb119 hg w74 hbox hb; have BK119 := Aside0.mk hbox; have GW119 := zW hg; replace HB := zS hb; have GE119 := GW119; have NB117_119 := zl BK117 hg rfl; have NB119_117 := zg BK117 hg rfl; replace BK117 := zb BK117 hb rfl; have NB118_119 := zl BK118 hg rfl; have NB119_118 := zg BK118 hg rfl; replace BK118 := zb BK118 hb rfl; clear hb hbox hg) | (go_at_call 18; (with_reducible refine (spec_l2Top.calls  4294967295 _ AC_spec_l2Top.out).mono ?_); rintro e w' ⟨rfl, ⟨nd, rfl⟩⟩; (try first | exact ⟨rfl, _, World.drewN_drewN _ _ _⟩ | exact ⟨rfl, _, Eq.trans (World.drewN_drewN _ _ _) (congrArg (World.drewN _) (Nat.add_assoc _ _ _))⟩); (try (have hnb75 := NB117_118.out)); (try (have hnc75 := NB118_117.out)); (try (have hnb76 := NB117_119.out)); (try (have hnc76 := NB119_117.out)); (try (have hcz77_0 : w74.cell? ⟨gb117, 0, none⟩ = some (.int .i64 a0_0) := (blk_cell BK117.out 0).trans rfl)); (try (have hcz77_1 : w74.cell? ⟨gb117, 1, none⟩ = some (.int .i64 a0_1) := (blk_cell BK117.out 1).trans rfl)); (try (have hcz77_2 : w74.cell? ⟨gb117, 2, none⟩ = some (.int .i64 a0_2) := (blk_cell BK117.out 2).trans rfl)); (try (have hcz77_3 : w74.cell? ⟨gb117, 3, none⟩ = some (.int .i64 a0_3) := (blk_cell BK117.out 3).trans rfl)); (try (have hfz77_0 := blk_frozen BK117.out 0)); (try (have hfz77_1 := blk_frozen BK117.out 1)); (try (have hfz77_2 := blk_frozen BK117.out 2)); (try (have hfz77_3 := blk_frozen BK117.out 3)); (try (have hnb78 := NB118_119.out)); (try (have hnc78 := NB119_118.out)); (try (have hcz79_0 : w74.cell? ⟨gb118, 0, none⟩ = some (.int .i64 a1_0) := (blk_cell BK118.out 0).trans rfl)); (try (have hcz79_1 : w74.cell? ⟨gb118, 1, none⟩ = some (.int .i64 a1_1) := (blk_cell BK118.out 1).trans rfl)); (try (have hcz79_2 : w74.cell? ⟨gb118, 2, none⟩ = some (.int .i64 a1_2) := (blk_cell BK118.out 2).trans rfl)); (try (have hcz79_3 : w74.cell? ⟨gb118, 3, none⟩ = some (.int .i64 a1_3) := (blk_cell BK118.out 3).trans rfl)); (try (have hfz79_0 := blk_frozen BK118.out 0)); (try (have hfz79_1 := blk_frozen BK118.out 1)); (try (have hfz79_2 := blk_frozen BK118.out 2)); (try (have hfz79_3 := blk_frozen BK118.out 3)); (try (have hcz80_0 : w74.cell? ⟨gb119, 0, none⟩ = some (.int .i64 0) := (blk_cell BK119.out 0).trans rfl)); (try (have hcz80_1 : w74.cell? ⟨gb119, 1, none⟩ = some (.int .i64 0) := (blk_cell BK119.out 1).trans rfl)); (try (have hcz80_2 : w74.cell? ⟨gb119, 2, none⟩ = some (.int .i64 0) := (blk_cell BK119.out 2).trans rfl)); (try (have hcz80_3 : w74.cell? ⟨gb119, 3, none⟩ = some (.int .i64 0) := (blk_cell BK119.out 3).trans rfl)); (try (have hfz80_0 := blk_frozen BK119.out 0)); (try (have hfz80_1 := blk_frozen BK119.out 1)); (try (have hfz80_2 := blk_frozen BK119.out 2)); (try (have hfz80_3 := blk_frozen BK119.out 3)))); try go_wp2_with (first | ((with_reducible refine gate_dst (N := 2) rfl ?_); refine be 2 #[.int .i64 a0_0, .int .i64 a0_1, .int .i64 a0_2, .int .i64 a0_3] 24 ?_; intro gb117 hg w72 hbox hb; have BK117 := Aside0.mk hbox; have GW117 := zW hg; replace HB := zS hb; have GE117 := GW117; clear hb hbox hg) | ((with_reducible refine gate_dst (N := 3) rfl ?_); refine be 3 #[.int .i64 a1_0, .int .i64 a1_1, .int .i64 a1_2, .int .i64 a1_3] 24 ?_; intro gb118 hg w73 hbox hb; have BK118 := Aside0.mk hbox; have GW118 := zW hg; replace HB := zS hb; have GE118 := GW118; have NB117_118 := zl BK117 hg rfl; have NB118_117 := zg BK117 hg rfl; replace BK117 := zb BK117 hb rfl; clear hb hbox hg) | ((with_reducible refine gate_dst (N := 4) rfl ?_); refine be 4 #[.int .i64 0, .int .i64 0, .int .i64 0, .int .i64 0] 24 ?_; intro gb119 hg w74 hbox hb; have BK119 := Aside0.mk hbox; have GW119 := zW hg; replace HB := zS hb; have GE119 := GW119; have NB117_119 := zl BK117 hg rfl; have NB119_117 := zg BK117 hg rfl; replace BK117 := zb BK117 hb rfl; have NB118_119 := zl BK118 hg rfl; have NB119_118 := zg BK118 hg rfl; replace BK118 := zb BK118 hb rfl; clear hb hbox hg) | (go_at_call 18; (with_reducible refine (spec_l2Top.calls  4294967295 _ AC_spec_l2Top.out).mono ?_); rintro e w' ⟨rfl, ⟨nd, rfl⟩⟩; (try first | exact ⟨rfl, _, World.drewN_drewN _ _ _⟩ | exact ⟨rfl, _, Eq.trans (World.drewN_drewN _ _ _) (congrArg (World.drewN _) (Nat.add_assoc _ _ _))⟩); (try (have hnb75 := NB117_118.out)); (try (have hnc75 := NB118_117.out)); (try (have hnb76 := NB117_119.out)); (try (have hnc76 := NB119_117.out)); (try (have hcz77_0 : w74.cell? ⟨gb117, 0, none⟩ = some (.int .i64 a0_0) := (blk_cell BK117.out 0).trans rfl)); (try (have hcz77_1 : w74.cell? ⟨gb117, 1, none⟩ = some (.int .i64 a0_1) := (blk_cell BK117.out 1).trans rfl)); (try (have hcz77_2 : w74.cell? ⟨gb117, 2, none⟩ = some (.int .i64 a0_2) := (blk_cell BK117.out 2).trans rfl)); (try (have hcz77_3 : w74.cell? ⟨gb117, 3, none⟩ = some (.int .i64 a0_3) := (blk_cell BK117.out 3).trans rfl)); (try (have hfz77_0 := blk_frozen BK117.out 0)); (try (have hfz77_1 := blk_frozen BK117.out 1)); (try (have hfz77_2 := blk_frozen BK117.out 2)); (try (have hfz77_3 := blk_frozen BK117.out 3)); (try (have hnb78 := NB118_119.out)); (try (have hnc78 := NB119_118.out)); (try (have hcz79_0 : w74.cell? ⟨gb118, 0, none⟩ = some (.int .i64 a1_0) := (blk_cell BK118.out 0).trans rfl)); (try (have hcz79_1 : w74.cell? ⟨gb118, 1, none⟩ = some (.int .i64 a1_1) := (blk_cell BK118.out 1).trans rfl)); (try (have hcz79_2 : w74.cell? ⟨gb118, 2, none⟩ = some (.int .i64 a1_2) := (blk_cell BK118.out 2).trans rfl)); (try (have hcz79_3 : w74.cell? ⟨gb118, 3, none⟩ = some (.int .i64 a1_3) := (blk_cell BK118.out 3).trans rfl)); (try (have hfz79_0 := blk_frozen BK118.out 0)); (try (have hfz79_1 := blk_frozen BK118.out 1)); (try (have hfz79_2 := blk_frozen BK118.out 2)); (try (have hfz79_3 := blk_frozen BK118.out 3)); (try (have hcz80_0 : w74.cell? ⟨gb119, 0, none⟩ = some (.int .i64 0) := (blk_cell BK119.out 0).trans rfl)); (try (have hcz80_1 : w74.cell? ⟨gb119, 1, none⟩ = some (.int .i64 0) := (blk_cell BK119.out 1).trans rfl)); (try (have hcz80_2 : w74.cell? ⟨gb119, 2, none⟩ = some (.int .i64 0) := (blk_cell BK119.out 2).trans rfl)); (try (have hcz80_3 : w74.cell? ⟨gb119, 3, none⟩ = some (.int .i64 0) := (blk_cell BK119.out 3).trans rfl)); (try (have hfz80_0 := blk_frozen BK119.out 0)); (try (have hfz80_1 := blk_frozen BK119.out 1)); (try (have hfz80_2 := blk_frozen BK119.out 2)); (try (have hfz80_3 := blk_frozen BK119.out 3)))))
  refine bodyPost_ret (results_ct rfl _ _ gb119 24 #[.int .i64 1, .int .i64 0, .int .i64 0, .int .i64 0] (0, 0) _ rfl (by refine bq ?_; refine blk_put (cs := #[.int .i64 1, .int .i64 0, .int .i64 0, .int .i64 0]) ?_ 3 _ rfl; refine bq ?_; refine blk_put (cs := #[.int .i64 1, .int .i64 0, .int .i64 0, .int .i64 0]) ?_ 2 _ rfl; refine bq ?_; refine blk_put (cs := #[.int .i64 1, .int .i64 0, .int .i64 0, .int .i64 0]) ?_ 1 _ rfl; refine bq ?_; refine blk_put (cs := #[.int .i64 0, .int .i64 0, .int .i64 0, .int .i64 0]) ?_ 0 _ rfl; exact bq BK119.out) Try.underlying24 rfl (by kernel_rfl)) rfl ?_
  exact ⟨zR, zB⟩

/-! ### spec_l2But: function 33 -/
mutual
def spec_l2But.j0 : Nat → Int → Int → Int → Int → Int → Option (Int × Int × Int × Int × Bool)
 | 0, _, _, _, _, _ => none
 | k + 1, x1, x127000, x127001, x127002, x127003 => if x127001 = x1 then (spec_l2But.j1 k x127000 (wrap64 (x1 - 1)) x127002 x127003) else (spec_l2But.j1 k x127000 x127001 x127002 x127003)
def spec_l2But.j1 : Nat → Int → Int → Int → Int → Option (Int × Int × Int × Int × Bool)
 | 0, _, _, _, _ => none
 | k + 1, x127000, x127001, x127002, x127003 => if x127000 > x127001 then (some (1, 0, 0, 0, false)) else ((spec_l2Some.f k x127000 x127001 x127002 x127003).bind fun t128 => (if t128 = true then ((spec_l2Tidy.f k x127000 x127001 x127002 x127003).bind fun bt129 => (some (bt129.1, bt129.2.1, bt129.2.2.1, bt129.2.2.2, true))) else (some (1, 0, 0, 0, false))))
end
def spec_l2But.f (k : Nat) (a0_0 : Int) (a0_1 : Int) (a0_2 : Int) (a0_3 : Int) (a1 : Int) : Option (Int × Int × Int × Int × Bool) := if a0_0 = a1 then (spec_l2But.j0 k a1 (wrap64 (a1 + 1)) a0_1 a0_2 a0_3) else (spec_l2But.j0 k a1 a0_0 a0_1 a0_2 a0_3)


set_option maxHeartbeats 8000000 in
set_option maxRecDepth 100000 in
theorem spec_l2But.calls (k : Nat) (a0_0 : Int) (a0_1 : Int) (a0_2 : Int) (a0_3 : Int) (a1 : Int) (r1 : Int) (r2 : Int) (r3 : Int) (r4 : Int) (r5 : Bool) (w : World) (h : spec_l2But.f k a0_0 a0_1 a0_2 a0_3 a1 = some (r1, r2, r3, r4, r5)) :
  Calls Try.prog 33 #[.agg #[.int .i64 a0_0, .int .i64 a0_1, .int .i64 a0_2, .int .i64 a0_3], .int .i64 a1] w fun e w' => e = .returned (.tuple #[.agg #[.int .i64 r1, .int .i64 r2, .int .i64 r3, .int .i64 r4], .bool r5]) ∧ Below w.heap.size w w' := by
 have hu24 := Try.underlying24
 have HB := Aside0.mk (Below.refl w.heap.size w)
 have H : (if a0_0 = a1 then (spec_l2But.j0 k a1 (wrap64 (a1 + 1)) a0_1 a0_2 a0_3) else (spec_l2But.j0 k a1 a0_0 a0_1 a0_2 a0_3)) = some (r1, r2, r3, r4, r5) := h
 clear h
 have HC3 := Aside0.mk H
 clear H
 go_enter Try.func33, Try.ntmps33
 go_upto_if 9 with (first | ((with_reducible refine gate_dst (N := 2) rfl ?_); refine be 2 #[.int .i64 a0_0, .int .i64 a0_1, .int .i64 a0_2, .int .i64 a0_3] 24 ?_; intro gb126 hg w4 hbox hb; have BK126 := Aside0.mk hbox; have GW126 := zW hg; replace HB := zS hb; have GE126 := GW126; clear hb hbox hg) | ((with_reducible refine gate_dst (N := 4) rfl ?_); refine be 4 #[.int .i64 0, .int .i64 0, .int .i64 0, .int .i64 0] 24 ?_; intro gb127 hg w5 hbox hb; have BK127 := Aside0.mk hbox; have GW127 := zW hg; replace HB := zS hb; have GE127 := GW127; have NB126_127 := zl BK126 hg rfl; have NB127_126 := zg BK126 hg rfl; replace BK126 := zb BK126 hb rfl; clear hb hbox hg; have hnb6 := NB126_127.out; have hnc6 := NB127_126.out; obtain ⟨hcz7_0, hcz7_1, hcz7_2, hcz7_3, hfz7_0, hfz7_1, hfz7_2, hfz7_3⟩ := zc4 BK126))
 (try simp only [Act.put, List.setIfInBounds_toArray, List.set_cons_zero, List.set_cons_succ])
 go_cut [] (fun wc => ∃ (kq : Nat) (x127000_2 : Int), Aside0 (spec_l2But.j0 kq a1 x127000_2 a0_1 a0_2 a0_3 = some (r1, r2, r3, r4, r5)) ∧ Aside0 (kq ≤ k) ∧ Aside0 (wc.heap[gb126]? = some (.cells #[.int .i64 x127000_2, .int .i64 a0_1, .int .i64 a0_2, .int .i64 a0_3] 24 (0, 0))) ∧ Aside0 (wc.heap[gb127]? = some (.cells #[.int .i64 0, .int .i64 0, .int .i64 0, .int .i64 0] 24 (0, 0))) ∧ Aside0 (Below w.heap.size w wc))
 case first =>
  have H := HC3.out
  clear HC3
  by_cases c8 : a0_0 = a1
  ·rw [if_pos c8] at H
   have c8b0 : (a0_0 == a1) = true := beq_iff_eq.mpr c8
   have c8b1 : (a0_0 != a1) = false := bne_eq_false_iff_eq.mpr c8
   clear c8
   (first | rw [c8b0] | (simp only [i64_w, i32_w]; rw [c8b0]) | skip)
   have H' := Aside0.mk H
   clear H
   have hnb9 := NB126_127.out
   have hnc9 := NB127_126.out
   obtain ⟨hcz10_0, hcz10_1, hcz10_2, hcz10_3, hfz10_0, hfz10_1, hfz10_2, hfz10_3⟩ := zc4 BK126
   go_wp2
   go_meet
   case rel => exact ⟨_, (wrap64 (a1 + 1)), H', ⟨by first | omega | exact Nat.le_refl _⟩, ⟨by refine bq ?_; refine blk_put (cs := #[.int .i64 a0_0, .int .i64 a0_1, .int .i64 a0_2, .int .i64 a0_3]) ?_ 0 _ rfl; exact bq BK126.out⟩, ⟨by refine fq ?_ NB127_126.out; exact bq BK127.out⟩, ⟨zB⟩⟩
  ·rw [if_neg c8] at H
   have c8b0 : (a0_0 == a1) = false := beq_eq_false_iff_ne.mpr c8
   have c8b1 : (a0_0 != a1) = true := bne_iff_ne.mpr c8
   (first | rw [c8b0] | (simp only [i64_w, i32_w]; rw [c8b0]) | skip)
   have H' := Aside0.mk H
   clear H
   go_wp2
   go_meet
   case rel => exact ⟨_, (a0_0), H', ⟨by first | omega | exact Nat.le_refl _⟩, ⟨by exact bq BK126.out⟩, ⟨by exact bq BK127.out⟩, ⟨zB⟩⟩
 case rest =>
  clear HC3
  try clear p2
  try clear c3
  try clear c6
  try clear p6
  try clear c8
  try clear c8b0
  try clear c8b1
  try clear c9
  try clear hcz10_0 hcz10_1 hcz10_2 hcz10_3 hfz10_0 hfz10_1 hfz10_2 hfz10_3
  try clear hcz7_0 hcz7_1 hcz7_2 hcz7_3 hfz7_0 hfz7_1 hfz7_2 hfz7_3
  obtain ⟨kq, x127000_2, HA, HJ2, BK126, BK127, HB⟩ := hcut
  cases kq with
  | zero => exact absurd HA.out (by simp [spec_l2But.j0])
  | succ kj2 =>
   have H := HA.out
   clear HA
   simp only [spec_l2But.j0] at H
   have HC11 := Aside0.mk H
   clear H
   have hnb12 := NB126_127.out
   have hnc12 := NB127_126.out
   obtain ⟨hcz13_0, hcz13_1, hcz13_2, hcz13_3, hfz13_0, hfz13_1, hfz13_2, hfz13_3⟩ := zc4 BK126
   go_upto_if 16 with (fail)
   go_cut [] (fun wc => ∃ (kq : Nat) (x127001_10 : Int), Aside0 (spec_l2But.j1 kq x127000_2 x127001_10 a0_2 a0_3 = some (r1, r2, r3, r4, r5)) ∧ Aside0 (kq ≤ kj2) ∧ Aside0 (wc.heap[gb126]? = some (.cells #[.int .i64 x127000_2, .int .i64 x127001_10, .int .i64 a0_2, .int .i64 a0_3] 24 (0, 0))) ∧ Aside0 (wc.heap[gb127]? = some (.cells #[.int .i64 0, .int .i64 0, .int .i64 0, .int .i64 0] 24 (0, 0))) ∧ Aside0 (Below w.heap.size w wc))
   case first =>
    have H := HC11.out
    clear HC11
    by_cases c14 : a0_1 = a1
    ·rw [if_pos c14] at H
     have c14b0 : (a0_1 == a1) = true := beq_iff_eq.mpr c14
     have c14b1 : (a0_1 != a1) = false := bne_eq_false_iff_eq.mpr c14
     clear c14
     (first | rw [c14b0] | (simp only [i64_w, i32_w]; rw [c14b0]) | skip)
     have H' := Aside0.mk H
     clear H
     have hnb15 := NB126_127.out
     have hnc15 := NB127_126.out
     obtain ⟨hcz16_0, hcz16_1, hcz16_2, hcz16_3, hfz16_0, hfz16_1, hfz16_2, hfz16_3⟩ := zc4 BK126
     go_wp2
     go_meet
     case rel => exact ⟨_, (wrap64 (a1 - 1)), H', ⟨by have := HJ2.out; first | omega | exact Nat.le_refl _⟩, ⟨by refine bq ?_; refine blk_put (cs := #[.int .i64 x127000_2, .int .i64 a0_1, .int .i64 a0_2, .int .i64 a0_3]) ?_ 1 _ rfl; exact bq BK126.out⟩, ⟨by refine fq ?_ NB127_126.out; exact bq BK127.out⟩, ⟨zB⟩⟩
    ·rw [if_neg c14] at H
     have c14b0 : (a0_1 == a1) = false := beq_eq_false_iff_ne.mpr c14
     have c14b1 : (a0_1 != a1) = true := bne_iff_ne.mpr c14
     (first | rw [c14b0] | (simp only [i64_w, i32_w]; rw [c14b0]) | skip)
     have H' := Aside0.mk H
     clear H
     go_wp2
     go_meet
     case rel => exact ⟨_, (a0_1), H', ⟨by have := HJ2.out; first | omega | exact Nat.le_refl _⟩, ⟨by exact bq BK126.out⟩, ⟨by exact bq BK127.out⟩, ⟨zB⟩⟩
   case rest =>
    clear HC11
    try clear c1
    try clear p2 p2
    try clear c3
    try clear c6
    try clear p6 p6
    try clear c8
    try clear c8b0
    try clear c8b1
    try clear c9
    try clear c12
    try clear c14
    try clear c14b0
    try clear c14b1
    try clear c15
    try clear hcz10_0 hcz10_1 hcz10_2 hcz10_3 hfz10_0 hfz10_1 hfz10_2 hfz10_3
    try clear hcz13_0 hcz13_1 hcz13_2 hcz13_3 hfz13_0 hfz13_1 hfz13_2 hfz13_3
    try clear hcz16_0 hcz16_1 hcz16_2 hcz16_3 hfz16_0 hfz16_1 hfz16_2 hfz16_3
    try clear hcz7_0 hcz7_1 hcz7_2 hcz7_3 hfz7_0 hfz7_1 hfz7_2 hfz7_3
    obtain ⟨kq, x127001_10, HA, HJ10, BK126, BK127, HB⟩ := hcut
    cases kq with
    | zero => exact absurd HA.out (by simp [spec_l2But.j1])
    | succ kj10 =>
     have H := HA.out
     clear HA
     simp only [spec_l2But.j1] at H
     by_cases c17 : x127000_2 > x127001_10
     ·rw [if_pos c17] at H
      have c17b0 : decide (x127001_10 < x127000_2) = true := decide_eq_true c17
      clear c17
      simp only [Option.some.injEq, Prod.mk.injEq] at H
      obtain ⟨rfl, rfl, rfl, rfl, rfl⟩ := H
      have hnb18 := NB126_127.out
      have hnc18 := NB127_126.out
      obtain ⟨hcz19_0, hcz19_1, hcz19_2, hcz19_3, hfz19_0, hfz19_1, hfz19_2, hfz19_3⟩ := zc4 BK126
      obtain ⟨hcz20_0, hcz20_1, hcz20_2, hcz20_3, hfz20_0, hfz20_1, hfz20_2, hfz20_3⟩ := zc4 BK127
      go_wp2
      refine bodyPost_ret (results_ct rfl _ _ gb127 24 #[.int .i64 1, .int .i64 0, .int .i64 0, .int .i64 0] (0, 0) _ rfl (by refine bq ?_; refine blk_put (cs := #[.int .i64 1, .int .i64 0, .int .i64 0, .int .i64 0]) ?_ 3 _ rfl; refine bq ?_; refine blk_put (cs := #[.int .i64 1, .int .i64 0, .int .i64 0, .int .i64 0]) ?_ 2 _ rfl; refine bq ?_; refine blk_put (cs := #[.int .i64 1, .int .i64 0, .int .i64 0, .int .i64 0]) ?_ 1 _ rfl; refine bq ?_; refine blk_put (cs := #[.int .i64 0, .int .i64 0, .int .i64 0, .int .i64 0]) ?_ 0 _ rfl; exact bq BK127.out) Try.underlying24 rfl (by kernel_rfl)) rfl ?_
      exact ⟨zR, zB⟩
     ·rw [if_neg c17] at H
      have c17b0 : decide (x127001_10 < x127000_2) = false := decide_eq_false c17
      clear c17
      replace H := Option.bind_eq_some_iff.mp H
      obtain ⟨t128, A210, H⟩ := H
      try dsimp only at H
      have A21 := Aside0.mk A210
      clear A210
      by_cases c22 : t128 = true
      ·subst c22
       rw [if_pos rfl] at H
       replace H := Option.bind_eq_some_iff.mp H
       obtain ⟨⟨t129, t130, t131, t132⟩, A230, H⟩ := H
       try dsimp only at H
       have A23 := Aside0.mk A230
       clear A230
       simp only [Option.some.injEq, Prod.mk.injEq] at H
       obtain ⟨rfl, rfl, rfl, rfl, rfl⟩ := H
       have hnb24 := NB126_127.out
       have hnc24 := NB127_126.out
       obtain ⟨hcz25_0, hcz25_1, hcz25_2, hcz25_3, hfz25_0, hfz25_1, hfz25_2, hfz25_3⟩ := zc4 BK126
       go_wp2_with (first | (go_at_call 10; (with_reducible refine (spec_l2Some.calls kj10 x127000_2 x127001_10 a0_2 a0_3 true _ A21.out).mono ?_); rintro e w26 ⟨rfl, hb⟩; replace BK126 := zb BK126 hb rfl; replace BK127 := zb BK127 hb rfl; replace HB := zS hb; try clear hb; obtain ⟨hcz27_0, hcz27_1, hcz27_2, hcz27_3, hfz27_0, hfz27_1, hfz27_2, hfz27_3⟩ := zc4 BK126) | ((with_reducible refine gate_callee (f := 12) rfl ?_); refine gl 32 Try.func12 #[.agg #[.int .i64 x127000_2, .int .i64 x127001_10, .int .i64 a0_2, .int .i64 a0_3]] ?_; (with_reducible refine (spec_l2Tidy.calls kj10 x127000_2 x127001_10 a0_2 a0_3 t129 t130 t131 t132 _ A23.out).mono ?_); rintro e w28 ⟨rfl, hb⟩; refine ⟨_, rfl, ?_⟩; replace BK126 := zb BK126 hb rfl; replace BK127 := zb BK127 hb rfl; replace HB := zS hb; try clear hb; obtain ⟨hcz29_0, hcz29_1, hcz29_2, hcz29_3, hfz29_0, hfz29_1, hfz29_2, hfz29_3⟩ := zc4 BK127))
       refine bodyPost_ret (results_ct rfl _ _ gb127 24 #[.int .i64 t129, .int .i64 t130, .int .i64 t131, .int .i64 t132] (0, 0) _ rfl (by refine bq ?_; refine blk_put (cs := #[.int .i64 t129, .int .i64 t130, .int .i64 t131, .int .i64 0]) ?_ 3 _ rfl; refine bq ?_; refine blk_put (cs := #[.int .i64 t129, .int .i64 t130, .int .i64 0, .int .i64 0]) ?_ 2 _ rfl; refine bq ?_; refine blk_put (cs := #[.int .i64 t129, .int .i64 0, .int .i64 0, .int .i64 0]) ?_ 1 _ rfl; refine bq ?_; refine blk_put (cs := #[.int .i64 0, .int .i64 0, .int .i64 0, .int .i64 0]) ?_ 0 _ rfl; exact bq BK127.out) Try.underlying24 rfl (by kernel_rfl)) rfl ?_
       exact ⟨zR, zB⟩
      ·replace c22 := Bool.eq_false_iff.mpr c22
       subst c22
       rw [if_neg (show ¬ (false = true) by decide)] at H
       simp only [Option.some.injEq, Prod.mk.injEq] at H
       obtain ⟨rfl, rfl, rfl, rfl, rfl⟩ := H
       have hnb30 := NB126_127.out
       have hnc30 := NB127_126.out
       obtain ⟨hcz31_0, hcz31_1, hcz31_2, hcz31_3, hfz31_0, hfz31_1, hfz31_2, hfz31_3⟩ := zc4 BK126
       go_wp2_with (first | (go_at_call 10; (with_reducible refine (spec_l2Some.calls kj10 x127000_2 x127001_10 a0_2 a0_3 false _ A21.out).mono ?_); rintro e w32 ⟨rfl, hb⟩; replace BK126 := zb BK126 hb rfl; replace BK127 := zb BK127 hb rfl; replace HB := zS hb; try clear hb; obtain ⟨hcz33_0, hcz33_1, hcz33_2, hcz33_3, hfz33_0, hfz33_1, hfz33_2, hfz33_3⟩ := zc4 BK127))
       refine bodyPost_ret (results_ct rfl _ _ gb127 24 #[.int .i64 1, .int .i64 0, .int .i64 0, .int .i64 0] (0, 0) _ rfl (by refine bq ?_; refine blk_put (cs := #[.int .i64 1, .int .i64 0, .int .i64 0, .int .i64 0]) ?_ 3 _ rfl; refine bq ?_; refine blk_put (cs := #[.int .i64 1, .int .i64 0, .int .i64 0, .int .i64 0]) ?_ 2 _ rfl; refine bq ?_; refine blk_put (cs := #[.int .i64 1, .int .i64 0, .int .i64 0, .int .i64 0]) ?_ 1 _ rfl; refine bq ?_; refine blk_put (cs := #[.int .i64 0, .int .i64 0, .int .i64 0, .int .i64 0]) ?_ 0 _ rfl; exact bq BK127.out) Try.underlying24 rfl (by kernel_rfl)) rfl ?_
       exact ⟨zR, zB⟩

end Go.Proofs.Ytjengfiaphgjbaa.Q
