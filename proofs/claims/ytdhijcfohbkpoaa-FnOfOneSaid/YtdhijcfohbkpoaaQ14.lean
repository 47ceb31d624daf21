/- The machine's side of this seat's laws: Go functions as Lean functions, and their contracts. By a program of this work over the kit's print. -/
import Derived.Test.YtdhijcfohbkpoaaQ0
import Derived.Test.YtdhijcfohbkpoaaQ2
namespace Go.Proofs.Ytdhijcfohbkpoaa.Q
open Go.RowKit Go.Proofs.YtdhijcfohbkpoaaW.PrintWords Go.Proofs.YtdhijcfohbkpoaaW.PrintLast Go.Proofs.YtdhijcfohbkpoaaW.PrintMore
attribute [local go_sem] max2_int min2_int max_two min_two max_three min_three max_four min_four Go.Proofs.YtdhijcfohbkpoaaN.not_i64 Go.Proofs.YtdhijcfohbkpoaaN.isSome_setCell   -- for this text's walks alone
set_option linter.unusedVariables false
set_option linter.unusedSimpArgs false

/-! ### spec_l2Over: function 61 -/
def spec_l2Over.f (k : Nat) (a0 : Int) : Option (Int) := if a0 = 0 then (some 4294967295) else (if 0 ≤ (wrap64 (a0 - 1)) then ((spec_l2Mask.f k (wrap64 ((shl .i64 1 (wrap64 (a0 - 1))) - 1))).bind fun t399 => (some (Go.bits .xor .i64 4294967295 t399))) else (none))

set_option maxHeartbeats 8000000 in
set_option maxRecDepth 100000 in
theorem spec_l2Over.calls (k : Nat) (a0 : Int) (r : Int) (w : World) (h : spec_l2Over.f k a0 = some r) :
  Calls Try.prog 61 #[.int .i64 a0] w fun e w' => e = .returned (.int .i64 r) ∧ Drawn0 w w' := by
 have H : (if a0 = 0 then (some 4294967295) else (if 0 ≤ (wrap64 (a0 - 1)) then ((spec_l2Mask.f k (wrap64 ((shl .i64 1 (wrap64 (a0 - 1))) - 1))).bind fun t399 => (some (Go.bits .xor .i64 4294967295 t399))) else (none))) = some r := h
 clear h
 by_cases c2 : a0 = 0
 ·rw [if_pos c2] at H
  have c2b0 : (a0 == 0) = true := beq_iff_eq.mpr c2
  have c2b1 : (a0 != 0) = false := bne_eq_false_iff_eq.mpr c2
  clear c2
  have AC_spec_l2Top := Aside0.mk (show spec_l2Top.f = some 4294967295 from rfl)
  obtain rfl := Option.some.inj H
  go_enter Try.func61, Try.ntmps61
  go_wp2_with (first | (go_at_call 39; (with_reducible refine (spec_l2Top.calls  4294967295 _ AC_spec_l2Top.out).mono ?_); rintro e w' ⟨rfl, ⟨nd, rfl⟩⟩; (try first | exact ⟨rfl, _, World.drewN_drewN _ _ _⟩ | exact ⟨rfl, _, Eq.trans (World.drewN_drewN _ _ _) (congrArg (World.drewN _) (Nat.add_assoc _ _ _))⟩)))
  repeat (go_quiet (first | (go_at_call 39; (with_reducible refine (spec_l2Top.calls  4294967295 _ AC_spec_l2Top.out).mono ?_); rintro e w' ⟨rfl, ⟨nd, rfl⟩⟩; (try first | exact ⟨rfl, _, World.drewN_drewN _ _ _⟩ | exact ⟨rfl, _, Eq.trans (World.drewN_drewN _ _ _) (congrArg (World.drewN _) (Nat.add_assoc _ _ _))⟩))); try go_wp2_with (first | (go_at_call 39; (with_reducible refine (spec_l2Top.calls  4294967295 _ AC_spec_l2Top.out).mono ?_); rintro e w' ⟨rfl, ⟨nd, rfl⟩⟩; (try first | exact ⟨rfl, _, World.drewN_drewN _ _ _⟩ | exact ⟨rfl, _, Eq.trans (World.drewN_drewN _ _ _) (congrArg (World.drewN _) (Nat.add_assoc _ _ _))⟩))))
  go_ret
  exact ⟨by first | rfl | (simp; done) | (simp [*]; done), by repeat (first | exact Drawn0.refl _ | apply Drawn0.step)⟩
 ·rw [if_neg c2] at H
  have c2b0 : (a0 == 0) = false := beq_eq_false_iff_ne.mpr c2
  have c2b1 : (a0 != 0) = true := bne_iff_ne.mpr c2
  have AC_spec_l2Top := Aside0.mk (show spec_l2Top.f = some 4294967295 from rfl)
  obtain ⟨ji3, hji3⟩ : ∃ j_ : Int, (wrap64 (a0 - 1)) = j_ := ⟨_, rfl⟩
  replace H : (if 0 ≤ (ji3) then ((spec_l2Mask.f k (wrap64 ((shl .i64 1 (ji3)) - 1))).bind fun t399 => (some (Go.bits .xor .i64 4294967295 t399))) else (none)) = some r := by first | (rw [hji3] at H; exact H) | (simp only [hji3] at H ⊢; exact H)
  (try rw [hji3] at AC_spec_l2Top)
  have hji3w : (IntKind.i64.wrap (a0 - 1)) = ji3 := (i64_w _).trans hji3
  by_cases c4 : 0 ≤ (ji3)
  ·rw [if_pos c4] at H
   have c4b0 := eq_true c4
   have c4b1 : decide (0 ≤ (ji3)) = true := decide_eq_true c4
   clear c4
   obtain ⟨ji5, hji5⟩ : ∃ j_ : Int, (shl .i64 1 (ji3)) = j_ := ⟨_, rfl⟩
   replace H : ((spec_l2Mask.f k (wrap64 ((ji5) - 1))).bind fun t399 => (some (Go.bits .xor .i64 4294967295 t399))) = some r := by first | (rw [hji5] at H; exact H) | (simp only [hji5] at H ⊢; exact H)
   (try rw [hji5] at AC_spec_l2Top)
   have hji5_ : (IntKind.i64.wrap (1 * 2 ^ min (ji3).toNat 64)) = ji5 := hji5
   have hji5z : (ji3) ≤ 64 → (IntKind.i64.wrap (1 * 2 ^ (ji3).toNat)) = ji5 := shl_small hji5
   have hji5u : (IntKind.i64.wrap (2 ^ min (ji3).toNat 64)) = ji5 := by have h_ := hji5_; rw [Int.one_mul] at h_; exact h_
   have hji5v : (ji3) ≤ 64 → (IntKind.i64.wrap (2 ^ (ji3).toNat)) = ji5 := fun hle_ => by have h_ := hji5z hle_; rw [Int.one_mul] at h_; exact h_
   have hji5y : (wrap64 (1 * 2 ^ min (ji3).toNat 64)) = ji5 := (i64_w _).symm.trans hji5_
   have hji5x : (ji3) ≤ 64 → (wrap64 (1 * 2 ^ (ji3).toNat)) = ji5 := fun h_ => (i64_w _).symm.trans (hji5z h_)
   replace H := Option.bind_eq_some_iff.mp H
   obtain ⟨t399, A60, H⟩ := H
   try dsimp only at H
   have A6 := Aside0.mk A60
   clear A60
   obtain rfl := Option.some.inj H
   go_enter Try.func61, Try.ntmps61
   go_wp2_with (first | (go_at_call 39; (with_reducible refine (spec_l2Top.calls  4294967295 _ AC_spec_l2Top.out).mono ?_); rintro e w' ⟨rfl, ⟨nd, rfl⟩⟩; (try first | exact ⟨rfl, _, World.drewN_drewN _ _ _⟩ | exact ⟨rfl, _, Eq.trans (World.drewN_drewN _ _ _) (congrArg (World.drewN _) (Nat.add_assoc _ _ _))⟩)) | (go_at_call 60; (with_reducible refine (spec_l2Mask.calls k (wrap64 ((ji5) - 1)) t399 _ A6.out).mono ?_); rintro e w' ⟨rfl, ⟨nd, rfl⟩⟩; (try first | exact ⟨rfl, _, World.drewN_drewN _ _ _⟩ | exact ⟨rfl, _, Eq.trans (World.drewN_drewN _ _ _) (congrArg (World.drewN _) (Nat.add_assoc _ _ _))⟩)))
   repeat (go_quiet (first | (go_at_call 39; (with_reducible refine (spec_l2Top.calls  4294967295 _ AC_spec_l2Top.out).mono ?_); rintro e w' ⟨rfl, ⟨nd, rfl⟩⟩; (try first | exact ⟨rfl, _, World.drewN_drewN _ _ _⟩ | exact ⟨rfl, _, Eq.trans (World.drewN_drewN _ _ _) (congrArg (World.drewN _) (Nat.add_assoc _ _ _))⟩)) | (go_at_call 60; (with_reducible refine (spec_l2Mask.calls k (wrap64 ((ji5) - 1)) t399 _ A6.out).mono ?_); rintro e w' ⟨rfl, ⟨nd, rfl⟩⟩; (try first | exact ⟨rfl, _, World.drewN_drewN _ _ _⟩ | exact ⟨rfl, _, Eq.trans (World.drewN_drewN _ _ _) (congrArg (World.drewN _) (Nat.add_assoc _ _ _))⟩))); try go_wp2_with (first | (go_at_call 39; (with_reducible refine (spec_l2Top.calls  4294967295 _ AC_spec_l2Top.out).mono ?_); rintro e w' ⟨rfl, ⟨nd, rfl⟩⟩; (try first | exact ⟨rfl, _, World.drewN_drewN _ _ _⟩ | exact ⟨rfl, _, Eq.trans (World.drewN_drewN _ _ _) (congrArg (World.drewN _) (Nat.add_assoc _ _ _))⟩)) | (go_at_call 60; (with_reducible refine (spec_l2Mask.calls k (wrap64 ((ji5) - 1)) t399 _ A6.out).mono ?_); rintro e w' ⟨rfl, ⟨nd, rfl⟩⟩; (try first | exact ⟨rfl, _, World.drewN_drewN _ _ _⟩ | exact ⟨rfl, _, Eq.trans (World.drewN_drewN _ _ _) (congrArg (World.drewN _) (Nat.add_assoc _ _ _))⟩))))
   go_ret
   exact ⟨by first | rfl | (simp; done) | (simp only [← hji3, ← hji5] <;> (first | rfl | simp)) | (simp [*]; done), by repeat (first | exact Drawn0.refl _ | apply Drawn0.step)⟩
  ·rw [if_neg c4] at H
   exact absurd H (by simp)

/-! ### spec_l2Next: function 49 -/
mutual
def spec_l2Next.l0 : Nat → Int → Int → Int → Int → Int → Int → Int → Option (Int)
 | 0, _, _, _, _, _, _, _ => none
 | k + 1, x1, x5, x6, x401000, x401001, x401002, x401003 => if x6 ≤ 32 then (if 0 ≤ x6 then ((spec_l2Mask.f k (wrap64 ((shl .i64 1 x6) - 1))).bind fun t401 => (if x6 > 0 then (if 0 ≤ (wrap64 (x6 - 1)) then (if (Go.bits .and .i64 (shr .i64 x1 (wrap64 (x6 - 1))) 1) = 1 then (spec_l2Next.l0 k x1 x5 (wrap64 (x6 + 1)) x401000 x401001 x401002 x401003) else (spec_l2Next.j1 k x1 x5 x6 (Go.bits .or .i64 (Go.bits .and .i64 x1 (Go.bits .xor .i64 4294967295 t401)) (shl .i64 1 (wrap64 (x6 - 1)))) x401000 x401001 x401002 x401003)) else (none)) else (spec_l2Next.j1 k x1 x5 x6 (Go.bits .and .i64 x1 (Go.bits .xor .i64 4294967295 t401)) x401000 x401001 x401002 x401003))) else (none)) else (some x5)
def spec_l2Next.j1 : Nat → Int → Int → Int → Int → Int → Int → Int → Int → Option (Int)
 | 0, _, _, _, _, _, _, _, _ => none
 | k + 1, x1, x5, x6, x8, x401000, x401001, x401002, x401003 => (spec_l2Over.f k x6).bind fun t402 => (if (Go.bits .and .i64 (Go.bits .and .i64 x8 (Go.bits .xor .i64 4294967295 x401003)) t402) = (Go.bits .and .i64 x401002 t402) then (if x5 < 0 then (spec_l2Next.l0 k x1 (Go.bits .or .i64 (Go.bits .and .i64 x8 t402) (Go.bits .and .i64 x401002 (Go.bits .xor .i64 4294967295 t402))) (wrap64 (x6 + 1)) x401000 x401001 x401002 x401003) else (if (Go.bits .or .i64 (Go.bits .and .i64 x8 t402) (Go.bits .and .i64 x401002 (Go.bits .xor .i64 4294967295 t402))) < x5 then (spec_l2Next.l0 k x1 (Go.bits .or .i64 (Go.bits .and .i64 x8 t402) (Go.bits .and .i64 x401002 (Go.bits .xor .i64 4294967295 t402))) (wrap64 (x6 + 1)) x401000 x401001 x401002 x401003) else (spec_l2Next.l0 k x1 x5 (wrap64 (x6 + 1)) x401000 x401001 x401002 x401003))) else (spec_l2Next.l0 k x1 x5 (wrap64 (x6 + 1)) x401000 x401001 x401002 x401003))
end
def spec_l2Next.f (k : Nat) (a0_0 : Int) (a0_1 : Int) (a0_2 : Int) (a0_3 : Int) (a1 : Int) : Option (Int) := spec_l2Next.l0 k a1 (-1) 0 a0_0 a0_1 a0_2 a0_3


set_option maxHeartbeats 8000000 in
set_option maxRecDepth 100000 in
theorem spec_l2Next.calls (k : Nat) (a0_0 : Int) (a0_1 : Int) (a0_2 : Int) (a0_3 : Int) (a1 : Int) (r : Int) (w : World) (h : spec_l2Next.f k a0_0 a0_1 a0_2 a0_3 a1 = some r) :
  Calls Try.prog 49 #[.agg #[.int .i64 a0_0, .int .i64 a0_1, .int .i64 a0_2, .int .i64 a0_3], .int .i64 a1] w fun e w' => e = .returned (.int .i64 r) ∧ Below w.heap.size w w' := by
 have hu24 := Try.underlying24
 have HB := Aside0.mk (Below.refl w.heap.size w)
 have H : (spec_l2Next.l0 k a1 (-1) 0 a0_0 a0_1 a0_2 a0_3) = some r := h
 clear h
 have H' := Aside0.mk H
 clear H
 go_enter Try.func49, Try.ntmps49
 go_wp2_with (first | ((with_reducible refine gate_dst (N := 2) rfl ?_); refine be 2 #[.int .i64 a0_0, .int .i64 a0_1, .int .i64 a0_2, .int .i64 a0_3] 24 ?_; intro gb400 hg w3 hbox hb; have BK400 := Aside0.mk hbox; have GW400 := zW hg; replace HB := zS hb; have GE400 := GW400; clear hb hbox hg))
 repeat (go_quiet (first | ((with_reducible refine gate_dst (N := 2) rfl ?_); refine be 2 #[.int .i64 a0_0, .int .i64 a0_1, .int .i64 a0_2, .int .i64 a0_3] 24 ?_; intro gb400 hg w3 hbox hb; have BK400 := Aside0.mk hbox; have GW400 := zW hg; replace HB := zS hb; have GE400 := GW400; clear hb hbox hg)); try go_wp2_with (first | ((with_reducible refine gate_dst (N := 2) rfl ?_); refine be 2 #[.int .i64 a0_0, .int .i64 a0_1, .int .i64 a0_2, .int .i64 a0_3] 24 ?_; intro gb400 hg w3 hbox hb; have BK400 := Aside0.mk hbox; have GW400 := zW hg; replace HB := zS hb; have GE400 := GW400; clear hb hbox hg)))
 go_loopg [5, 6] k (fun kq v5 v6 w' => ∃ (x5_1 : Int) (x6_1 : Int), v5 = .int .i64 x5_1 ∧ v6 = .int .i64 x6_1 ∧ Aside0 (spec_l2Next.l0 kq a1 x5_1 x6_1 a0_0 a0_1 a0_2 a0_3 = some r) ∧ Aside0 (kq ≤ k) ∧ Aside0 (w'.heap[gb400]? = some (.cells #[.int .i64 a0_0, .int .i64 a0_1, .int .i64 a0_2, .int .i64 a0_3] 24 (0, 0))) ∧ Aside0 (Below w.heap.size w w'))
 case atStart => exact ⟨((-1)), (0), (by first | rfl | (simp; done) | (simp [*]; done)), (by first | rfl | (simp; done) | (simp [*]; done)), H', ⟨Nat.le_refl _⟩, ⟨by exact bq BK400.out⟩, ⟨zB⟩⟩
 case round =>
  clear H'
  try clear p2
  obtain ⟨x5_1, x6_1, rfl, rfl, HA, HK1, BK400, HB⟩ := hrel
  cases gk with
  | zero => exact absurd HA.out (by simp [spec_l2Next.l0])
  | succ k1 =>
   have H := HA.out
   clear HA
   simp only [spec_l2Next.l0] at H
   by_cases c4 : x6_1 ≤ 32
   ·rw [if_pos c4] at H
    have c4b0 : decide (x6_1 ≤ 32) = true := decide_eq_true c4
    clear c4
    have AC_spec_l2Top := Aside0.mk (show spec_l2Top.f = some 4294967295 from rfl)
    by_cases c5 : 0 ≤ x6_1
    ·rw [if_pos c5] at H
     have c5b0 := eq_true c5
     have c5b1 : decide (0 ≤ x6_1) = true := decide_eq_true c5
     clear c5
     obtain ⟨ji6, hji6⟩ : ∃ j_ : Int, (shl .i64 1 x6_1) = j_ := ⟨_, rfl⟩
     replace H : ((spec_l2Mask.f k1 (wrap64 ((ji6) - 1))).bind fun t401 => (if x6_1 > 0 then (if 0 ≤ (wrap64 (x6_1 - 1)) then (if (Go.bits .and .i64 (shr .i64 a1 (wrap64 (x6_1 - 1))) 1) = 1 then (spec_l2Next.l0 k1 a1 x5_1 (wrap64 (x6_1 + 1)) a0_0 a0_1 a0_2 a0_3) else (spec_l2Next.j1 k1 a1 x5_1 x6_1 (Go.bits .or .i64 (Go.bits .and .i64 a1 (Go.bits .xor .i64 4294967295 t401)) (shl .i64 1 (wrap64 (x6_1 - 1)))) a0_0 a0_1 a0_2 a0_3)) else (none)) else (spec_l2Next.j1 k1 a1 x5_1 x6_1 (Go.bits .and .i64 a1 (Go.bits .xor .i64 4294967295 t401)) a0_0 a0_1 a0_2 a0_3))) = some r := by first | (rw [hji6] at H; exact H) | (simp only [hji6] at H ⊢; exact H)
     (try rw [hji6] at AC_spec_l2Top)
     have hji6_ : (IntKind.i64.wrap (1 * 2 ^ min x6_1.toNat 64)) = ji6 := hji6
     have hji6z : x6_1 ≤ 64 → (IntKind.i64.wrap (1 * 2 ^ x6_1.toNat)) = ji6 := shl_small hji6
     have hji6u : (IntKind.i64.wrap (2 ^ min x6_1.toNat 64)) = ji6 := by have h_ := hji6_; rw [Int.one_mul] at h_; exact h_
     have hji6v : x6_1 ≤ 64 → (IntKind.i64.wrap (2 ^ x6_1.toNat)) = ji6 := fun hle_ => by have h_ := hji6z hle_; rw [Int.one_mul] at h_; exact h_
     have hji6y : (wrap64 (1 * 2 ^ min x6_1.toNat 64)) = ji6 := (i64_w _).symm.trans hji6_
     have hji6x : x6_1 ≤ 64 → (wrap64 (1 * 2 ^ x6_1.toNat)) = ji6 := fun h_ => (i64_w _).symm.trans (hji6z h_)
     replace H := Option.bind_eq_some_iff.mp H
     obtain ⟨t401, A70, H⟩ := H
     try dsimp only at H
     have A7 := Aside0.mk A70
     clear A70
     have HC8 := Aside0.mk H
     clear H
     go_upto_if 24 with (first | (go_at_call 39; (with_reducible refine (spec_l2Top.calls  4294967295 _ AC_spec_l2Top.out).mono ?_); rintro e w' ⟨rfl, ⟨nd, rfl⟩⟩; (try first | exact ⟨rfl, _, World.drewN_drewN _ _ _⟩ | exact ⟨rfl, _, Eq.trans (World.drewN_drewN _ _ _) (congrArg (World.drewN _) (Nat.add_assoc _ _ _))⟩)) | (go_at_call 60; (with_reducible refine (spec_l2Mask.calls k1 (wrap64 ((ji6) - 1)) t401 _ A7.out).mono ?_); rintro e w' ⟨rfl, ⟨nd, rfl⟩⟩; (try first | exact ⟨rfl, _, World.drewN_drewN _ _ _⟩ | exact ⟨rfl, _, Eq.trans (World.drewN_drewN _ _ _) (congrArg (World.drewN _) (Nat.add_assoc _ _ _))⟩)))
     repeat (go_quiet (first | (go_at_call 39; (with_reducible refine (spec_l2Top.calls  4294967295 _ AC_spec_l2Top.out).mono ?_); rintro e w' ⟨rfl, ⟨nd, rfl⟩⟩; (try first | exact ⟨rfl, _, World.drewN_drewN _ _ _⟩ | exact ⟨rfl, _, Eq.trans (World.drewN_drewN _ _ _) (congrArg (World.drewN _) (Nat.add_assoc _ _ _))⟩)) | (go_at_call 60; (with_reducible refine (spec_l2Mask.calls k1 (wrap64 ((ji6) - 1)) t401 _ A7.out).mono ?_); rintro e w' ⟨rfl, ⟨nd, rfl⟩⟩; (try first | exact ⟨rfl, _, World.drewN_drewN _ _ _⟩ | exact ⟨rfl, _, Eq.trans (World.drewN_drewN _ _ _) (congrArg (World.drewN _) (Nat.add_assoc _ _ _))⟩))); go_upto_if 24 with (first | (go_at_call 39; (with_reducible refine (spec_l2Top.calls  4294967295 _ AC_spec_l2Top.out).mono ?_); rintro e w' ⟨rfl, ⟨nd, rfl⟩⟩; (try first | exact ⟨rfl, _, World.drewN_drewN _ _ _⟩ | exact ⟨rfl, _, Eq.trans (World.drewN_drewN _ _ _) (congrArg (World.drewN _) (Nat.add_assoc _ _ _))⟩)) | (go_at_call 60; (with_reducible refine (spec_l2Mask.calls k1 (wrap64 ((ji6) - 1)) t401 _ A7.out).mono ?_); rintro e w' ⟨rfl, ⟨nd, rfl⟩⟩; (try first | exact ⟨rfl, _, World.drewN_drewN _ _ _⟩ | exact ⟨rfl, _, Eq.trans (World.drewN_drewN _ _ _) (congrArg (World.drewN _) (Nat.add_assoc _ _ _))⟩))))
     (try simp only [Act.put, List.setIfInBounds_toArray, List.set_cons_zero, List.set_cons_succ])
     go_cut [8] (fun v8 wc => ∃ (kq : Nat) (x8_7 : Int), v8 = .int .i64 x8_7 ∧ Aside0 (spec_l2Next.j1 kq a1 x5_1 x6_1 x8_7 a0_0 a0_1 a0_2 a0_3 = some r) ∧ Aside0 (kq ≤ k1) ∧ Aside0 (wc.heap[gb400]? = some (.cells #[.int .i64 a0_0, .int .i64 a0_1, .int .i64 a0_2, .int .i64 a0_3] 24 (0, 0))) ∧ Aside0 (Below w.heap.size w wc))
     case first =>
      have H := HC8.out
      clear HC8
      by_cases c9 : x6_1 > 0
      ·rw [if_pos c9] at H
       have c9b0 : decide (0 < x6_1) = true := decide_eq_true c9
       clear c9
       (first | rw [c9b0] | (simp only [i64_w, i32_w]; rw [c9b0]) | skip)
       obtain ⟨ji10, hji10⟩ : ∃ j_ : Int, (wrap64 (x6_1 - 1)) = j_ := ⟨_, rfl⟩
       replace H : (if 0 ≤ (ji10) then (if (Go.bits .and .i64 (shr .i64 a1 (ji10)) 1) = 1 then (spec_l2Next.l0 k1 a1 x5_1 (wrap64 (x6_1 + 1)) a0_0 a0_1 a0_2 a0_3) else (spec_l2Next.j1 k1 a1 x5_1 x6_1 (Go.bits .or .i64 (Go.bits .and .i64 a1 (Go.bits .xor .i64 4294967295 t401)) (shl .i64 1 (ji10))) a0_0 a0_1 a0_2 a0_3)) else (none)) = some r := by first | (rw [hji10] at H; exact H) | (simp only [hji10] at H ⊢; exact H)
       have hji10w : (IntKind.i64.wrap (x6_1 - 1)) = ji10 := (i64_w _).trans hji10
       by_cases c11 : 0 ≤ (ji10)
       ·rw [if_pos c11] at H
        have c11b0 := eq_true c11
        have c11b1 : decide (0 ≤ (ji10)) = true := decide_eq_true c11
        clear c11
        obtain ⟨ji12, hji12⟩ : ∃ j_ : Int, (shr .i64 a1 (ji10)) = j_ := ⟨_, rfl⟩
        replace H : (if (Go.bits .and .i64 (ji12) 1) = 1 then (spec_l2Next.l0 k1 a1 x5_1 (wrap64 (x6_1 + 1)) a0_0 a0_1 a0_2 a0_3) else (spec_l2Next.j1 k1 a1 x5_1 x6_1 (Go.bits .or .i64 (Go.bits .and .i64 a1 (Go.bits .xor .i64 4294967295 t401)) (shl .i64 1 (ji10))) a0_0 a0_1 a0_2 a0_3)) = some r := by first | (rw [hji12] at H; exact H) | (simp only [hji12] at H ⊢; exact H)
        have hji12_ : (a1 / 2 ^ min (ji10).toNat 64) = ji12 := hji12
        have hji12z : (ji10) ≤ 64 → (a1 / 2 ^ (ji10).toNat) = ji12 := shr_small hji12
        by_cases c13 : (Go.bits .and .i64 (ji12) 1) = 1
        ·rw [if_pos c13] at H
         have c13b0 : ((Go.bits .and .i64 (ji12) 1) == 1) = true := beq_iff_eq.mpr c13
         have c13b1 : ((Go.bits .and .i64 (ji12) 1) != 1) = false := bne_eq_false_iff_eq.mpr c13
         clear c13
         have H' := Aside0.mk H
         clear H
         go_wp2
         repeat (go_quiet (fail); try go_wp2)
         go_roundg k1
         case measure => have := HK1.out; omega
         case rel => exact ⟨(x5_1), (wrap64 (x6_1 + 1)), (by first | rfl | (simp; done) | (simp [*]; done)), (by first | rfl | (simp; done) | (simp [*]; done)), H', ⟨by have := HK1.out; omega⟩, ⟨by exact bq BK400.out⟩, ⟨zB⟩⟩
        ·rw [if_neg c13] at H
         have c13b0 : ((Go.bits .and .i64 (ji12) 1) == 1) = false := beq_eq_false_iff_ne.mpr c13
         have c13b1 : ((Go.bits .and .i64 (ji12) 1) != 1) = true := bne_iff_ne.mpr c13
         have c14b0 := eq_true (of_decide_eq_true (by first | (with_reducible assumption) | assumption) : 0 ≤ (ji10))
         obtain ⟨ji15, hji15⟩ : ∃ j_ : Int, (shl .i64 1 (ji10)) = j_ := ⟨_, rfl⟩
         replace H : (spec_l2Next.j1 k1 a1 x5_1 x6_1 (Go.bits .or .i64 (Go.bits .and .i64 a1 (Go.bits .xor .i64 4294967295 t401)) (ji15)) a0_0 a0_1 a0_2 a0_3) = some r := by first | (rw [hji15] at H; exact H) | (simp only [hji15] at H ⊢; exact H)
         have hji15_ : (IntKind.i64.wrap (1 * 2 ^ min (ji10).toNat 64)) = ji15 := hji15
         have hji15z : (ji10) ≤ 64 → (IntKind.i64.wrap (1 * 2 ^ (ji10).toNat)) = ji15 := shl_small hji15
         have hji15u : (IntKind.i64.wrap (2 ^ min (ji10).toNat 64)) = ji15 := by have h_ := hji15_; rw [Int.one_mul] at h_; exact h_
         have hji15v : (ji10) ≤ 64 → (IntKind.i64.wrap (2 ^ (ji10).toNat)) = ji15 := fun hle_ => by have h_ := hji15z hle_; rw [Int.one_mul] at h_; exact h_
         have hji15y : (wrap64 (1 * 2 ^ min (ji10).toNat 64)) = ji15 := (i64_w _).symm.trans hji15_
         have hji15x : (ji10) ≤ 64 → (wrap64 (1 * 2 ^ (ji10).toNat)) = ji15 := fun h_ => (i64_w _).symm.trans (hji15z h_)
         have H' := Aside0.mk H
         clear H
         go_wp2
         repeat (go_quiet (fail); try go_wp2)
         go_meet
         case rel => exact ⟨_, (Go.bits .or .i64 (Go.bits .and .i64 a1 (Go.bits .xor .i64 4294967295 t401)) (ji15)), (by first | rfl | (simp; done) | (simp only [← hji15] <;> (first | rfl | simp)) | (simp [*]; done)), H', ⟨by have := HK1.out; first | omega | exact Nat.le_refl _⟩, ⟨by exact bq BK400.out⟩, ⟨zB⟩⟩
       ·rw [if_neg c11] at H
        exact absurd H (by simp)
      ·rw [if_neg c9] at H
       have c9b0 : decide (0 < x6_1) = false := decide_eq_false c9
       clear c9
       (first | rw [c9b0] | (simp only [i64_w, i32_w]; rw [c9b0]) | skip)
       have H' := Aside0.mk H
       clear H
       go_wp2
       repeat (go_quiet (fail); try go_wp2)
       go_meet
       case rel => exact ⟨_, (Go.bits .and .i64 a1 (Go.bits .xor .i64 4294967295 t401)), (by first | rfl | (simp; done) | (simp [*]; done)), H', ⟨by have := HK1.out; first | omega | exact Nat.le_refl _⟩, ⟨by exact bq BK400.out⟩, ⟨zB⟩⟩
     case rest =>
      clear HC8
      try clear c1
      try clear p2 p2
      try clear c4
      try clear c4b0
      try clear c5
      try clear c5b0
      try clear c5b1
      try clear p6
      try clear c9
      try clear c9b0
      try clear c11
      try clear c11b0
      try clear c11b1
      try clear c13
      try clear c13b0
      try clear c13b1
      try clear c14
      try clear c14b0
      obtain ⟨kq, x8_7, rfl, HA, HJ7, BK400, HB⟩ := hcut
      cases kq with
      | zero => exact absurd HA.out (by simp [spec_l2Next.j1])
      | succ kj7 =>
       have H := HA.out
       clear HA
       simp only [spec_l2Next.j1] at H
       have AC_spec_l2Top := Aside0.mk (show spec_l2Top.f = some 4294967295 from rfl)
       replace H := Option.bind_eq_some_iff.mp H
       obtain ⟨t402, A160, H⟩ := H
       try dsimp only at H
       have A16 := Aside0.mk A160
       clear A160
       by_cases c17 : (Go.bits .and .i64 (Go.bits .and .i64 x8_7 (Go.bits .xor .i64 4294967295 a0_3)) t402) = (Go.bits .and .i64 a0_2 t402)
       ·rw [if_pos c17] at H
        have c17b0 : ((Go.bits .and .i64 (Go.bits .and .i64 x8_7 (Go.bits .xor .i64 4294967295 a0_3)) t402) == (Go.bits .and .i64 a0_2 t402)) = true := beq_iff_eq.mpr c17
        have c17b1 : ((Go.bits .and .i64 (Go.bits .and .i64 x8_7 (Go.bits .xor .i64 4294967295 a0_3)) t402) != (Go.bits .and .i64 a0_2 t402)) = false := bne_eq_false_iff_eq.mpr c17
        clear c17
        have AC_spec_l2Top := Aside0.mk (show spec_l2Top.f = some 4294967295 from rfl)
        by_cases c18 : x5_1 < 0
        ·rw [if_pos c18] at H
         have c18b0 : decide (x5_1 < 0) = true := decide_eq_true c18
         clear c18
         have H' := Aside0.mk H
         clear H
         go_wp2_with (first | (go_at_call 39; (with_reducible refine (spec_l2Top.calls  4294967295 _ AC_spec_l2Top.out).mono ?_); rintro e w' ⟨rfl, ⟨nd, rfl⟩⟩; (try first | exact ⟨rfl, _, World.drewN_drewN _ _ _⟩ | exact ⟨rfl, _, Eq.trans (World.drewN_drewN _ _ _) (congrArg (World.drewN _) (Nat.add_assoc _ _ _))⟩); (try (have hcz19_0 : wc.cell? ⟨gb400, 0, none⟩ = some (.int .i64 a0_0) := (blk_cell BK400.out 0).trans rfl)); (try (have hcz19_1 : wc.cell? ⟨gb400, 1, none⟩ = some (.int .i64 a0_1) := (blk_cell BK400.out 1).trans rfl)); (try (have hcz19_2 : wc.cell? ⟨gb400, 2, none⟩ = some (.int .i64 a0_2) := (blk_cell BK400.out 2).trans rfl)); (try (have hcz19_3 : wc.cell? ⟨gb400, 3, none⟩ = some (.int .i64 a0_3) := (blk_cell BK400.out 3).trans rfl)); (try (have hfz19_0 := blk_frozen BK400.out 0)); (try (have hfz19_1 := blk_frozen BK400.out 1)); (try (have hfz19_2 := blk_frozen BK400.out 2)); (try (have hfz19_3 := blk_frozen BK400.out 3))) | (go_at_call 61; (with_reducible refine (spec_l2Over.calls kj7 x6_1 t402 _ A16.out).mono ?_); rintro e w' ⟨rfl, ⟨nd, rfl⟩⟩; (try first | exact ⟨rfl, _, World.drewN_drewN _ _ _⟩ | exact ⟨rfl, _, Eq.trans (World.drewN_drewN _ _ _) (congrArg (World.drewN _) (Nat.add_assoc _ _ _))⟩)))
         repeat (go_quiet (first | (go_at_call 39; (with_reducible refine (spec_l2Top.calls  4294967295 _ AC_spec_l2Top.out).mono ?_); rintro e w' ⟨rfl, ⟨nd, rfl⟩⟩; (try first | exact ⟨rfl, _, World.drewN_drewN _ _ _⟩ | exact ⟨rfl, _, Eq.trans (World.drewN_drewN _ _ _) (congrArg (World.drewN _) (Nat.add_assoc _ _ _))⟩); (try (have hcz19_0 : wc.cell? ⟨gb400, 0, none⟩ = some (.int .i64 a0_0) := (blk_cell BK400.out 0).trans rfl)); (try (have hcz19_1 : wc.cell? ⟨gb400, 1, none⟩ = some (.int .i64 a0_1) := (blk_cell BK400.out 1).trans rfl)); (try (have hcz19_2 : wc.cell? ⟨gb400, 2, none⟩ = some (.int .i64 a0_2) := (blk_cell BK400.out 2).trans rfl)); (try (have hcz19_3 : wc.cell? ⟨gb400, 3, none⟩ = some (.int .i64 a0_3) := (blk_cell BK400.out 3).trans rfl)); (try (have hfz19_0 := blk_frozen BK400.out 0)); (try (have hfz19_1 := blk_frozen BK400.out 1)); (try (have hfz19_2 := blk_frozen BK400.out 2)); (try (have hfz19_3 := blk_frozen BK400.out 3))) | (go_at_call 61; (with_reducible refine (spec_l2Over.calls kj7 x6_1 t402 _ A16.out).mono ?_); rintro e w' ⟨rfl, ⟨nd, rfl⟩⟩; (try first | exact ⟨rfl, _, World.drewN_drewN _ _ _⟩ | exact ⟨rfl, _, Eq.trans (World.drewN_drewN _ _ _) (congrArg (World.drewN _) (Nat.add_assoc _ _ _))⟩))); try go_wp2_with (first | (go_at_call 39; (with_reducible refine (spec_l2Top.calls  4294967295 _ AC_spec_l2Top.out).mono ?_); rintro e w' ⟨rfl, ⟨nd, rfl⟩⟩; (try first | exact ⟨rfl, _, World.drewN_drewN _ _ _⟩ | exact ⟨rfl, _, Eq.trans (World.drewN_drewN _ _ _) (congrArg (World.drewN _) (Nat.add_assoc _ _ _))⟩); (try (have hcz19_0 : wc.cell? ⟨gb400, 0, none⟩ = some (.int .i64 a0_0) := (blk_cell BK400.out 0).trans rfl)); (try (have hcz19_1 : wc.cell? ⟨gb400, 1, none⟩ = some (.int .i64 a0_1) := (blk_cell BK400.out 1).trans rfl)); (try (have hcz19_2 : wc.cell? ⟨gb400, 2, none⟩ = some (.int .i64 a0_2) := (blk_cell BK400.out 2).trans rfl)); (try (have hcz19_3 : wc.cell? ⟨gb400, 3, none⟩ = some (.int .i64 a0_3) := (blk_cell BK400.out 3).trans rfl)); (try (have hfz19_0 := blk_frozen BK400.out 0)); (try (have hfz19_1 := blk_frozen BK400.out 1)); (try (have hfz19_2 := blk_frozen BK400.out 2)); (try (have hfz19_3 := blk_frozen BK400.out 3))) | (go_at_call 61; (with_reducible refine (spec_l2Over.calls kj7 x6_1 t402 _ A16.out).mono ?_); rintro e w' ⟨rfl, ⟨nd, rfl⟩⟩; (try first | exact ⟨rfl, _, World.drewN_drewN _ _ _⟩ | exact ⟨rfl, _, Eq.trans (World.drewN_drewN _ _ _) (congrArg (World.drewN _) (Nat.add_assoc _ _ _))⟩))))
         go_roundg kj7
         case measure => have := HK1.out; have := HJ7.out; omega
         case rel => exact ⟨(Go.bits .or .i64 (Go.bits .and .i64 x8_7 t402) (Go.bits .and .i64 a0_2 (Go.bits .xor .i64 4294967295 t402))), (wrap64 (x6_1 + 1)), (by first | rfl | (simp; done) | (simp [*]; done)), (by first | rfl | (simp; done) | (simp [*]; done)), H', ⟨by have := HK1.out; have := HJ7.out; omega⟩, ⟨by exact bq BK400.out⟩, ⟨zB⟩⟩
        ·rw [if_neg c18] at H
         have c18b0 : decide (x5_1 < 0) = false := decide_eq_false c18
         clear c18
         by_cases c20 : (Go.bits .or .i64 (Go.bits .and .i64 x8_7 t402) (Go.bits .and .i64 a0_2 (Go.bits .xor .i64 4294967295 t402))) < x5_1
         ·rw [if_pos c20] at H
          have c20b0 : decide ((Go.bits .or .i64 (Go.bits .and .i64 x8_7 t402) (Go.bits .and .i64 a0_2 (Go.bits .xor .i64 4294967295 t402))) < x5_1) = true := decide_eq_true c20
          clear c20
          have H' := Aside0.mk H
          clear H
          go_wp2_with (first | (go_at_call 39; (with_reducible refine (spec_l2Top.calls  4294967295 _ AC_spec_l2Top.out).mono ?_); rintro e w' ⟨rfl, ⟨nd, rfl⟩⟩; (try first | exact ⟨rfl, _, World.drewN_drewN _ _ _⟩ | exact ⟨rfl, _, Eq.trans (World.drewN_drewN _ _ _) (congrArg (World.drewN _) (Nat.add_assoc _ _ _))⟩); (try (have hcz21_0 : wc.cell? ⟨gb400, 0, none⟩ = some (.int .i64 a0_0) := (blk_cell BK400.out 0).trans rfl)); (try (have hcz21_1 : wc.cell? ⟨gb400, 1, none⟩ = some (.int .i64 a0_1) := (blk_cell BK400.out 1).trans rfl)); (try (have hcz21_2 : wc.cell? ⟨gb400, 2, none⟩ = some (.int .i64 a0_2) := (blk_cell BK400.out 2).trans rfl)); (try (have hcz21_3 : wc.cell? ⟨gb400, 3, none⟩ = some (.int .i64 a0_3) := (blk_cell BK400.out 3).trans rfl)); (try (have hfz21_0 := blk_frozen BK400.out 0)); (try (have hfz21_1 := blk_frozen BK400.out 1)); (try (have hfz21_2 := blk_frozen BK400.out 2)); (try (have hfz21_3 := blk_frozen BK400.out 3))) | (go_at_call 61; (with_reducible refine (spec_l2Over.calls kj7 x6_1 t402 _ A16.out).mono ?_); rintro e w' ⟨rfl, ⟨nd, rfl⟩⟩; (try first | exact ⟨rfl, _, World.drewN_drewN _ _ _⟩ | exact ⟨rfl, _, Eq.trans (World.drewN_drewN _ _ _) (congrArg (World.drewN _) (Nat.add_assoc _ _ _))⟩)))
          repeat (go_quiet (first | (go_at_call 39; (with_reducible refine (spec_l2Top.calls  4294967295 _ AC_spec_l2Top.out).mono ?_); rintro e w' ⟨rfl, ⟨nd, rfl⟩⟩; (try first | exact ⟨rfl, _, World.drewN_drewN _ _ _⟩ | exact ⟨rfl, _, Eq.trans (World.drewN_drewN _ _ _) (congrArg (World.drewN _) (Nat.add_assoc _ _ _))⟩); (try (have hcz21_0 : wc.cell? ⟨gb400, 0, none⟩ = some (.int .i64 a0_0) := (blk_cell BK400.out 0).trans rfl)); (try (have hcz21_1 : wc.cell? ⟨gb400, 1, none⟩ = some (.int .i64 a0_1) := (blk_cell BK400.out 1).trans rfl)); (try (have hcz21_2 : wc.cell? ⟨gb400, 2, none⟩ = some (.int .i64 a0_2) := (blk_cell BK400.out 2).trans rfl)); (try (have hcz21_3 : wc.cell? ⟨gb400, 3, none⟩ = some (.int .i64 a0_3) := (blk_cell BK400.out 3).trans rfl)); (try (have hfz21_0 := blk_frozen BK400.out 0)); (try (have hfz21_1 := blk_frozen BK400.out 1)); (try (have hfz21_2 := blk_frozen BK400.out 2)); (try (have hfz21_3 := blk_frozen BK400.out 3))) | (go_at_call 61; (with_reducible refine (spec_l2Over.calls kj7 x6_1 t402 _ A16.out).mono ?_); rintro e w' ⟨rfl, ⟨nd, rfl⟩⟩; (try first | exact ⟨rfl, _, World.drewN_drewN _ _ _⟩ | exact ⟨rfl, _, Eq.trans (World.drewN_drewN _ _ _) (congrArg (World.drewN _) (Nat.add_assoc _ _ _))⟩))); try go_wp2_with (first | (go_at_call 39; (with_reducible refine (spec_l2Top.calls  4294967295 _ AC_spec_l2Top.out).mono ?_); rintro e w' ⟨rfl, ⟨nd, rfl⟩⟩; (try first | exact ⟨rfl, _, World.drewN_drewN _ _ _⟩ | exact ⟨rfl, _, Eq.trans (World.drewN_drewN _ _ _) (congrArg (World.drewN _) (Nat.add_assoc _ _ _))⟩); (try (have hcz21_0 : wc.cell? ⟨gb400, 0, none⟩ = some (.int .i64 a0_0) := (blk_cell BK400.out 0).trans rfl)); (try (have hcz21_1 : wc.cell? ⟨gb400, 1, none⟩ = some (.int .i64 a0_1) := (blk_cell BK400.out 1).trans rfl)); (try (have hcz21_2 : wc.cell? ⟨gb400, 2, none⟩ = some (.int .i64 a0_2) := (blk_cell BK400.out 2).trans rfl)); (try (have hcz21_3 : wc.cell? ⟨gb400, 3, none⟩ = some (.int .i64 a0_3) := (blk_cell BK400.out 3).trans rfl)); (try (have hfz21_0 := blk_frozen BK400.out 0)); (try (have hfz21_1 := blk_frozen BK400.out 1)); (try (have hfz21_2 := blk_frozen BK400.out 2)); (try (have hfz21_3 := blk_frozen BK400.out 3))) | (go_at_call 61; (with_reducible refine (spec_l2Over.calls kj7 x6_1 t402 _ A16.out).mono ?_); rintro e w' ⟨rfl, ⟨nd, rfl⟩⟩; (try first | exact ⟨rfl, _, World.drewN_drewN _ _ _⟩ | exact ⟨rfl, _, Eq.trans (World.drewN_drewN _ _ _) (congrArg (World.drewN _) (Nat.add_assoc _ _ _))⟩))))
          go_roundg kj7
          case measure => have := HK1.out; have := HJ7.out; omega
          case rel => exact ⟨(Go.bits .or .i64 (Go.bits .and .i64 x8_7 t402) (Go.bits .and .i64 a0_2 (Go.bits .xor .i64 4294967295 t402))), (wrap64 (x6_1 + 1)), (by first | rfl | (simp; done) | (simp [*]; done)), (by first | rfl | (simp; done) | (simp [*]; done)), H', ⟨by have := HK1.out; have := HJ7.out; omega⟩, ⟨by exact bq BK400.out⟩, ⟨zB⟩⟩
         ·rw [if_neg c20] at H
          have c20b0 : decide ((Go.bits .or .i64 (Go.bits .and .i64 x8_7 t402) (Go.bits .and .i64 a0_2 (Go.bits .xor .i64 4294967295 t402))) < x5_1) = false := decide_eq_false c20
          clear c20
          have H' := Aside0.mk H
          clear H
          go_wp2_with (first | (go_at_call 39; (with_reducible refine (spec_l2Top.calls  4294967295 _ AC_spec_l2Top.out).mono ?_); rintro e w' ⟨rfl, ⟨nd, rfl⟩⟩; (try first | exact ⟨rfl, _, World.drewN_drewN _ _ _⟩ | exact ⟨rfl, _, Eq.trans (World.drewN_drewN _ _ _) (congrArg (World.drewN _) (Nat.add_assoc _ _ _))⟩); (try (have hcz22_0 : wc.cell? ⟨gb400, 0, none⟩ = some (.int .i64 a0_0) := (blk_cell BK400.out 0).trans rfl)); (try (have hcz22_1 : wc.cell? ⟨gb400, 1, none⟩ = some (.int .i64 a0_1) := (blk_cell BK400.out 1).trans rfl)); (try (have hcz22_2 : wc.cell? ⟨gb400, 2, none⟩ = some (.int .i64 a0_2) := (blk_cell BK400.out 2).trans rfl)); (try (have hcz22_3 : wc.cell? ⟨gb400, 3, none⟩ = some (.int .i64 a0_3) := (blk_cell BK400.out 3).trans rfl)); (try (have hfz22_0 := blk_frozen BK400.out 0)); (try (have hfz22_1 := blk_frozen BK400.out 1)); (try (have hfz22_2 := blk_frozen BK400.out 2)); (try (have hfz22_3 := blk_frozen BK400.out 3))) | (go_at_call 61; (with_reducible refine (spec_l2Over.calls kj7 x6_1 t402 _ A16.out).mono ?_); rintro e w' ⟨rfl, ⟨nd, rfl⟩⟩; (try first | exact ⟨rfl, _, World.drewN_drewN _ _ _⟩ | exact ⟨rfl, _, Eq.trans (World.drewN_drewN _ _ _) (congrArg (World.drewN _) (Nat.add_assoc _ _ _))⟩)))
          repeat (go_quiet (first | (go_at_call 39; (with_reducible refine (spec_l2Top.calls  4294967295 _ AC_spec_l2Top.out).mono ?_); rintro e w' ⟨rfl, ⟨nd, rfl⟩⟩; (try first | exact ⟨rfl, _, World.drewN_drewN _ _ _⟩ | exact ⟨rfl, _, Eq.trans (World.drewN_drewN _ _ _) (congrArg (World.drewN _) (Nat.add_assoc _ _ _))⟩); (try (have hcz22_0 : wc.cell? ⟨gb400, 0, none⟩ = some (.int .i64 a0_0) := (blk_cell BK400.out 0).trans rfl)); (try (have hcz22_1 : wc.cell? ⟨gb400, 1, none⟩ = some (.int .i64 a0_1) := (blk_cell BK400.out 1).trans rfl)); (try (have hcz22_2 : wc.cell? ⟨gb400, 2, none⟩ = some (.int .i64 a0_2) := (blk_cell BK400.out 2).trans rfl)); (try (have hcz22_3 : wc.cell? ⟨gb400, 3, none⟩ = some (.int .i64 a0_3) := (blk_cell BK400.out 3).trans rfl)); (try (have hfz22_0 := blk_frozen BK400.out 0)); (try (have hfz22_1 := blk_frozen BK400.out 1)); (try (have hfz22_2 := blk_frozen BK400.out 2)); (try (have hfz22_3 := blk_frozen BK400.out 3))) | (go_at_call 61; (with_reducible refine (spec_l2Over.calls kj7 x6_1 t402 _ A16.out).mono ?_); rintro e w' ⟨rfl, ⟨nd, rfl⟩⟩; (try first | exact ⟨rfl, _, World.drewN_drewN _ _ _⟩ | exact ⟨rfl, _, Eq.trans (World.drewN_drewN _ _ _) (congrArg (World.drewN _) (Nat.add_assoc _ _ _))⟩))); try go_wp2_with (first | (go_at_call 39; (with_reducible refine (spec_l2Top.calls  4294967295 _ AC_spec_l2Top.out).mono ?_); rintro e w' ⟨rfl, ⟨nd, rfl⟩⟩; (try first | exact ⟨rfl, _, World.drewN_drewN _ _ _⟩ | exact ⟨rfl, _, Eq.trans (World.drewN_drewN _ _ _) (congrArg (World.drewN _) (Nat.add_assoc _ _ _))⟩); (try (have hcz22_0 : wc.cell? ⟨gb400, 0, none⟩ = some (.int .i64 a0_0) := (blk_cell BK400.out 0).trans rfl)); (try (have hcz22_1 : wc.cell? ⟨gb400, 1, none⟩ = some (.int .i64 a0_1) := (blk_cell BK400.out 1).trans rfl)); (try (have hcz22_2 : wc.cell? ⟨gb400, 2, none⟩ = some (.int .i64 a0_2) := (blk_cell BK400.out 2).trans rfl)); (try (have hcz22_3 : wc.cell? ⟨gb400, 3, none⟩ = some (.int .i64 a0_3) := (blk_cell BK400.out 3).trans rfl)); (try (have hfz22_0 := blk_frozen BK400.out 0)); (try (have hfz22_1 := blk_frozen BK400.out 1)); (try (have hfz22_2 := blk_frozen BK400.out 2)); (try (have hfz22_3 := blk_frozen BK400.out 3))) | (go_at_call 61; (with_reducible refine (spec_l2Over.calls kj7 x6_1 t402 _ A16.out).mono ?_); rintro e w' ⟨rfl, ⟨nd, rfl⟩⟩; (try first | exact ⟨rfl, _, World.drewN_drewN _ _ _⟩ | exact ⟨rfl, _, Eq.trans (World.drewN_drewN _ _ _) (congrArg (World.drewN _) (Nat.add_assoc _ _ _))⟩))))
          go_roundg kj7
          case measure => have := HK1.out; have := HJ7.out; omega
          case rel => exact ⟨(x5_1), (wrap64 (x6_1 + 1)), (by first | rfl | (simp; done) | (simp [*]; done)), (by first | rfl | (simp; done) | (simp [*]; done)), H', ⟨by have := HK1.out; have := HJ7.out; omega⟩, ⟨by exact bq BK400.out⟩, ⟨zB⟩⟩
       ·rw [if_neg c17] at H
        have c17b0 : ((Go.bits .and .i64 (Go.bits .and .i64 x8_7 (Go.bits .xor .i64 4294967295 a0_3)) t402) == (Go.bits .and .i64 a0_2 t402)) = false := beq_eq_false_iff_ne.mpr c17
        have c17b1 : ((Go.bits .and .i64 (Go.bits .and .i64 x8_7 (Go.bits .xor .i64 4294967295 a0_3)) t402) != (Go.bits .and .i64 a0_2 t402)) = true := bne_iff_ne.mpr c17
        have H' := Aside0.mk H
        clear H
        go_wp2_with (first | (go_at_call 39; (with_reducible refine (spec_l2Top.calls  4294967295 _ AC_spec_l2Top.out).mono ?_); rintro e w' ⟨rfl, ⟨nd, rfl⟩⟩; (try first | exact ⟨rfl, _, World.drewN_drewN _ _ _⟩ | exact ⟨rfl, _, Eq.trans (World.drewN_drewN _ _ _) (congrArg (World.drewN _) (Nat.add_assoc _ _ _))⟩); obtain ⟨hcz23_0, hcz23_1, hcz23_2, hcz23_3, hfz23_0, hfz23_1, hfz23_2, hfz23_3⟩ := zc4 BK400) | (go_at_call 61; (with_reducible refine (spec_l2Over.calls kj7 x6_1 t402 _ A16.out).mono ?_); rintro e w' ⟨rfl, ⟨nd, rfl⟩⟩; (try first | exact ⟨rfl, _, World.drewN_drewN _ _ _⟩ | exact ⟨rfl, _, Eq.trans (World.drewN_drewN _ _ _) (congrArg (World.drewN _) (Nat.add_assoc _ _ _))⟩)))
        repeat (go_quiet (first | (go_at_call 39; (with_reducible refine (spec_l2Top.calls  4294967295 _ AC_spec_l2Top.out).mono ?_); rintro e w' ⟨rfl, ⟨nd, rfl⟩⟩; (try first | exact ⟨rfl, _, World.drewN_drewN _ _ _⟩ | exact ⟨rfl, _, Eq.trans (World.drewN_drewN _ _ _) (congrArg (World.drewN _) (Nat.add_assoc _ _ _))⟩); obtain ⟨hcz23_0, hcz23_1, hcz23_2, hcz23_3, hfz23_0, hfz23_1, hfz23_2, hfz23_3⟩ := zc4 BK400) | (go_at_call 61; (with_reducible refine (spec_l2Over.calls kj7 x6_1 t402 _ A16.out).mono ?_); rintro e w' ⟨rfl, ⟨nd, rfl⟩⟩; (try first | exact ⟨rfl, _, World.drewN_drewN _ _ _⟩ | exact ⟨rfl, _, Eq.trans (World.drewN_drewN _ _ _) (congrArg (World.drewN _) (Nat.add_assoc _ _ _))⟩))); try go_wp2_with (first | (go_at_call 39; (with_reducible refine (spec_l2Top.calls  4294967295 _ AC_spec_l2Top.out).mono ?_); rintro e w' ⟨rfl, ⟨nd, rfl⟩⟩; (try first | exact ⟨rfl, _, World.drewN_drewN _ _ _⟩ | exact ⟨rfl, _, Eq.trans (World.drewN_drewN _ _ _) (congrArg (World.drewN _) (Nat.add_assoc _ _ _))⟩); obtain ⟨hcz23_0, hcz23_1, hcz23_2, hcz23_3, hfz23_0, hfz23_1, hfz23_2, hfz23_3⟩ := zc4 BK400) | (go_at_call 61; (with_reducible refine (spec_l2Over.calls kj7 x6_1 t402 _ A16.out).mono ?_); rintro e w' ⟨rfl, ⟨nd, rfl⟩⟩; (try first | exact ⟨rfl, _, World.drewN_drewN _ _ _⟩ | exact ⟨rfl, _, Eq.trans (World.drewN_drewN _ _ _) (congrArg (World.drewN _) (Nat.add_assoc _ _ _))⟩))))
        go_roundg kj7
        case measure => have := HK1.out; have := HJ7.out; omega
        case rel => exact ⟨(x5_1), (wrap64 (x6_1 + 1)), (by first | rfl | (simp; done) | (simp [*]; done)), (by first | rfl | (simp; done) | (simp [*]; done)), H', ⟨by have := HK1.out; have := HJ7.out; omega⟩, ⟨by exact bq BK400.out⟩, ⟨zB⟩⟩
    ·rw [if_neg c5] at H
     exact absurd H (by simp)
   ·rw [if_neg c4] at H
    have c4b0 : decide (x6_1 ≤ 32) = false := decide_eq_false c4
    clear c4
    obtain rfl := Option.some.inj H
    go_wp2
    repeat (go_quiet (fail); try go_wp2)
    go_ret
    exact ⟨zR, zB⟩

/-! ### spec_l2Some: function 25 -/
def spec_l2Some.f (k : Nat) (a0_0 : Int) (a0_1 : Int) (a0_2 : Int) (a0_3 : Int) : Option (Bool) := (spec_l2Next.f k a0_0 a0_1 a0_2 a0_3 a0_0).bind fun t404 => (if t404 ≥ 0 then (some (decide (t404 ≤ a0_1))) else (some false))

set_option maxHeartbeats 8000000 in
set_option maxRecDepth 100000 in
theorem spec_l2Some.calls (k : Nat) (a0_0 : Int) (a0_1 : Int) (a0_2 : Int) (a0_3 : Int) (r : Bool) (w : World) (h : spec_l2Some.f k a0_0 a0_1 a0_2 a0_3 = some r) :
  Calls Try.prog 25 #[.agg #[.int .i64 a0_0, .int .i64 a0_1, .int .i64 a0_2, .int .i64 a0_3]] w fun e w' => e = .returned (.bool r) ∧ Below w.heap.size w w' := by
 have hu24 := Try.underlying24
 have HB := Aside0.mk (Below.refl w.heap.size w)
 have H : ((spec_l2Next.f k a0_0 a0_1 a0_2 a0_3 a0_0).bind fun t404 => (if t404 ≥ 0 then (some (decide (t404 ≤ a0_1))) else (some false))) = some r := h
 clear h
 replace H := Option.bind_eq_some_iff.mp H
 obtain ⟨t404, A20, H⟩ := H
 try dsimp only at H
 have A2 := Aside0.mk A20
 clear A20
 by_cases c3 : t404 ≥ 0
 ·rw [if_pos c3] at H
  have c3b0 : decide (0 ≤ t404) = true := decide_eq_true c3
  clear c3
  obtain rfl := Option.some.inj H
  go_enter Try.func25, Try.ntmps25
  go_wp2_with (first | ((with_reducible refine gate_dst (N := 1) rfl ?_); refine be 1 #[.int .i64 a0_0, .int .i64 a0_1, .int .i64 a0_2, .int .i64 a0_3] 24 ?_; intro gb403 hg w4 hbox hb; have BK403 := Aside0.mk hbox; have GW403 := zW hg; replace HB := zS hb; have GE403 := GW403; clear hb hbox hg; obtain ⟨hcz5_0, hcz5_1, hcz5_2, hcz5_3, hfz5_0, hfz5_1, hfz5_2, hfz5_3⟩ := zc4 BK403) | ((with_reducible refine gate_callee (f := 49) rfl ?_); refine gl 7 Try.func49 #[.agg #[.int .i64 a0_0, .int .i64 a0_1, .int .i64 a0_2, .int .i64 a0_3], .int .i64 a0_0] ?_; (with_reducible refine (spec_l2Next.calls k a0_0 a0_1 a0_2 a0_3 a0_0 t404 _ A2.out).mono ?_); rintro e w6 ⟨rfl, hb⟩; refine ⟨_, rfl, ?_⟩; replace BK403 := zb BK403 hb rfl; replace HB := zS hb; try clear hb; obtain ⟨hcz7_0, hcz7_1, hcz7_2, hcz7_3, hfz7_0, hfz7_1, hfz7_2, hfz7_3⟩ := zc4 BK403))
  go_ret
  exact ⟨zR, zB⟩
 ·rw [if_neg c3] at H
  have c3b0 : decide (0 ≤ t404) = false := decide_eq_false c3
  clear c3
  obtain rfl := Option.some.inj H
  go_enter Try.func25, Try.ntmps25
  go_wp2_with (first | ((with_reducible refine gate_dst (N := 1) rfl ?_); refine be 1 #[.int .i64 a0_0, .int .i64 a0_1, .int .i64 a0_2, .int .i64 a0_3] 24 ?_; intro gb403 hg w8 hbox hb; have BK403 := Aside0.mk hbox; have GW403 := zW hg; replace HB := zS hb; have GE403 := GW403; clear hb hbox hg; obtain ⟨hcz9_0, hcz9_1, hcz9_2, hcz9_3, hfz9_0, hfz9_1, hfz9_2, hfz9_3⟩ := zc4 BK403) | ((with_reducible refine gate_callee (f := 49) rfl ?_); refine gl 7 Try.func49 #[.agg #[.int .i64 a0_0, .int .i64 a0_1, .int .i64 a0_2, .int .i64 a0_3], .int .i64 a0_0] ?_; (with_reducible refine (spec_l2Next.calls k a0_0 a0_1 a0_2 a0_3 a0_0 t404 _ A2.out).mono ?_); rintro e w10 ⟨rfl, hb⟩; refine ⟨_, rfl, ?_⟩; replace BK403 := zb BK403 hb rfl; replace HB := zS hb; try clear hb))
  go_ret
  exact ⟨zR, zB⟩

/-! ### spec_l2Wrap: function 62 -/
def spec_l2Wrap.f (a0 : Int) : Option (Int) := some (Go.bits .and .i64 a0 4294967295)
set_option maxHeartbeats 8000000 in
set_option maxRecDepth 100000 in
theorem spec_l2Wrap.calls (a0 : Int) (r : Int) (w : World) (h : spec_l2Wrap.f a0 = some r) :
  Calls Try.prog 62 #[.int .i64 a0] w fun e w' => e = .returned (.int .i64 r) ∧ Drawn0 w w' := by
 have H : (some (Go.bits .and .i64 a0 4294967295)) = some r := h
 clear h
 obtain rfl := Option.some.inj H
 go_enter Try.func62, Try.ntmps62
 go_wp2
 go_ret
 exact ⟨by first | rfl | (simp; done) | (simp [*]; done), by repeat (first | exact Drawn0.refl _ | apply Drawn0.step)⟩

/-! ### spec_l2Do: function 50 -/
def spec_l2Do.f (a0 : Int) (a1 : Int) (a2 : Int) : Option (Int) := if a0 = 1 then (some a2) else (if a0 = 2 then ((spec_l2Wrap.f (wrap64 (a1 + a2))).bind fun t405 => (some t405)) else (if a0 = 3 then ((spec_l2Wrap.f (wrap64 (a1 - a2))).bind fun t406 => (some t406)) else (if a0 = 4 then ((spec_l2Wrap.f (wrap64 (a1 * a2))).bind fun t407 => (some t407)) else (if a0 = 5 then (some (Go.bits .and .i64 a1 a2)) else (if a0 = 6 then (some (Go.bits .or .i64 a1 a2)) else (if a0 = 7 then (some (Go.bits .xor .i64 a1 a2)) else (if a0 = 8 then (if 0 ≤ (Go.bits .and .i64 a2 31) then ((spec_l2Wrap.f (shl .i64 a1 (Go.bits .and .i64 a2 31))).bind fun t408 => (some t408)) else (none)) else (if a0 = 9 then (if 0 ≤ (Go.bits .and .i64 a2 31) then (some (shr .i64 a1 (Go.bits .and .i64 a2 31))) else (none)) else (if a0 = 10 then (if a2 = 0 then (some 0) else (some (wrap64 (Int.tdiv a1 a2)))) else (if a2 = 0 then (some a1) else (some (Int.tmod a1 a2))))))))))))
set_option maxHeartbeats 8000000 in
set_option maxRecDepth 100000 in
theorem spec_l2Do.calls (a0 : Int) (a1 : Int) (a2 : Int) (r : Int) (w : World) (h : spec_l2Do.f a0 a1 a2 = some r) :
  Calls Try.prog 50 #[.int .i64 a0, .int .i64 a1, .int .i64 a2] w fun e w' => e = .returned (.int .i64 r) ∧ Drawn0 w w' := by
 have H : (if a0 = 1 then (some a2) else (if a0 = 2 then ((spec_l2Wrap.f (wrap64 (a1 + a2))).bind fun t405 => (some t405)) else (if a0 = 3 then ((spec_l2Wrap.f (wrap64 (a1 - a2))).bind fun t406 => (some t406)) else (if a0 = 4 then ((spec_l2Wrap.f (wrap64 (a1 * a2))).bind fun t407 => (some t407)) else (if a0 = 5 then (some (Go.bits .and .i64 a1 a2)) else (if a0 = 6 then (some (Go.bits .or .i64 a1 a2)) else (if a0 = 7 then (some (Go.bits .xor .i64 a1 a2)) else (if a0 = 8 then (if 0 ≤ (Go.bits .and .i64 a2 31) then ((spec_l2Wrap.f (shl .i64 a1 (Go.bits .and .i64 a2 31))).bind fun t408 => (some t408)) else (none)) else (if a0 = 9 then (if 0 ≤ (Go.bits .and .i64 a2 31) then (some (shr .i64 a1 (Go.bits .and .i64 a2 31))) else (none)) else (if a0 = 10 then (if a2 = 0 then (some 0) else (some (wrap64 (Int.tdiv a1 a2)))) else (if a2 = 0 then (some a1) else (some (Int.tmod a1 a2))))))))))))) = some r := h
 clear h
 by_cases c4 : a0 = 1
 ·rw [if_pos c4] at H
  have c4b0 : (a0 == 1) = true := beq_iff_eq.mpr c4
  have c4b1 : (a0 != 1) = false := bne_eq_false_iff_eq.mpr c4
  clear c4
  obtain rfl := Option.some.inj H
  go_enter Try.func50, Try.ntmps50
  go_wp2
  go_ret
  exact ⟨by first | rfl | (simp; done) | (simp [*]; done), by repeat (first | exact Drawn0.refl _ | apply Drawn0.step)⟩
 ·rw [if_neg c4] at H
  have c4b0 : (a0 == 1) = false := beq_eq_false_iff_ne.mpr c4
  have c4b1 : (a0 != 1) = true := bne_iff_ne.mpr c4
  by_cases c5 : a0 = 2
  ·rw [if_pos c5] at H
   have c5b0 : (a0 == 2) = true := beq_iff_eq.mpr c5
   have c5b1 : (a0 != 2) = false := bne_eq_false_iff_eq.mpr c5
   clear c5
   replace H := Option.bind_eq_some_iff.mp H
   obtain ⟨t405, A60, H⟩ := H
   try dsimp only at H
   have A6 := Aside0.mk A60
   clear A60
   obtain rfl := Option.some.inj H
   go_enter Try.func50, Try.ntmps50
   go_wp2_with (first | ((with_reducible refine gate_callee (f := 62) rfl ?_); refine gl 16 Try.func62 #[.int .i64 (wrap64 (a1 + a2))] ?_; (with_reducible refine (spec_l2Wrap.calls (wrap64 (a1 + a2)) t405 _ A6.out).mono ?_); rintro e w' ⟨rfl, ⟨nd, rfl⟩⟩; refine ⟨_, rfl, ?_⟩))
   go_ret
   exact ⟨by first | rfl | (simp; done) | (simp [*]; done), by repeat (first | exact Drawn0.refl _ | apply Drawn0.step)⟩
  ·rw [if_neg c5] at H
   have c5b0 : (a0 == 2) = false := beq_eq_false_iff_ne.mpr c5
   have c5b1 : (a0 != 2) = true := bne_iff_ne.mpr c5
   by_cases c7 : a0 = 3
   ·rw [if_pos c7] at H
    have c7b0 : (a0 == 3) = true := beq_iff_eq.mpr c7
    have c7b1 : (a0 != 3) = false := bne_eq_false_iff_eq.mpr c7
    clear c7
    replace H := Option.bind_eq_some_iff.mp H
    obtain ⟨t406, A80, H⟩ := H
    try dsimp only at H
    have A8 := Aside0.mk A80
    clear A80
    obtain rfl := Option.some.inj H
    go_enter Try.func50, Try.ntmps50
    go_wp2_with (first | ((with_reducible refine gate_callee (f := 62) rfl ?_); refine gl 22 Try.func62 #[.int .i64 (wrap64 (a1 - a2))] ?_; (with_reducible refine (spec_l2Wrap.calls (wrap64 (a1 - a2)) t406 _ A8.out).mono ?_); rintro e w' ⟨rfl, ⟨nd, rfl⟩⟩; refine ⟨_, rfl, ?_⟩))
    go_ret
    exact ⟨by first | rfl | (simp; done) | (simp [*]; done), by repeat (first | exact Drawn0.refl _ | apply Drawn0.step)⟩
   ·rw [if_neg c7] at H
    have c7b0 : (a0 == 3) = false := beq_eq_false_iff_ne.mpr c7
    have c7b1 : (a0 != 3) = true := bne_iff_ne.mpr c7
    by_cases c9 : a0 = 4
    ·rw [if_pos c9] at H
     have c9b0 : (a0 == 4) = true := beq_iff_eq.mpr c9
     have c9b1 : (a0 != 4) = false := bne_eq_false_iff_eq.mpr c9
     clear c9
     replace H := Option.bind_eq_some_iff.mp H
     obtain ⟨t407, A100, H⟩ := H
     try dsimp only at H
     have A10 := Aside0.mk A100
     clear A100
     obtain rfl := Option.some.inj H
     go_enter Try.func50, Try.ntmps50
     go_wp2_with (first | ((with_reducible refine gate_callee (f := 62) rfl ?_); refine gl 28 Try.func62 #[.int .i64 (wrap64 (a1 * a2))] ?_; (with_reducible refine (spec_l2Wrap.calls (wrap64 (a1 * a2)) t407 _ A10.out).mono ?_); rintro e w' ⟨rfl, ⟨nd, rfl⟩⟩; refine ⟨_, rfl, ?_⟩))
     go_ret
     exact ⟨by first | rfl | (simp; done) | (simp [*]; done), by repeat (first | exact Drawn0.refl _ | apply Drawn0.step)⟩
    ·rw [if_neg c9] at H
     have c9b0 : (a0 == 4) = false := beq_eq_false_iff_ne.mpr c9
     have c9b1 : (a0 != 4) = true := bne_iff_ne.mpr c9
     by_cases c11 : a0 = 5
     ·rw [if_pos c11] at H
      have c11b0 : (a0 == 5) = true := beq_iff_eq.mpr c11
      have c11b1 : (a0 != 5) = false := bne_eq_false_iff_eq.mpr c11
      clear c11
      obtain rfl := Option.some.inj H
      go_enter Try.func50, Try.ntmps50
      go_wp2
      go_ret
      exact ⟨by first | rfl | (simp; done) | (simp [*]; done), by repeat (first | exact Drawn0.refl _ | apply Drawn0.step)⟩
     ·rw [if_neg c11] at H
      have c11b0 : (a0 == 5) = false := beq_eq_false_iff_ne.mpr c11
      have c11b1 : (a0 != 5) = true := bne_iff_ne.mpr c11
      by_cases c12 : a0 = 6
      ·rw [if_pos c12] at H
       have c12b0 : (a0 == 6) = true := beq_iff_eq.mpr c12
       have c12b1 : (a0 != 6) = false := bne_eq_false_iff_eq.mpr c12
       clear c12
       obtain rfl := Option.some.inj H
       go_enter Try.func50, Try.ntmps50
       go_wp2
       go_ret
       exact ⟨by first | rfl | (simp; done) | (simp [*]; done), by repeat (first | exact Drawn0.refl _ | apply Drawn0.step)⟩
      ·rw [if_neg c12] at H
       have c12b0 : (a0 == 6) = false := beq_eq_false_iff_ne.mpr c12
       have c12b1 : (a0 != 6) = true := bne_iff_ne.mpr c12
       by_cases c13 : a0 = 7
       ·rw [if_pos c13] at H
        have c13b0 : (a0 == 7) = true := beq_iff_eq.mpr c13
        have c13b1 : (a0 != 7) = false := bne_eq_false_iff_eq.mpr c13
        clear c13
        obtain rfl := Option.some.inj H
        go_enter Try.func50, Try.ntmps50
        go_wp2
        go_ret
        exact ⟨by first | rfl | (simp; done) | (simp [*]; done), by repeat (first | exact Drawn0.refl _ | apply Drawn0.step)⟩
       ·rw [if_neg c13] at H
        have c13b0 : (a0 == 7) = false := beq_eq_false_iff_ne.mpr c13
        have c13b1 : (a0 != 7) = true := bne_iff_ne.mpr c13
        by_cases c14 : a0 = 8
        ·rw [if_pos c14] at H
         have c14b0 : (a0 == 8) = true := beq_iff_eq.mpr c14
         have c14b1 : (a0 != 8) = false := bne_eq_false_iff_eq.mpr c14
         clear c14
         by_cases c15 : 0 ≤ (Go.bits .and .i64 a2 31)
         ·rw [if_pos c15] at H
          have c15b0 := eq_true c15
          have c15b1 : decide (0 ≤ (Go.bits .and .i64 a2 31)) = true := decide_eq_true c15
          clear c15
          obtain ⟨ji16, hji16⟩ : ∃ j_ : Int, (shl .i64 a1 (Go.bits .and .i64 a2 31)) = j_ := ⟨_, rfl⟩
          replace H : ((spec_l2Wrap.f (ji16)).bind fun t408 => (some t408)) = some r := by first | (rw [hji16] at H; exact H) | (simp only [hji16] at H ⊢; exact H)
          have hji16_ : (IntKind.i64.wrap (a1 * 2 ^ min (Go.bits .and .i64 a2 31).toNat 64)) = ji16 := hji16
          have hji16z : (Go.bits .and .i64 a2 31) ≤ 64 → (IntKind.i64.wrap (a1 * 2 ^ (Go.bits .and .i64 a2 31).toNat)) = ji16 := shl_small hji16
          have hji16y : (wrap64 (a1 * 2 ^ min (Go.bits .and .i64 a2 31).toNat 64)) = ji16 := (i64_w _).symm.trans hji16_
          have hji16x : (Go.bits .and .i64 a2 31) ≤ 64 → (wrap64 (a1 * 2 ^ (Go.bits .and .i64 a2 31).toNat)) = ji16 := fun h_ => (i64_w _).symm.trans (hji16z h_)
          replace H := Option.bind_eq_some_iff.mp H
          obtain ⟨t408, A170, H⟩ := H
          try dsimp only at H
          have A17 := Aside0.mk A170
          clear A170
          obtain rfl := Option.some.inj H
          go_enter Try.func50, Try.ntmps50
          go_wp2_with (first | ((with_reducible refine gate_callee (f := 62) rfl ?_); refine goesL_ (some 50) rfl rfl Try.func62 (by kernel_rfl) rfl #[.int .i64 ji16] rfl (by (try simp only [List.map_toArray, List.map_cons, List.map_nil]); first | done | (simp only [hji16]; rfl) | rfl | (simp only [List.length_drop, List.length_take]; rfl)) ?_; (with_reducible refine (spec_l2Wrap.calls ji16 t408 _ A17.out).mono ?_); rintro e w' ⟨rfl, ⟨nd, rfl⟩⟩; refine ⟨_, rfl, ?_⟩))
          go_ret
          exact ⟨by first | rfl | (simp; done) | (simp only [← hji16] <;> (first | rfl | simp)) | (simp [*]; done), by repeat (first | exact Drawn0.refl _ | apply Drawn0.step)⟩
         ·rw [if_neg c15] at H
          exact absurd H (by simp)
        ·rw [if_neg c14] at H
         have c14b0 : (a0 == 8) = false := beq_eq_false_iff_ne.mpr c14
         have c14b1 : (a0 != 8) = true := bne_iff_ne.mpr c14
         by_cases c18 : a0 = 9
         ·rw [if_pos c18] at H
          have c18b0 : (a0 == 9) = true := beq_iff_eq.mpr c18
          have c18b1 : (a0 != 9) = false := bne_eq_false_iff_eq.mpr c18
          clear c18
          by_cases c19 : 0 ≤ (Go.bits .and .i64 a2 31)
          ·rw [if_pos c19] at H
           have c19b0 := eq_true c19
           have c19b1 : decide (0 ≤ (Go.bits .and .i64 a2 31)) = true := decide_eq_true c19
           clear c19
           obtain ⟨ji20, hji20⟩ : ∃ j_ : Int, (shr .i64 a1 (Go.bits .and .i64 a2 31)) = j_ := ⟨_, rfl⟩
           replace H : (some ji20) = some r := by first | (rw [hji20] at H; exact H) | (simp only [hji20] at H ⊢; exact H)
           have hji20_ : (a1 / 2 ^ min (Go.bits .and .i64 a2 31).toNat 64) = ji20 := hji20
           have hji20z : (Go.bits .and .i64 a2 31) ≤ 64 → (a1 / 2 ^ (Go.bits .and .i64 a2 31).toNat) = ji20 := shr_small hji20
           obtain rfl := Option.some.inj H
           go_enter Try.func50, Try.ntmps50
           go_wp2
           go_ret
           exact ⟨by first | rfl | (simp; done) | (simp only [← hji20] <;> (first | rfl | simp)) | (simp [*]; done), by repeat (first | exact Drawn0.refl _ | apply Drawn0.step)⟩
          ·rw [if_neg c19] at H
           exact absurd H (by simp)
         ·rw [if_neg c18] at H
          have c18b0 : (a0 == 9) = false := beq_eq_false_iff_ne.mpr c18
          have c18b1 : (a0 != 9) = true := bne_iff_ne.mpr c18
          by_cases c21 : a0 = 10
          ·rw [if_pos c21] at H
           have c21b0 : (a0 == 10) = true := beq_iff_eq.mpr c21
           have c21b1 : (a0 != 10) = false := bne_eq_false_iff_eq.mpr c21
           clear c21
           by_cases c22 : a2 = 0
           ·rw [if_pos c22] at H
            have c22b0 : (a2 == 0) = true := beq_iff_eq.mpr c22
            have c22b1 : (a2 != 0) = false := bne_eq_false_iff_eq.mpr c22
            clear c22
            obtain rfl := Option.some.inj H
            go_enter Try.func50, Try.ntmps50
            go_wp2
            go_ret
            exact ⟨by first | rfl | (simp; done) | (simp [*]; done), by repeat (first | exact Drawn0.refl _ | apply Drawn0.step)⟩
           ·rw [if_neg c22] at H
            have c22b0 : (a2 == 0) = false := beq_eq_false_iff_ne.mpr c22
            have c22b1 : (a2 != 0) = true := bne_iff_ne.mpr c22
            obtain rfl := Option.some.inj H
            go_enter Try.func50, Try.ntmps50
            go_wp2
            go_ret
            exact ⟨by first | rfl | (simp; done) | (simp [*]; done), by repeat (first | exact Drawn0.refl _ | apply Drawn0.step)⟩
          ·rw [if_neg c21] at H
           have c21b0 : (a0 == 10) = false := beq_eq_false_iff_ne.mpr c21
           have c21b1 : (a0 != 10) = true := bne_iff_ne.mpr c21
           by_cases c23 : a2 = 0
           ·rw [if_pos c23] at H
            have c23b0 : (a2 == 0) = true := beq_iff_eq.mpr c23
            have c23b1 : (a2 != 0) = false := bne_eq_false_iff_eq.mpr c23
            clear c23
            obtain rfl := Option.some.inj H
            go_enter Try.func50, Try.ntmps50
            go_wp2
            go_ret
            exact ⟨by first | rfl | (simp; done) | (simp [*]; done), by repeat (first | exact Drawn0.refl _ | apply Drawn0.step)⟩
           ·rw [if_neg c23] at H
            have c23b0 : (a2 == 0) = false := beq_eq_false_iff_ne.mpr c23
            have c23b1 : (a2 != 0) = true := bne_iff_ne.mpr c23
            obtain rfl := Option.some.inj H
            go_enter Try.func50, Try.ntmps50
            go_wp2
            go_ret
            exact ⟨by first | rfl | (simp; done) | (simp [*]; done), by repeat (first | exact Drawn0.refl _ | apply Drawn0.step)⟩

/-! ### spec_l2Add: function 63 -/
def spec_l2Add.f (a0_0 : Int) (a0_1 : Int) (a0_2 : Int) (a0_3 : Int) (a1_0 : Int) (a1_1 : Int) (a1_2 : Int) (a1_3 : Int) : Option (Int × Int) := (spec_l2Wrap.f (Go.bits .or .i64 (Go.bits .or .i64 (Go.bits .xor .i64 (wrap64 (a0_2 + a1_2)) (wrap64 ((wrap64 ((wrap64 (a0_2 + a1_2)) + a0_3)) + a1_3))) a0_3) a1_3)).bind fun t411 => ((spec_l2Wrap.f (wrap64 (a0_2 + a1_2))).bind fun t412 => (some (Go.bits .and .i64 t412 (Go.bits .xor .i64 4294967295 t411), t411)))
set_option maxHeartbeats 8000000 in
set_option maxRecDepth 100000 in
theorem spec_l2Add.calls (a0_0 : Int) (a0_1 : Int) (a0_2 : Int) (a0_3 : Int) (a1_0 : Int) (a1_1 : Int) (a1_2 : Int) (a1_3 : Int) (r1 : Int) (r2 : Int) (w : World) (h : spec_l2Add.f a0_0 a0_1 a0_2 a0_3 a1_0 a1_1 a1_2 a1_3 = some (r1, r2)) :
  Calls Try.prog 63 #[.agg #[.int .i64 a0_0, .int .i64 a0_1, .int .i64 a0_2, .int .i64 a0_3], .agg #[.int .i64 a1_0, .int .i64 a1_1, .int .i64 a1_2, .int .i64 a1_3]] w fun e w' => e = .returned (.tuple #[.int .i64 r1, .int .i64 r2]) ∧ Below w.heap.size w w' := by
 have hu24 := Try.underlying24
 have HB := Aside0.mk (Below.refl w.heap.size w)
 have H : ((spec_l2Wrap.f (Go.bits .or .i64 (Go.bits .or .i64 (Go.bits .xor .i64 (wrap64 (a0_2 + a1_2)) (wrap64 ((wrap64 ((wrap64 (a0_2 + a1_2)) + a0_3)) + a1_3))) a0_3) a1_3)).bind fun t411 => ((spec_l2Wrap.f (wrap64 (a0_2 + a1_2))).bind fun t412 => (some (Go.bits .and .i64 t412 (Go.bits .xor .i64 4294967295 t411), t411)))) = some (r1, r2) := h
 clear h
 replace H := Option.bind_eq_some_iff.mp H
 obtain ⟨t411, A30, H⟩ := H
 try dsimp only at H
 have A3 := Aside0.mk A30
 clear A30
 replace H := Option.bind_eq_some_iff.mp H
 obtain ⟨t412, A40, H⟩ := H
 try dsimp only at H
 have A4 := Aside0.mk A40
 clear A40
 have AC_spec_l2Top := Aside0.mk (show spec_l2Top.f = some 4294967295 from rfl)
 simp only [Option.some.injEq, Prod.mk.injEq] at H
 obtain ⟨rfl, rfl⟩ := H
 go_enter Try.func63, Try.ntmps63
 go_wp2_with (first | ((with_reducible refine gate_dst (N := 2) rfl ?_); refine be 2 #[.int .i64 a0_0, .int .i64 a0_1, .int .i64 a0_2, .int .i64 a0_3] 24 ?_; intro gb409 hg w5 hbox hb; have BK409 := Aside0.mk hbox; have GW409 := zW hg; replace HB := zS hb; have GE409 := GW409; clear hb hbox hg) | ((with_reducible refine gate_dst (N := 3) rfl ?_); refine be 3 #[.int .i64 a1_0, .int .i64 a1_1, .int .i64 a1_2, .int .i64 a1_3] 24 ?_; intro gb410 hg w6 hbox hb; have BK410 := Aside0.mk hbox; have GW410 := zW hg; replace HB := zS hb; have GE410 := GW410; have NB409_410 := zl BK409 hg rfl; have NB410_409 := zg BK409 hg rfl; replace BK409 := zb BK409 hb rfl; clear hb hbox hg; have hnb7 := NB409_410.out; have hnc7 := NB410_409.out; obtain ⟨hcz8_0, hcz8_1, hcz8_2, hcz8_3, hfz8_0, hfz8_1, hfz8_2, hfz8_3⟩ := zc4 BK409; obtain ⟨hcz9_0, hcz9_1, hcz9_2, hcz9_3, hfz9_0, hfz9_1, hfz9_2, hfz9_3⟩ := zc4 BK410) | ((with_reducible refine gate_callee (f := 62) rfl ?_); refine gl 30 Try.func62 #[.int .i64 (Go.bits .or .i64 (Go.bits .or .i64 (Go.bits .xor .i64 (wrap64 (a0_2 + a1_2)) (wrap64 ((wrap64 ((wrap64 (a0_2 + a1_2)) + a0_3)) + a1_3))) a0_3) a1_3)] ?_; (with_reducible refine (spec_l2Wrap.calls (Go.bits .or .i64 (Go.bits .or .i64 (Go.bits .xor .i64 (wrap64 (a0_2 + a1_2)) (wrap64 ((wrap64 ((wrap64 (a0_2 + a1_2)) + a0_3)) + a1_3))) a0_3) a1_3) t411 _ A3.out).mono ?_); rintro e w' ⟨rfl, ⟨nd, rfl⟩⟩; refine ⟨_, rfl, ?_⟩) | ((with_reducible refine gate_callee (f := 62) rfl ?_); refine gl 32 Try.func62 #[.int .i64 (wrap64 (a0_2 + a1_2))] ?_; (with_reducible refine (spec_l2Wrap.calls (wrap64 (a0_2 + a1_2)) t412 _ A4.out).mono ?_); rintro e w' ⟨rfl, ⟨nd, rfl⟩⟩; refine ⟨_, rfl, ?_⟩) | ((with_reducible refine gate_callee (f := 39) rfl ?_); refine gl 33 Try.func39 #[] ?_; (with_reducible refine (spec_l2Top.calls  4294967295 _ AC_spec_l2Top.out).mono ?_); rintro e w' ⟨rfl, ⟨nd, rfl⟩⟩; refine ⟨_, rfl, ?_⟩))
 go_ret2
 exact ⟨zR, zB⟩

end Go.Proofs.Ytdhijcfohbkpoaa.Q
