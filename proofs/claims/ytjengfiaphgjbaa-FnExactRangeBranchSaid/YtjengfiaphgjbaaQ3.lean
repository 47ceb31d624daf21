/- The machine's side of this seat's laws: Go functions as Lean functions, and their contracts. By a program of this work over the kit's print. -/
import Derived.Test.YtjengfiaphgjbaaQ0
import Derived.Test.YtjengfiaphgjbaaQ1
namespace Go.Proofs.Ytjengfiaphgjbaa.Q
open Go.RowKit Go.Proofs.YtjengfiaphgjbaaW.PrintWords Go.Proofs.YtjengfiaphgjbaaW.PrintLast Go.Proofs.YtjengfiaphgjbaaW.PrintMore
attribute [local go_sem] max2_int min2_int max_two min_two max_three min_three max_four min_four Go.Proofs.YtjengfiaphgjbaaN.not_i64 Go.Proofs.YtjengfiaphgjbaaN.isSome_setCell   -- for this text's walks alone
set_option linter.unusedVariables false
set_option linter.unusedSimpArgs false

/-! ### spec_l2Mask: function 31 -/
def spec_l2Mask.l0 : Nat → Int → Int → Option (Int)
 | 0, _, _ => none
 | k + 1, x0, x3 => if x3 < x0 then (spec_l2Mask.l0 k x0 (wrap64 ((wrap64 (x3 * 2)) + 1))) else (some x3)
def spec_l2Mask.f (k : Nat) (a0 : Int) : Option (Int) := spec_l2Mask.l0 k a0 0


set_option maxHeartbeats 8000000 in
set_option maxRecDepth 100000 in
theorem spec_l2Mask.calls (k : Nat) (a0 : Int) (r : Int) (w : World) (h : spec_l2Mask.f k a0 = some r) :
  Calls Try.prog 31 #[.int .i64 a0] w fun e w' => e = .returned (.int .i64 r) ∧ Drawn0 w w' := by
 have H : (spec_l2Mask.l0 k a0 0) = some r := h
 clear h
 have H' := Aside0.mk H
 clear H
 go_enter Try.func31, Try.ntmps31
 go_wp2
 go_loopg [3] k (fun kq v3 w' => ∃ (x3_1 : Int), v3 = .int .i64 x3_1 ∧ Aside0 (spec_l2Mask.l0 kq a0 x3_1 = some r) ∧ Aside0 (kq ≤ k) ∧ Drawn0 w w')
 case atStart => exact ⟨(0), (by first | rfl | (simp; done) | (simp [*]; done)), H', ⟨Nat.le_refl _⟩, by repeat (first | exact Drawn0.refl _ | apply Drawn0.step)⟩
 case round =>
  clear H'
  obtain ⟨x3_1, rfl, HA, HK1, ⟨m1, rfl⟩⟩ := hrel
  cases gk with
  | zero => exact absurd HA.out (by simp [spec_l2Mask.l0])
  | succ k1 =>
   have H := HA.out
   clear HA
   simp only [spec_l2Mask.l0] at H
   by_cases c2 : x3_1 < a0
   ·rw [if_pos c2] at H
    have c2b0 : decide (x3_1 < a0) = true := decide_eq_true c2
    clear c2
    have H' := Aside0.mk H
    clear H
    go_wp2
    go_roundg k1
    case measure => have := HK1.out; omega
    case rel => exact ⟨(wrap64 ((wrap64 (x3_1 * 2)) + 1)), (by first | rfl | (simp; done) | (simp [*]; done)), H', ⟨by have := HK1.out; omega⟩, by repeat (first | exact Drawn0.refl _ | apply Drawn0.step)⟩
   ·rw [if_neg c2] at H
    have c2b0 : decide (x3_1 < a0) = false := decide_eq_false c2
    clear c2
    obtain rfl := Option.some.inj H
    go_wp2
    go_ret
    exact ⟨by first | rfl | (simp; done) | (simp [*]; done), by repeat (first | exact Drawn0.refl _ | apply Drawn0.step)⟩

/-! ### spec_l2Over: function 32 -/
def spec_l2Over.f (k : Nat) (a0 : Int) : Option (Int) := if a0 = 0 then (some 4294967295) else (if 0 ≤ (wrap64 (a0 - 1)) then ((spec_l2Mask.f k (wrap64 ((shl .i64 1 (wrap64 (a0 - 1))) - 1))).bind fun t106 => (some (Go.bits .xor .i64 4294967295 t106))) else (none))

set_option maxHeartbeats 8000000 in
set_option maxRecDepth 100000 in
theorem spec_l2Over.calls (k : Nat) (a0 : Int) (r : Int) (w : World) (h : spec_l2Over.f k a0 = some r) :
  Calls Try.prog 32 #[.int .i64 a0] w fun e w' => e = .returned (.int .i64 r) ∧ Drawn0 w w' := by
 have H : (if a0 = 0 then (some 4294967295) else (if 0 ≤ (wrap64 (a0 - 1)) then ((spec_l2Mask.f k (wrap64 ((shl .i64 1 (wrap64 (a0 - 1))) - 1))).bind fun t106 => (some (Go.bits .xor .i64 4294967295 t106))) else (none))) = some r := h
 clear h
 by_cases c2 : a0 = 0
 ·rw [if_pos c2] at H
  have c2b0 : (a0 == 0) = true := beq_iff_eq.mpr c2
  have c2b1 : (a0 != 0) = false := bne_eq_false_iff_eq.mpr c2
  clear c2
  have AC_spec_l2Top := Aside0.mk (show spec_l2Top.f = some 4294967295 from rfl)
  obtain rfl := Option.some.inj H
  go_enter Try.func32, Try.ntmps32
  go_wp2_with (first | (go_at_call 18; (with_reducible refine (spec_l2Top.calls  4294967295 _ AC_spec_l2Top.out).mono ?_); rintro e w' ⟨rfl, ⟨nd, rfl⟩⟩; (try first | exact ⟨rfl, _, World.drewN_drewN _ _ _⟩ | exact ⟨rfl, _, Eq.trans (World.drewN_drewN _ _ _) (congrArg (World.drewN _) (Nat.add_assoc _ _ _))⟩)))
  repeat (go_quiet (first | (go_at_call 18; (with_reducible refine (spec_l2Top.calls  4294967295 _ AC_spec_l2Top.out).mono ?_); rintro e w' ⟨rfl, ⟨nd, rfl⟩⟩; (try first | exact ⟨rfl, _, World.drewN_drewN _ _ _⟩ | exact ⟨rfl, _, Eq.trans (World.drewN_drewN _ _ _) (congrArg (World.drewN _) (Nat.add_assoc _ _ _))⟩))); try go_wp2_with (first | (go_at_call 18; (with_reducible refine (spec_l2Top.calls  4294967295 _ AC_spec_l2Top.out).mono ?_); rintro e w' ⟨rfl, ⟨nd, rfl⟩⟩; (try first | exact ⟨rfl, _, World.drewN_drewN _ _ _⟩ | exact ⟨rfl, _, Eq.trans (World.drewN_drewN _ _ _) (congrArg (World.drewN _) (Nat.add_assoc _ _ _))⟩))))
  go_ret
  exact ⟨by first | rfl | (simp; done) | (simp [*]; done), by repeat (first | exact Drawn0.refl _ | apply Drawn0.step)⟩
 ·rw [if_neg c2] at H
  have c2b0 : (a0 == 0) = false := beq_eq_false_iff_ne.mpr c2
  have c2b1 : (a0 != 0) = true := bne_iff_ne.mpr c2
  have AC_spec_l2Top := Aside0.mk (show spec_l2Top.f = some 4294967295 from rfl)
  obtain ⟨ji3, hji3⟩ : ∃ j_ : Int, (wrap64 (a0 - 1)) = j_ := ⟨_, rfl⟩
  replace H : (if 0 ≤ (ji3) then ((spec_l2Mask.f k (wrap64 ((shl .i64 1 (ji3)) - 1))).bind fun t106 => (some (Go.bits .xor .i64 4294967295 t106))) else (none)) = some r := by first | (rw [hji3] at H; exact H) | (simp only [hji3] at H ⊢; exact H)
  (try rw [hji3] at AC_spec_l2Top)
  have hji3w : (IntKind.i64.wrap (a0 - 1)) = ji3 := (i64_w _).trans hji3
  by_cases c4 : 0 ≤ (ji3)
  ·rw [if_pos c4] at H
   have c4b0 := eq_true c4
   have c4b1 : decide (0 ≤ (ji3)) = true := decide_eq_true c4
   clear c4
   obtain ⟨ji5, hji5⟩ : ∃ j_ : Int, (shl .i64 1 (ji3)) = j_ := ⟨_, rfl⟩
   replace H : ((spec_l2Mask.f k (wrap64 ((ji5) - 1))).bind fun t106 => (some (Go.bits .xor .i64 4294967295 t106))) = some r := by first | (rw [hji5] at H; exact H) | (simp only [hji5] at H ⊢; exact H)
   (try rw [hji5] at AC_spec_l2Top)
   have hji5_ : (IntKind.i64.wrap (1 * 2 ^ min (ji3).toNat 64)) = ji5 := hji5
   have hji5z : (ji3) ≤ 64 → (IntKind.i64.wrap (1 * 2 ^ (ji3).toNat)) = ji5 := shl_small hji5
   have hji5u : (IntKind.i64.wrap (2 ^ min (ji3).toNat 64)) = ji5 := by have h_ := hji5_; rw [Int.one_mul] at h_; exact h_
   have hji5v : (ji3) ≤ 64 → (IntKind.i64.wrap (2 ^ (ji3).toNat)) = ji5 := fun hle_ => by have h_ := hji5z hle_; rw [Int.one_mul] at h_; exact h_
   have hji5y : (wrap64 (1 * 2 ^ min (ji3).toNat 64)) = ji5 := (i64_w _).symm.trans hji5_
   have hji5x : (ji3) ≤ 64 → (wrap64 (1 * 2 ^ (ji3).toNat)) = ji5 := fun h_ => (i64_w _).symm.trans (hji5z h_)
   replace H := Option.bind_eq_some_iff.mp H
   obtain ⟨t106, A60, H⟩ := H
   try dsimp only at H
   have A6 := Aside0.mk A60
   clear A60
   obtain rfl := Option.some.inj H
   go_enter Try.func32, Try.ntmps32
   go_wp2_with (first | (go_at_call 18; (with_reducible refine (spec_l2Top.calls  4294967295 _ AC_spec_l2Top.out).mono ?_); rintro e w' ⟨rfl, ⟨nd, rfl⟩⟩; (try first | exact ⟨rfl, _, World.drewN_drewN _ _ _⟩ | exact ⟨rfl, _, Eq.trans (World.drewN_drewN _ _ _) (congrArg (World.drewN _) (Nat.add_assoc _ _ _))⟩)) | (go_at_call 31; (with_reducible refine (spec_l2Mask.calls k (wrap64 ((ji5) - 1)) t106 _ A6.out).mono ?_); rintro e w' ⟨rfl, ⟨nd, rfl⟩⟩; (try first | exact ⟨rfl, _, World.drewN_drewN _ _ _⟩ | exact ⟨rfl, _, Eq.trans (World.drewN_drewN _ _ _) (congrArg (World.drewN _) (Nat.add_assoc _ _ _))⟩)))
   repeat (go_quiet (first | (go_at_call 18; (with_reducible refine (spec_l2Top.calls  4294967295 _ AC_spec_l2Top.out).mono ?_); rintro e w' ⟨rfl, ⟨nd, rfl⟩⟩; (try first | exact ⟨rfl, _, World.drewN_drewN _ _ _⟩ | exact ⟨rfl, _, Eq.trans (World.drewN_drewN _ _ _) (congrArg (World.drewN _) (Nat.add_assoc _ _ _))⟩)) | (go_at_call 31; (with_reducible refine (spec_l2Mask.calls k (wrap64 ((ji5) - 1)) t106 _ A6.out).mono ?_); rintro e w' ⟨rfl, ⟨nd, rfl⟩⟩; (try first | exact ⟨rfl, _, World.drewN_drewN _ _ _⟩ | exact ⟨rfl, _, Eq.trans (World.drewN_drewN _ _ _) (congrArg (World.drewN _) (Nat.add_assoc _ _ _))⟩))); try go_wp2_with (first | (go_at_call 18; (with_reducible refine (spec_l2Top.calls  4294967295 _ AC_spec_l2Top.out).mono ?_); rintro e w' ⟨rfl, ⟨nd, rfl⟩⟩; (try first | exact ⟨rfl, _, World.drewN_drewN _ _ _⟩ | exact ⟨rfl, _, Eq.trans (World.drewN_drewN _ _ _) (congrArg (World.drewN _) (Nat.add_assoc _ _ _))⟩)) | (go_at_call 31; (with_reducible refine (spec_l2Mask.calls k (wrap64 ((ji5) - 1)) t106 _ A6.out).mono ?_); rintro e w' ⟨rfl, ⟨nd, rfl⟩⟩; (try first | exact ⟨rfl, _, World.drewN_drewN _ _ _⟩ | exact ⟨rfl, _, Eq.trans (World.drewN_drewN _ _ _) (congrArg (World.drewN _) (Nat.add_assoc _ _ _))⟩))))
   go_ret
   exact ⟨by first | rfl | (simp; done) | (simp only [← hji3, ← hji5] <;> (first | rfl | simp)) | (simp [*]; done), by repeat (first | exact Drawn0.refl _ | apply Drawn0.step)⟩
  ·rw [if_neg c4] at H
   exact absurd H (by simp)

/-! ### spec_l2Next: function 19 -/
mutual
def spec_l2Next.l0 : Nat → Int → Int → Int → Int → Int → Int → Int → Option (Int)
 | 0, _, _, _, _, _, _, _ => none
 | k + 1, x1, x5, x6, x108000, x108001, x108002, x108003 => if x6 ≤ 32 then (if 0 ≤ x6 then ((spec_l2Mask.f k (wrap64 ((shl .i64 1 x6) - 1))).bind fun t108 => (if x6 > 0 then (if 0 ≤ (wrap64 (x6 - 1)) then (if (Go.bits .and .i64 (shr .i64 x1 (wrap64 (x6 - 1))) 1) = 1 then (spec_l2Next.l0 k x1 x5 (wrap64 (x6 + 1)) x108000 x108001 x108002 x108003) else (spec_l2Next.j1 k x1 x5 x6 (Go.bits .or .i64 (Go.bits .and .i64 x1 (Go.bits .xor .i64 4294967295 t108)) (shl .i64 1 (wrap64 (x6 - 1)))) x108000 x108001 x108002 x108003)) else (none)) else (spec_l2Next.j1 k x1 x5 x6 (Go.bits .and .i64 x1 (Go.bits .xor .i64 4294967295 t108)) x108000 x108001 x108002 x108003))) else (none)) else (some x5)
def spec_l2Next.j1 : Nat → Int → Int → Int → Int → Int → Int → Int → Int → Option (Int)
 | 0, _, _, _, _, _, _, _, _ => none
 | k + 1, x1, x5, x6, x8, x108000, x108001, x108002, x108003 => (spec_l2Over.f k x6).bind fun t109 => (if (Go.bits .and .i64 (Go.bits .and .i64 x8 (Go.bits .xor .i64 4294967295 x108003)) t109) = (Go.bits .and .i64 x108002 t109) then (if x5 < 0 then (spec_l2Next.l0 k x1 (Go.bits .or .i64 (Go.bits .and .i64 x8 t109) (Go.bits .and .i64 x108002 (Go.bits .xor .i64 4294967295 t109))) (wrap64 (x6 + 1)) x108000 x108001 x108002 x108003) else (if (Go.bits .or .i64 (Go.bits .and .i64 x8 t109) (Go.bits .and .i64 x108002 (Go.bits .xor .i64 4294967295 t109))) < x5 then (spec_l2Next.l0 k x1 (Go.bits .or .i64 (Go.bits .and .i64 x8 t109) (Go.bits .and .i64 x108002 (Go.bits .xor .i64 4294967295 t109))) (wrap64 (x6 + 1)) x108000 x108001 x108002 x108003) else (spec_l2Next.l0 k x1 x5 (wrap64 (x6 + 1)) x108000 x108001 x108002 x108003))) else (spec_l2Next.l0 k x1 x5 (wrap64 (x6 + 1)) x108000 x108001 x108002 x108003))
end
def spec_l2Next.f (k : Nat) (a0_0 : Int) (a0_1 : Int) (a0_2 : Int) (a0_3 : Int) (a1 : Int) : Option (Int) := spec_l2Next.l0 k a1 (-1) 0 a0_0 a0_1 a0_2 a0_3


set_option maxHeartbeats 8000000 in
set_option maxRecDepth 100000 in
theorem spec_l2Next.calls (k : Nat) (a0_0 : Int) (a0_1 : Int) (a0_2 : Int) (a0_3 : Int) (a1 : Int) (r : Int) (w : World) (h : spec_l2Next.f k a0_0 a0_1 a0_2 a0_3 a1 = some r) :
  Calls Try.prog 19 #[.agg #[.int .i64 a0_0, .int .i64 a0_1, .int .i64 a0_2, .int .i64 a0_3], .int .i64 a1] w fun e w' => e = .returned (.int .i64 r) ∧ Below w.heap.size w w' := by
 have hu24 := Try.underlying24
 have HB := Aside0.mk (Below.refl w.heap.size w)
 have H : (spec_l2Next.l0 k a1 (-1) 0 a0_0 a0_1 a0_2 a0_3) = some r := h
 clear h
 have H' := Aside0.mk H
 clear H
 go_enter Try.func19, Try.ntmps19
 go_wp2_with (first | ((with_reducible refine gate_dst (N := 2) rfl ?_); refine be 2 #[.int .i64 a0_0, .int .i64 a0_1, .int .i64 a0_2, .int .i64 a0_3] 24 ?_; intro gb107 hg w3 hbox hb; have BK107 := Aside0.mk hbox; have GW107 := zW hg; replace HB := zS hb; have GE107 := GW107; clear hb hbox hg))
 repeat (go_quiet (first | ((with_reducible refine gate_dst (N := 2) rfl ?_); refine be 2 #[.int .i64 a0_0, .int .i64 a0_1, .int .i64 a0_2, .int .i64 a0_3] 24 ?_; intro gb107 hg w3 hbox hb; have BK107 := Aside0.mk hbox; have GW107 := zW hg; replace HB := zS hb; have GE107 := GW107; clear hb hbox hg)); try go_wp2_with (first | ((with_reducible refine gate_dst (N := 2) rfl ?_); refine be 2 #[.int .i64 a0_0, .int .i64 a0_1, .int .i64 a0_2, .int .i64 a0_3] 24 ?_; intro gb107 hg w3 hbox hb; have BK107 := Aside0.mk hbox; have GW107 := zW hg; replace HB := zS hb; have GE107 := GW107; clear hb hbox hg)))
 go_loopg [5, 6] k (fun kq v5 v6 w' => ∃ (x5_1 : Int) (x6_1 : Int), v5 = .int .i64 x5_1 ∧ v6 = .int .i64 x6_1 ∧ Aside0 (spec_l2Next.l0 kq a1 x5_1 x6_1 a0_0 a0_1 a0_2 a0_3 = some r) ∧ Aside0 (kq ≤ k) ∧ Aside0 (w'.heap[gb107]? = some (.cells #[.int .i64 a0_0, .int .i64 a0_1, .int .i64 a0_2, .int .i64 a0_3] 24 (0, 0))) ∧ Aside0 (Below w.heap.size w w'))
 case atStart => exact ⟨((-1)), (0), (by first | rfl | (simp; done) | (simp [*]; done)), (by first | rfl | (simp; done) | (simp [*]; done)), H', ⟨Nat.le_refl _⟩, ⟨by exact bq BK107.out⟩, ⟨zB⟩⟩
 case round =>
  clear H'
  try clear c1
  try clear p2
  obtain ⟨x5_1, x6_1, rfl, rfl, HA, HK1, BK107, HB⟩ := hrel
  cases gk with
  | zero => exact absurd HA.out (by simp [spec_l2Next.l0])
  | succ k1 =>
   have H := HA.out
   clear HA
   simp only [spec_l2Next.l0] at H
   by_cases c4 : x6_1 ≤ 32
   ·rw [if_pos c4] at H
    have c4b0 : decide (x6_1 ≤ 32) = true := decide_eq_true c4
    clear c4
    have AC_spec_l2Top := Aside0.mk (show spec_l2Top.f = some 4294967295 from rfl)
    by_cases c5 : 0 ≤ x6_1
    ·rw [if_pos c5] at H
     have c5b0 := eq_true c5
     have c5b1 : decide (0 ≤ x6_1) = true := decide_eq_true c5
     clear c5
     obtain ⟨ji6, hji6⟩ : ∃ j_ : Int, (shl .i64 1 x6_1) = j_ := ⟨_, rfl⟩
     replace H : ((spec_l2Mask.f k1 (wrap64 ((ji6) - 1))).bind fun t108 => (if x6_1 > 0 then (if 0 ≤ (wrap64 (x6_1 - 1)) then (if (Go.bits .and .i64 (shr .i64 a1 (wrap64 (x6_1 - 1))) 1) = 1 then (spec_l2Next.l0 k1 a1 x5_1 (wrap64 (x6_1 + 1)) a0_0 a0_1 a0_2 a0_3) else (spec_l2Next.j1 k1 a1 x5_1 x6_1 (Go.bits .or .i64 (Go.bits .and .i64 a1 (Go.bits .xor .i64 4294967295 t108)) (shl .i64 1 (wrap64 (x6_1 - 1)))) a0_0 a0_1 a0_2 a0_3)) else (none)) else (spec_l2Next.j1 k1 a1 x5_1 x6_1 (Go.bits .and .i64 a1 (Go.bits .xor .i64 4294967295 t108)) a0_0 a0_1 a0_2 a0_3))) = some r := by first | (rw [hji6] at H; exact H) | (simp only [hji6] at H ⊢; exact H)
     (try rw [hji6] at AC_spec_l2Top)
     have hji6_ : (IntKind.i64.wrap (1 * 2 ^ min x6_1.toNat 64)) = ji6 := hji6
     have hji6z : x6_1 ≤ 64 → (IntKind.i64.wrap (1 * 2 ^ x6_1.toNat)) = ji6 := shl_small hji6
     have hji6u : (IntKind.i64.wrap (2 ^ min x6_1.toNat 64)) = ji6 := by have h_ := hji6_; rw [Int.one_mul] at h_; exact h_
     have hji6v : x6_1 ≤ 64 → (IntKind.i64.wrap (2 ^ x6_1.toNat)) = ji6 := fun hle_ => by have h_ := hji6z hle_; rw [Int.one_mul] at h_; exact h_
     have hji6y : (wrap64 (1 * 2 ^ min x6_1.toNat 64)) = ji6 := (i64_w _).symm.trans hji6_
     have hji6x : x6_1 ≤ 64 → (wrap64 (1 * 2 ^ x6_1.toNat)) = ji6 := fun h_ => (i64_w _).symm.trans (hji6z h_)
     replace H := Option.bind_eq_some_iff.mp H
     obtain ⟨t108, A70, H⟩ := H
     try dsimp only at H
     have A7 := Aside0.mk A70
     clear A70
     have HC8 := Aside0.mk H
     clear H
     go_upto_if 24 with (first | (go_at_call 18; (with_reducible refine (spec_l2Top.calls  4294967295 _ AC_spec_l2Top.out).mono ?_); rintro e w' ⟨rfl, ⟨nd, rfl⟩⟩; (try first | exact ⟨rfl, _, World.drewN_drewN _ _ _⟩ | exact ⟨rfl, _, Eq.trans (World.drewN_drewN _ _ _) (congrArg (World.drewN _) (Nat.add_assoc _ _ _))⟩)) | (go_at_call 31; (with_reducible refine (spec_l2Mask.calls k1 (wrap64 ((ji6) - 1)) t108 _ A7.out).mono ?_); rintro e w' ⟨rfl, ⟨nd, rfl⟩⟩; (try first | exact ⟨rfl, _, World.drewN_drewN _ _ _⟩ | exact ⟨rfl, _, Eq.trans (World.drewN_drewN _ _ _) (congrArg (World.drewN _) (Nat.add_assoc _ _ _))⟩)))
     repeat (go_quiet (first | (go_at_call 18; (with_reducible refine (spec_l2Top.calls  4294967295 _ AC_spec_l2Top.out).mono ?_); rintro e w' ⟨rfl, ⟨nd, rfl⟩⟩; (try first | exact ⟨rfl, _, World.drewN_drewN _ _ _⟩ | exact ⟨rfl, _, Eq.trans (World.drewN_drewN _ _ _) (congrArg (World.drewN _) (Nat.add_assoc _ _ _))⟩)) | (go_at_call 31; (with_reducible refine (spec_l2Mask.calls k1 (wrap64 ((ji6) - 1)) t108 _ A7.out).mono ?_); rintro e w' ⟨rfl, ⟨nd, rfl⟩⟩; (try first | exact ⟨rfl, _, World.drewN_drewN _ _ _⟩ | exact ⟨rfl, _, Eq.trans (World.drewN_drewN _ _ _) (congrArg (World.drewN _) (Nat.add_assoc _ _ _))⟩))); go_upto_if 24 with (first | (go_at_call 18; (with_reducible refine (spec_l2Top.calls  4294967295 _ AC_spec_l2Top.out).mono ?_); rintro e w' ⟨rfl, ⟨nd, rfl⟩⟩; (try first | exact ⟨rfl, _, World.drewN_drewN _ _ _⟩ | exact ⟨rfl, _, Eq.trans (World.drewN_drewN _ _ _) (congrArg (World.drewN _) (Nat.add_assoc _ _ _))⟩)) | (go_at_call 31; (with_reducible refine (spec_l2Mask.calls k1 (wrap64 ((ji6) - 1)) t108 _ A7.out).mono ?_); rintro e w' ⟨rfl, ⟨nd, rfl⟩⟩; (try first | exact ⟨rfl, _, World.drewN_drewN _ _ _⟩ | exact ⟨rfl, _, Eq.trans (World.drewN_drewN _ _ _) (congrArg (World.drewN _) (Nat.add_assoc _ _ _))⟩))))
     (try simp only [Act.put, List.setIfInBounds_toArray, List.set_cons_zero, List.set_cons_succ])
     go_cut [8] (fun v8 wc => ∃ (kq : Nat) (x8_7 : Int), v8 = .int .i64 x8_7 ∧ Aside0 (spec_l2Next.j1 kq a1 x5_1 x6_1 x8_7 a0_0 a0_1 a0_2 a0_3 = some r) ∧ Aside0 (kq ≤ k1) ∧ Aside0 (wc.heap[gb107]? = some (.cells #[.int .i64 a0_0, .int .i64 a0_1, .int .i64 a0_2, .int .i64 a0_3] 24 (0, 0))) ∧ Aside0 (Below w.heap.size w wc))
     case first =>
      have H := HC8.out
      clear HC8
      by_cases c9 : x6_1 > 0
      ·rw [if_pos c9] at H
       have c9b0 : decide (0 < x6_1) = true := decide_eq_true c9
       clear c9
       (first | rw [c9b0] | (simp only [i64_w, i32_w]; rw [c9b0]) | skip)
       obtain ⟨ji10, hji10⟩ : ∃ j_ : Int, (wrap64 (x6_1 - 1)) = j_ := ⟨_, rfl⟩
       replace H : (if 0 ≤ (ji10) then (if (Go.bits .and .i64 (shr .i64 a1 (ji10)) 1) = 1 then (spec_l2Next.l0 k1 a1 x5_1 (wrap64 (x6_1 + 1)) a0_0 a0_1 a0_2 a0_3) else (spec_l2Next.j1 k1 a1 x5_1 x6_1 (Go.bits .or .i64 (Go.bits .and .i64 a1 (Go.bits .xor .i64 4294967295 t108)) (shl .i64 1 (ji10))) a0_0 a0_1 a0_2 a0_3)) else (none)) = some r := by first | (rw [hji10] at H; exact H) | (simp only [hji10] at H ⊢; exact H)
       have hji10w : (IntKind.i64.wrap (x6_1 - 1)) = ji10 := (i64_w _).trans hji10
       by_cases c11 : 0 ≤ (ji10)
       ·rw [if_pos c11] at H
        have c11b0 := eq_true c11
        have c11b1 : decide (0 ≤ (ji10)) = true := decide_eq_true c11
        clear c11
        obtain ⟨ji12, hji12⟩ : ∃ j_ : Int, (shr .i64 a1 (ji10)) = j_ := ⟨_, rfl⟩
        replace H : (if (Go.bits .and .i64 (ji12) 1) = 1 then (spec_l2Next.l0 k1 a1 x5_1 (wrap64 (x6_1 + 1)) a0_0 a0_1 a0_2 a0_3) else (spec_l2Next.j1 k1 a1 x5_1 x6_1 (Go.bits .or .i64 (Go.bits .and .i64 a1 (Go.bits .xor .i64 4294967295 t108)) (shl .i64 1 (ji10))) a0_0 a0_1 a0_2 a0_3)) = some r := by first | (rw [hji12] at H; exact H) | (simp only [hji12] at H ⊢; exact H)
        have hji12_ : (a1 / 2 ^ min (ji10).toNat 64) = ji12 := hji12
        have hji12z : (ji10) ≤ 64 → (a1 / 2 ^ (ji10).toNat) = ji12 := shr_small hji12
        by_cases c13 : (Go.bits .and .i64 (ji12) 1) = 1
        ·rw [if_pos c13] at H
         have c13b0 : ((Go.bits .and .i64 (ji12) 1) == 1) = true := beq_iff_eq.mpr c13
         have c13b1 : ((Go.bits .and .i64 (ji12) 1) != 1) = false := bne_eq_false_iff_eq.mpr c13
         clear c13
         have H' := Aside0.mk H
         clear H
         go_wp2
         repeat (go_quiet (fail); try go_wp2)
         go_roundg k1
         case measure => have := HK1.out; omega
         case rel => exact ⟨(x5_1), (wrap64 (x6_1 + 1)), (by first | rfl | (simp; done) | (simp [*]; done)), (by first | rfl | (simp; done) | (simp [*]; done)), H', ⟨by have := HK1.out; omega⟩, ⟨by exact bq BK107.out⟩, ⟨zB⟩⟩
        ·rw [if_neg c13] at H
         have c13b0 : ((Go.bits .and .i64 (ji12) 1) == 1) = false := beq_eq_false_iff_ne.mpr c13
         have c13b1 : ((Go.bits .and .i64 (ji12) 1) != 1) = true := bne_iff_ne.mpr c13
         have c14b0 := eq_true (of_decide_eq_true (by first | (with_reducible assumption) | assumption) : 0 ≤ (ji10))
         obtain ⟨ji15, hji15⟩ : ∃ j_ : Int, (shl .i64 1 (ji10)) = j_ := ⟨_, rfl⟩
         replace H : (spec_l2Next.j1 k1 a1 x5_1 x6_1 (Go.bits .or .i64 (Go.bits .and .i64 a1 (Go.bits .xor .i64 4294967295 t108)) (ji15)) a0_0 a0_1 a0_2 a0_3) = some r := by first | (rw [hji15] at H; exact H) | (simp only [hji15] at H ⊢; exact H)
         have hji15_ : (IntKind.i64.wrap (1 * 2 ^ min (ji10).toNat 64)) = ji15 := hji15
         have hji15z : (ji10) ≤ 64 → (IntKind.i64.wrap (1 * 2 ^ (ji10).toNat)) = ji15 := shl_small hji15
         have hji15u : (IntKind.i64.wrap (2 ^ min (ji10).toNat 64)) = ji15 := by have h_ := hji15_; rw [Int.one_mul] at h_; exact h_
         have hji15v : (ji10) ≤ 64 → (IntKind.i64.wrap (2 ^ (ji10).toNat)) = ji15 := fun hle_ => by have h_ := hji15z hle_; rw [Int.one_mul] at h_; exact h_
         have hji15y : (wrap64 (1 * 2 ^ min (ji10).toNat 64)) = ji15 := (i64_w _).symm.trans hji15_
         have hji15x : (ji10) ≤ 64 → (wrap64 (1 * 2 ^ (ji10).toNat)) = ji15 := fun h_ => (i64_w _).symm.trans (hji15z h_)
         have H' := Aside0.mk H
         clear H
         go_wp2
         repeat (go_quiet (fail); try go_wp2)
         go_meet
         case rel => exact ⟨_, (Go.bits .or .i64 (Go.bits .and .i64 a1 (Go.bits .xor .i64 4294967295 t108)) (ji15)), (by first | rfl | (simp; done) | (simp only [← hji15] <;> (first | rfl | simp)) | (simp [*]; done)), H', ⟨by have := HK1.out; first | omega | exact Nat.le_refl _⟩, ⟨by exact bq BK107.out⟩, ⟨zB⟩⟩
       ·rw [if_neg c11] at H
        exact absurd H (by simp)
      ·rw [if_neg c9] at H
       have c9b0 : decide (0 < x6_1) = false := decide_eq_false c9
       clear c9
       (first | rw [c9b0] | (simp only [i64_w, i32_w]; rw [c9b0]) | skip)
       have H' := Aside0.mk H
       clear H
       go_wp2
       repeat (go_quiet (fail); try go_wp2)
       go_meet
       case rel => exact ⟨_, (Go.bits .and .i64 a1 (Go.bits .xor .i64 4294967295 t108)), (by first | rfl | (simp; done) | (simp [*]; done)), H', ⟨by have := HK1.out; first | omega | exact Nat.le_refl _⟩, ⟨by exact bq BK107.out⟩, ⟨zB⟩⟩
     case rest =>
      clear HC8
      try clear c1
      try clear p2 p2
      try clear c4
      try clear c4b0
      try clear c5
      try clear c5b0
      try clear c5b1
      try clear p6
      try clear c9
      try clear c9b0
      try clear c11
      try clear c11b0
      try clear c11b1
      try clear c13
      try clear c13b0
      try clear c13b1
      try clear c14
      try clear c14b0
      obtain ⟨kq, x8_7, rfl, HA, HJ7, BK107, HB⟩ := hcut
      cases kq with
      | zero => exact absurd HA.out (by simp [spec_l2Next.j1])
      | succ kj7 =>
       have H := HA.out
       clear HA
       simp only [spec_l2Next.j1] at H
       have AC_spec_l2Top := Aside0.mk (show spec_l2Top.f = some 4294967295 from rfl)
       replace H := Option.bind_eq_some_iff.mp H
       obtain ⟨t109, A160, H⟩ := H
       try dsimp only at H
       have A16 := Aside0.mk A160
       clear A160
       by_cases c17 : (Go.bits .and .i64 (Go.bits .and .i64 x8_7 (Go.bits .xor .i64 4294967295 a0_3)) t109) = (Go.bits .and .i64 a0_2 t109)
       ·rw [if_pos c17] at H
        have c17b0 : ((Go.bits .and .i64 (Go.bits .and .i64 x8_7 (Go.bits .xor .i64 4294967295 a0_3)) t109) == (Go.bits .and .i64 a0_2 t109)) = true := beq_iff_eq.mpr c17
        have c17b1 : ((Go.bits .and .i64 (Go.bits .and .i64 x8_7 (Go.bits .xor .i64 4294967295 a0_3)) t109) != (Go.bits .and .i64 a0_2 t109)) = false := bne_eq_false_iff_eq.mpr c17
        clear c17
        have AC_spec_l2Top := Aside0.mk (show spec_l2Top.f = some 4294967295 from rfl)
        by_cases c18 : x5_1 < 0
        ·rw [if_pos c18] at H
         have c18b0 : decide (x5_1 < 0) = true := decide_eq_true c18
         clear c18
         have H' := Aside0.mk H
         clear H
         go_wp2_with (first | (go_at_call 18; (with_reducible refine (spec_l2Top.calls  4294967295 _ AC_spec_l2Top.out).mono ?_); rintro e w' ⟨rfl, ⟨nd, rfl⟩⟩; (try first | exact ⟨rfl, _, World.drewN_drewN _ _ _⟩ | exact ⟨rfl, _, Eq.trans (World.drewN_drewN _ _ _) (congrArg (World.drewN _) (Nat.add_assoc _ _ _))⟩); (try (have hcz19_0 : wc.cell? ⟨gb107, 0, none⟩ = some (.int .i64 a0_0) := (blk_cell BK107.out 0).trans rfl)); (try (have hcz19_1 : wc.cell? ⟨gb107, 1, none⟩ = some (.int .i64 a0_1) := (blk_cell BK107.out 1).trans rfl)); (try (have hcz19_2 : wc.cell? ⟨gb107, 2, none⟩ = some (.int .i64 a0_2) := (blk_cell BK107.out 2).trans rfl)); (try (have hcz19_3 : wc.cell? ⟨gb107, 3, none⟩ = some (.int .i64 a0_3) := (blk_cell BK107.out 3).trans rfl)); (try (have hfz19_0 := blk_frozen BK107.out 0)); (try (have hfz19_1 := blk_frozen BK107.out 1)); (try (have hfz19_2 := blk_frozen BK107.out 2)); (try (have hfz19_3 := blk_frozen BK107.out 3))) | (go_at_call 32; (with_reducible refine (spec_l2Over.calls kj7 x6_1 t109 _ A16.out).mono ?_); rintro e w' ⟨rfl, ⟨nd, rfl⟩⟩; (try first | exact ⟨rfl, _, World.drewN_drewN _ _ _⟩ | exact ⟨rfl, _, Eq.trans (World.drewN_drewN _ _ _) (congrArg (World.drewN _) (Nat.add_assoc _ _ _))⟩)))
         repeat (go_quiet (first | (go_at_call 18; (with_reducible refine (spec_l2Top.calls  4294967295 _ AC_spec_l2Top.out).mono ?_); rintro e w' ⟨rfl, ⟨nd, rfl⟩⟩; (try first | exact ⟨rfl, _, World.drewN_drewN _ _ _⟩ | exact ⟨rfl, _, Eq.trans (World.drewN_drewN _ _ _) (congrArg (World.drewN _) (Nat.add_assoc _ _ _))⟩); (try (have hcz19_0 : wc.cell? ⟨gb107, 0, none⟩ = some (.int .i64 a0_0) := (blk_cell BK107.out 0).trans rfl)); (try (have hcz19_1 : wc.cell? ⟨gb107, 1, none⟩ = some (.int .i64 a0_1) := (blk_cell BK107.out 1).trans rfl)); (try (have hcz19_2 : wc.cell? ⟨gb107, 2, none⟩ = some (.int .i64 a0_2) := (blk_cell BK107.out 2).trans rfl)); (try (have hcz19_3 : wc.cell? ⟨gb107, 3, none⟩ = some (.int .i64 a0_3) := (blk_cell BK107.out 3).trans rfl)); (try (have hfz19_0 := blk_frozen BK107.out 0)); (try (have hfz19_1 := blk_frozen BK107.out 1)); (try (have hfz19_2 := blk_frozen BK107.out 2)); (try (have hfz19_3 := blk_frozen BK107.out 3))) | (go_at_call 32; (with_reducible refine (spec_l2Over.calls kj7 x6_1 t109 _ A16.out).mono ?_); rintro e w' ⟨rfl, ⟨nd, rfl⟩⟩; (try first | exact ⟨rfl, _, World.drewN_drewN _ _ _⟩ | exact ⟨rfl, _, Eq.trans (World.drewN_drewN _ _ _) (congrArg (World.drewN _) (Nat.add_assoc _ _ _))⟩))); try go_wp2_with (first | (go_at_call 18; (with_reducible refine (spec_l2Top.calls  4294967295 _ AC_spec_l2Top.out).mono ?_); rintro e w' ⟨rfl, ⟨nd, rfl⟩⟩; (try first | exact ⟨rfl, _, World.drewN_drewN _ _ _⟩ | exact ⟨rfl, _, Eq.trans (World.drewN_drewN _ _ _) (congrArg (World.drewN _) (Nat.add_assoc _ _ _))⟩); (try (have hcz19_0 : wc.cell? ⟨gb107, 0, none⟩ = some (.int .i64 a0_0) := (blk_cell BK107.out 0).trans rfl)); (try (have hcz19_1 : wc.cell? ⟨gb107, 1, none⟩ = some (.int .i64 a0_1) := (blk_cell BK107.out 1).trans rfl)); (try (have hcz19_2 : wc.cell? ⟨gb107, 2, none⟩ = some (.int .i64 a0_2) := (blk_cell BK107.out 2).trans rfl)); (try (have hcz19_3 : wc.cell? ⟨gb107, 3, none⟩ = some (.int .i64 a0_3) := (blk_cell BK107.out 3).trans rfl)); (try (have hfz19_0 := blk_frozen BK107.out 0)); (try (have hfz19_1 := blk_frozen BK107.out 1)); (try (have hfz19_2 := blk_frozen BK107.out 2)); (try (have hfz19_3 := blk_frozen BK107.out 3))) | (go_at_call 32; (with_reducible refine (spec_l2Over.calls kj7 x6_1 t109 _ A16.out).mono ?_); rintro e w' ⟨rfl, ⟨nd, rfl⟩⟩; (try first | exact ⟨rfl, _, World.drewN_drewN _ _ _⟩ | exact ⟨rfl, _, Eq.trans (World.drewN_drewN _ _ _) (congrArg (World.drewN _) (Nat.add_assoc _ _ _))⟩))))
         go_roundg kj7
         case measure => have := HK1.out; have := HJ7.out; omega
         case rel => exact ⟨(Go.bits .or .i64 (Go.bits .and .i64 x8_7 t109) (Go.bits .and .i64 a0_2 (Go.bits .xor .i64 4294967295 t109))), (wrap64 (x6_1 + 1)), (by first | rfl | (simp; done) | (simp [*]; done)), (by first | rfl | (simp; done) | (simp [*]; done)), H', ⟨by have := HK1.out; have := HJ7.out; omega⟩, ⟨by exact bq BK107.out⟩, ⟨zB⟩⟩
        ·rw [if_neg c18] at H
         have c18b0 : decide (x5_1 < 0) = false := decide_eq_false c18
         clear c18
         by_cases c20 : (Go.bits .or .i64 (Go.bits .and .i64 x8_7 t109) (Go.bits .and .i64 a0_2 (Go.bits .xor .i64 4294967295 t109))) < x5_1
         ·rw [if_pos c20] at H
          have c20b0 : decide ((Go.bits .or .i64 (Go.bits .and .i64 x8_7 t109) (Go.bits .and .i64 a0_2 (Go.bits .xor .i64 4294967295 t109))) < x5_1) = true := decide_eq_true c20
          clear c20
          have H' := Aside0.mk H
          clear H
          go_wp2_with (first | (go_at_call 18; (with_reducible refine (spec_l2Top.calls  4294967295 _ AC_spec_l2Top.out).mono ?_); rintro e w' ⟨rfl, ⟨nd, rfl⟩⟩; (try first | exact ⟨rfl, _, World.drewN_drewN _ _ _⟩ | exact ⟨rfl, _, Eq.trans (World.drewN_drewN _ _ _) (congrArg (World.drewN _) (Nat.add_assoc _ _ _))⟩); (try (have hcz21_0 : wc.cell? ⟨gb107, 0, none⟩ = some (.int .i64 a0_0) := (blk_cell BK107.out 0).trans rfl)); (try (have hcz21_1 : wc.cell? ⟨gb107, 1, none⟩ = some (.int .i64 a0_1) := (blk_cell BK107.out 1).trans rfl)); (try (have hcz21_2 : wc.cell? ⟨gb107, 2, none⟩ = some (.int .i64 a0_2) := (blk_cell BK107.out 2).trans rfl)); (try (have hcz21_3 : wc.cell? ⟨gb107, 3, none⟩ = some (.int .i64 a0_3) := (blk_cell BK107.out 3).trans rfl)); (try (have hfz21_0 := blk_frozen BK107.out 0)); (try (have hfz21_1 := blk_frozen BK107.out 1)); (try (have hfz21_2 := blk_frozen BK107.out 2)); (try (have hfz21_3 := blk_frozen BK107.out 3))) | (go_at_call 32; (with_reducible refine (spec_l2Over.calls kj7 x6_1 t109 _ A16.out).mono ?_); rintro e w' ⟨rfl, ⟨nd, rfl⟩⟩; (try first | exact ⟨rfl, _, World.drewN_drewN _ _ _⟩ | exact ⟨rfl, _, Eq.trans (World.drewN_drewN _ _ _) (congrArg (World.drewN _) (Nat.add_assoc _ _ _))⟩)))
          repeat (go_quiet (first | (go_at_call 18; (with_reducible refine (spec_l2Top.calls  4294967295 _ AC_spec_l2Top.out).mono ?_); rintro e w' ⟨rfl, ⟨nd, rfl⟩⟩; (try first | exact ⟨rfl, _, World.drewN_drewN _ _ _⟩ | exact ⟨rfl, _, Eq.trans (World.drewN_drewN _ _ _) (congrArg (World.drewN _) (Nat.add_assoc _ _ _))⟩); (try (have hcz21_0 : wc.cell? ⟨gb107, 0, none⟩ = some (.int .i64 a0_0) := (blk_cell BK107.out 0).trans rfl)); (try (have hcz21_1 : wc.cell? ⟨gb107, 1, none⟩ = some (.int .i64 a0_1) := (blk_cell BK107.out 1).trans rfl)); (try (have hcz21_2 : wc.cell? ⟨gb107, 2, none⟩ = some (.int .i64 a0_2) := (blk_cell BK107.out 2).trans rfl)); (try (have hcz21_3 : wc.cell? ⟨gb107, 3, none⟩ = some (.int .i64 a0_3) := (blk_cell BK107.out 3).trans rfl)); (try (have hfz21_0 := blk_frozen BK107.out 0)); (try (have hfz21_1 := blk_frozen BK107.out 1)); (try (have hfz21_2 := blk_frozen BK107.out 2)); (try (have hfz21_3 := blk_frozen BK107.out 3))) | (go_at_call 32; (with_reducible refine (spec_l2Over.calls kj7 x6_1 t109 _ A16.out).mono ?_); rintro e w' ⟨rfl, ⟨nd, rfl⟩⟩; (try first | exact ⟨rfl, _, World.drewN_drewN _ _ _⟩ | exact ⟨rfl, _, Eq.trans (World.drewN_drewN _ _ _) (congrArg (World.drewN _) (Nat.add_assoc _ _ _))⟩))); try go_wp2_with (first | (go_at_call 18; (with_reducible refine (spec_l2Top.calls  4294967295 _ AC_spec_l2Top.out).mono ?_); rintro e w' ⟨rfl, ⟨nd, rfl⟩⟩; (try first | exact ⟨rfl, _, World.drewN_drewN _ _ _⟩ | exact ⟨rfl, _, Eq.trans (World.drewN_drewN _ _ _) (congrArg (World.drewN _) (Nat.add_assoc _ _ _))⟩); (try (have hcz21_0 : wc.cell? ⟨gb107, 0, none⟩ = some (.int .i64 a0_0) := (blk_cell BK107.out 0).trans rfl)); (try (have hcz21_1 : wc.cell? ⟨gb107, 1, none⟩ = some (.int .i64 a0_1) := (blk_cell BK107.out 1).trans rfl)); (try (have hcz21_2 : wc.cell? ⟨gb107, 2, none⟩ = some (.int .i64 a0_2) := (blk_cell BK107.out 2).trans rfl)); (try (have hcz21_3 : wc.cell? ⟨gb107, 3, none⟩ = some (.int .i64 a0_3) := (blk_cell BK107.out 3).trans rfl)); (try (have hfz21_0 := blk_frozen BK107.out 0)); (try (have hfz21_1 := blk_frozen BK107.out 1)); (try (have hfz21_2 := blk_frozen BK107.out 2)); (try (have hfz21_3 := blk_frozen BK107.out 3))) | (go_at_call 32; (with_reducible refine (spec_l2Over.calls kj7 x6_1 t109 _ A16.out).mono ?_); rintro e w' ⟨rfl, ⟨nd, rfl⟩⟩; (try first | exact ⟨rfl, _, World.drewN_drewN _ _ _⟩ | exact ⟨rfl, _, Eq.trans (World.drewN_drewN _ _ _) (congrArg (World.drewN _) (Nat.add_assoc _ _ _))⟩))))
          go_roundg kj7
          case measure => have := HK1.out; have := HJ7.out; omega
          case rel => exact ⟨(Go.bits .or .i64 (Go.bits .and .i64 x8_7 t109) (Go.bits .and .i64 a0_2 (Go.bits .xor .i64 4294967295 t109))), (wrap64 (x6_1 + 1)), (by first | rfl | (simp; done) | (simp [*]; done)), (by first | rfl | (simp; done) | (simp [*]; done)), H', ⟨by have := HK1.out; have := HJ7.out; omega⟩, ⟨by exact bq BK107.out⟩, ⟨zB⟩⟩
         ·rw [if_neg c20] at H
          have c20b0 : decide ((Go.bits .or .i64 (Go.bits .and .i64 x8_7 t109) (Go.bits .and .i64 a0_2 (Go.bits .xor .i64 4294967295 t109))) < x5_1) = false := decide_eq_false c20
          clear c20
          have H' := Aside0.mk H
          clear H
          go_wp2_with (first | (go_at_call 18; (with_reducible refine (spec_l2Top.calls  4294967295 _ AC_spec_l2Top.out).mono ?_); rintro e w' ⟨rfl, ⟨nd, rfl⟩⟩; (try first | exact ⟨rfl, _, World.drewN_drewN _ _ _⟩ | exact ⟨rfl, _, Eq.trans (World.drewN_drewN _ _ _) (congrArg (World.drewN _) (Nat.add_assoc _ _ _))⟩); (try (have hcz22_0 : wc.cell? ⟨gb107, 0, none⟩ = some (.int .i64 a0_0) := (blk_cell BK107.out 0).trans rfl)); (try (have hcz22_1 : wc.cell? ⟨gb107, 1, none⟩ = some (.int .i64 a0_1) := (blk_cell BK107.out 1).trans rfl)); (try (have hcz22_2 : wc.cell? ⟨gb107, 2, none⟩ = some (.int .i64 a0_2) := (blk_cell BK107.out 2).trans rfl)); (try (have hcz22_3 : wc.cell? ⟨gb107, 3, none⟩ = some (.int .i64 a0_3) := (blk_cell BK107.out 3).trans rfl)); (try (have hfz22_0 := blk_frozen BK107.out 0)); (try (have hfz22_1 := blk_frozen BK107.out 1)); (try (have hfz22_2 := blk_frozen BK107.out 2)); (try (have hfz22_3 := blk_frozen BK107.out 3))) | (go_at_call 32; (with_reducible refine (spec_l2Over.calls kj7 x6_1 t109 _ A16.out).mono ?_); rintro e w' ⟨rfl, ⟨nd, rfl⟩⟩; (try first | exact ⟨rfl, _, World.drewN_drewN _ _ _⟩ | exact ⟨rfl, _, Eq.trans (World.drewN_drewN _ _ _) (congrArg (World.drewN _) (Nat.add_assoc _ _ _))⟩)))
          repeat (go_quiet (first | (go_at_call 18; (with_reducible refine (spec_l2Top.calls  4294967295 _ AC_spec_l2Top.out).mono ?_); rintro e w' ⟨rfl, ⟨nd, rfl⟩⟩; (try first | exact ⟨rfl, _, World.drewN_drewN _ _ _⟩ | exact ⟨rfl, _, Eq.trans (World.drewN_drewN _ _ _) (congrArg (World.drewN _) (Nat.add_assoc _ _ _))⟩); (try (have hcz22_0 : wc.cell? ⟨gb107, 0, none⟩ = some (.int .i64 a0_0) := (blk_cell BK107.out 0).trans rfl)); (try (have hcz22_1 : wc.cell? ⟨gb107, 1, none⟩ = some (.int .i64 a0_1) := (blk_cell BK107.out 1).trans rfl)); (try (have hcz22_2 : wc.cell? ⟨gb107, 2, none⟩ = some (.int .i64 a0_2) := (blk_cell BK107.out 2).trans rfl)); (try (have hcz22_3 : wc.cell? ⟨gb107, 3, none⟩ = some (.int .i64 a0_3) := (blk_cell BK107.out 3).trans rfl)); (try (have hfz22_0 := blk_frozen BK107.out 0)); (try (have hfz22_1 := blk_frozen BK107.out 1)); (try (have hfz22_2 := blk_frozen BK107.out 2)); (try (have hfz22_3 := blk_frozen BK107.out 3))) | (go_at_call 32; (with_reducible refine (spec_l2Over.calls kj7 x6_1 t109 _ A16.out).mono ?_); rintro e w' ⟨rfl, ⟨nd, rfl⟩⟩; (try first | exact ⟨rfl, _, World.drewN_drewN _ _ _⟩ | exact ⟨rfl, _, Eq.trans (World.drewN_drewN _ _ _) (congrArg (World.drewN _) (Nat.add_assoc _ _ _))⟩))); try go_wp2_with (first | (go_at_call 18; (with_reducible refine (spec_l2Top.calls  4294967295 _ AC_spec_l2Top.out).mono ?_); rintro e w' ⟨rfl, ⟨nd, rfl⟩⟩; (try first | exact ⟨rfl, _, World.drewN_drewN _ _ _⟩ | exact ⟨rfl, _, Eq.trans (World.drewN_drewN _ _ _) (congrArg (World.drewN _) (Nat.add_assoc _ _ _))⟩); (try (have hcz22_0 : wc.cell? ⟨gb107, 0, none⟩ = some (.int .i64 a0_0) := (blk_cell BK107.out 0).trans rfl)); (try (have hcz22_1 : wc.cell? ⟨gb107, 1, none⟩ = some (.int .i64 a0_1) := (blk_cell BK107.out 1).trans rfl)); (try (have hcz22_2 : wc.cell? ⟨gb107, 2, none⟩ = some (.int .i64 a0_2) := (blk_cell BK107.out 2).trans rfl)); (try (have hcz22_3 : wc.cell? ⟨gb107, 3, none⟩ = some (.int .i64 a0_3) := (blk_cell BK107.out 3).trans rfl)); (try (have hfz22_0 := blk_frozen BK107.out 0)); (try (have hfz22_1 := blk_frozen BK107.out 1)); (try (have hfz22_2 := blk_frozen BK107.out 2)); (try (have hfz22_3 := blk_frozen BK107.out 3))) | (go_at_call 32; (with_reducible refine (spec_l2Over.calls kj7 x6_1 t109 _ A16.out).mono ?_); rintro e w' ⟨rfl, ⟨nd, rfl⟩⟩; (try first | exact ⟨rfl, _, World.drewN_drewN _ _ _⟩ | exact ⟨rfl, _, Eq.trans (World.drewN_drewN _ _ _) (congrArg (World.drewN _) (Nat.add_assoc _ _ _))⟩))))
          go_roundg kj7
          case measure => have := HK1.out; have := HJ7.out; omega
          case rel => exact ⟨(x5_1), (wrap64 (x6_1 + 1)), (by first | rfl | (simp; done) | (simp [*]; done)), (by first | rfl | (simp; done) | (simp [*]; done)), H', ⟨by have := HK1.out; have := HJ7.out; omega⟩, ⟨by exact bq BK107.out⟩, ⟨zB⟩⟩
       ·rw [if_neg c17] at H
        have c17b0 : ((Go.bits .and .i64 (Go.bits .and .i64 x8_7 (Go.bits .xor .i64 4294967295 a0_3)) t109) == (Go.bits .and .i64 a0_2 t109)) = false := beq_eq_false_iff_ne.mpr c17
        have c17b1 : ((Go.bits .and .i64 (Go.bits .and .i64 x8_7 (Go.bits .xor .i64 4294967295 a0_3)) t109) != (Go.bits .and .i64 a0_2 t109)) = true := bne_iff_ne.mpr c17
        have H' := Aside0.mk H
        clear H
        go_wp2_with (first | (go_at_call 18; (with_reducible refine (spec_l2Top.calls  4294967295 _ AC_spec_l2Top.out).mono ?_); rintro e w' ⟨rfl, ⟨nd, rfl⟩⟩; (try first | exact ⟨rfl, _, World.drewN_drewN _ _ _⟩ | exact ⟨rfl, _, Eq.trans (World.drewN_drewN _ _ _) (congrArg (World.drewN _) (Nat.add_assoc _ _ _))⟩); obtain ⟨hcz23_0, hcz23_1, hcz23_2, hcz23_3, hfz23_0, hfz23_1, hfz23_2, hfz23_3⟩ := zc4 BK107) | (go_at_call 32; (with_reducible refine (spec_l2Over.calls kj7 x6_1 t109 _ A16.out).mono ?_); rintro e w' ⟨rfl, ⟨nd, rfl⟩⟩; (try first | exact ⟨rfl, _, World.drewN_drewN _ _ _⟩ | exact ⟨rfl, _, Eq.trans (World.drewN_drewN _ _ _) (congrArg (World.drewN _) (Nat.add_assoc _ _ _))⟩)))
        repeat (go_quiet (first | (go_at_call 18; (with_reducible refine (spec_l2Top.calls  4294967295 _ AC_spec_l2Top.out).mono ?_); rintro e w' ⟨rfl, ⟨nd, rfl⟩⟩; (try first | exact ⟨rfl, _, World.drewN_drewN _ _ _⟩ | exact ⟨rfl, _, Eq.trans (World.drewN_drewN _ _ _) (congrArg (World.drewN _) (Nat.add_assoc _ _ _))⟩); obtain ⟨hcz23_0, hcz23_1, hcz23_2, hcz23_3, hfz23_0, hfz23_1, hfz23_2, hfz23_3⟩ := zc4 BK107) | (go_at_call 32; (with_reducible refine (spec_l2Over.calls kj7 x6_1 t109 _ A16.out).mono ?_); rintro e w' ⟨rfl, ⟨nd, rfl⟩⟩; (try first | exact ⟨rfl, _, World.drewN_drewN _ _ _⟩ | exact ⟨rfl, _, Eq.trans (World.drewN_drewN _ _ _) (congrArg (World.drewN _) (Nat.add_assoc _ _ _))⟩))); try go_wp2_with (first | (go_at_call 18; (with_reducible refine (spec_l2Top.calls  4294967295 _ AC_spec_l2Top.out).mono ?_); rintro e w' ⟨rfl, ⟨nd, rfl⟩⟩; (try first | exact ⟨rfl, _, World.drewN_drewN _ _ _⟩ | exact ⟨rfl, _, Eq.trans (World.drewN_drewN _ _ _) (congrArg (World.drewN _) (Nat.add_assoc _ _ _))⟩); obtain ⟨hcz23_0, hcz23_1, hcz23_2, hcz23_3, hfz23_0, hfz23_1, hfz23_2, hfz23_3⟩ := zc4 BK107) | (go_at_call 32; (with_reducible refine (spec_l2Over.calls kj7 x6_1 t109 _ A16.out).mono ?_); rintro e w' ⟨rfl, ⟨nd, rfl⟩⟩; (try first | exact ⟨rfl, _, World.drewN_drewN _ _ _⟩ | exact ⟨rfl, _, Eq.trans (World.drewN_drewN _ _ _) (congrArg (World.drewN _) (Nat.add_assoc _ _ _))⟩))))
        go_roundg kj7
        case measure => have := HK1.out; have := HJ7.out; omega
        case rel => exact ⟨(x5_1), (wrap64 (x6_1 + 1)), (by first | rfl | (simp; done) | (simp [*]; done)), (by first | rfl | (simp; done) | (simp [*]; done)), H', ⟨by have := HK1.out; have := HJ7.out; omega⟩, ⟨by exact bq BK107.out⟩, ⟨zB⟩⟩
    ·rw [if_neg c5] at H
     exact absurd H (by simp)
   ·rw [if_neg c4] at H
    have c4b0 : decide (x6_1 ≤ 32) = false := decide_eq_false c4
    clear c4
    obtain rfl := Option.some.inj H
    go_wp2
    repeat (go_quiet (fail); try go_wp2)
    go_ret
    exact ⟨zR, zB⟩

/-! ### spec_l2Some: function 10 -/
def spec_l2Some.f (k : Nat) (a0_0 : Int) (a0_1 : Int) (a0_2 : Int) (a0_3 : Int) : Option (Bool) := (spec_l2Next.f k a0_0 a0_1 a0_2 a0_3 a0_0).bind fun t111 => (if t111 ≥ 0 then (some (decide (t111 ≤ a0_1))) else (some false))

set_option maxHeartbeats 8000000 in
set_option maxRecDepth 100000 in
theorem spec_l2Some.calls (k : Nat) (a0_0 : Int) (a0_1 : Int) (a0_2 : Int) (a0_3 : Int) (r : Bool) (w : World) (h : spec_l2Some.f k a0_0 a0_1 a0_2 a0_3 = some r) :
  Calls Try.prog 10 #[.agg #[.int .i64 a0_0, .int .i64 a0_1, .int .i64 a0_2, .int .i64 a0_3]] w fun e w' => e = .returned (.bool r) ∧ Below w.heap.size w w' := by
 have hu24 := Try.underlying24
 have HB := Aside0.mk (Below.refl w.heap.size w)
 have H : ((spec_l2Next.f k a0_0 a0_1 a0_2 a0_3 a0_0).bind fun t111 => (if t111 ≥ 0 then (some (decide (t111 ≤ a0_1))) else (some false))) = some r := h
 clear h
 replace H := Option.bind_eq_some_iff.mp H
 obtain ⟨t111, A20, H⟩ := H
 try dsimp only at H
 have A2 := Aside0.mk A20
 clear A20
 by_cases c3 : t111 ≥ 0
 ·rw [if_pos c3] at H
  have c3b0 : decide (0 ≤ t111) = true := decide_eq_true c3
  clear c3
  obtain rfl := Option.some.inj H
  go_enter Try.func10, Try.ntmps10
  go_wp2_with (first | ((with_reducible refine gate_dst (N := 1) rfl ?_); refine be 1 #[.int .i64 a0_0, .int .i64 a0_1, .int .i64 a0_2, .int .i64 a0_3] 24 ?_; intro gb110 hg w4 hbox hb; have BK110 := Aside0.mk hbox; have GW110 := zW hg; replace HB := zS hb; have GE110 := GW110; clear hb hbox hg; obtain ⟨hcz5_0, hcz5_1, hcz5_2, hcz5_3, hfz5_0, hfz5_1, hfz5_2, hfz5_3⟩ := zc4 BK110) | ((with_reducible refine gate_callee (f := 19) rfl ?_); refine gl 7 Try.func19 #[.agg #[.int .i64 a0_0, .int .i64 a0_1, .int .i64 a0_2, .int .i64 a0_3], .int .i64 a0_0] ?_; (with_reducible refine (spec_l2Next.calls k a0_0 a0_1 a0_2 a0_3 a0_0 t111 _ A2.out).mono ?_); rintro e w6 ⟨rfl, hb⟩; refine ⟨_, rfl, ?_⟩; replace BK110 := zb BK110 hb rfl; replace HB := zS hb; try clear hb; obtain ⟨hcz7_0, hcz7_1, hcz7_2, hcz7_3, hfz7_0, hfz7_1, hfz7_2, hfz7_3⟩ := zc4 BK110))
  go_ret
  exact ⟨zR, zB⟩
 ·rw [if_neg c3] at H
  have c3b0 : decide (0 ≤ t111) = false := decide_eq_false c3
  clear c3
  obtain rfl := Option.some.inj H
  go_enter Try.func10, Try.ntmps10
  go_wp2_with (first | ((with_reducible refine gate_dst (N := 1) rfl ?_); refine be 1 #[.int .i64 a0_0, .int .i64 a0_1, .int .i64 a0_2, .int .i64 a0_3] 24 ?_; intro gb110 hg w8 hbox hb; have BK110 := Aside0.mk hbox; have GW110 := zW hg; replace HB := zS hb; have GE110 := GW110; clear hb hbox hg; obtain ⟨hcz9_0, hcz9_1, hcz9_2, hcz9_3, hfz9_0, hfz9_1, hfz9_2, hfz9_3⟩ := zc4 BK110) | ((with_reducible refine gate_callee (f := 19) rfl ?_); refine gl 7 Try.func19 #[.agg #[.int .i64 a0_0, .int .i64 a0_1, .int .i64 a0_2, .int .i64 a0_3], .int .i64 a0_0] ?_; (with_reducible refine (spec_l2Next.calls k a0_0 a0_1 a0_2 a0_3 a0_0 t111 _ A2.out).mono ?_); rintro e w10 ⟨rfl, hb⟩; refine ⟨_, rfl, ?_⟩; replace BK110 := zb BK110 hb rfl; replace HB := zS hb; try clear hb))
  go_ret
  exact ⟨zR, zB⟩

/-! ### spec_l2Bits: function 23 -/
def spec_l2Bits.f (k : Nat) (a0 : Int) (a1 : Int) : Option (Int × Int) := (spec_l2Mask.f k (Go.bits .xor .i64 a0 a1)).bind fun t112 => (some (Go.bits .and .i64 a0 (Go.bits .xor .i64 4294967295 t112), t112))

set_option maxHeartbeats 8000000 in
set_option maxRecDepth 100000 in
theorem spec_l2Bits.calls (k : Nat) (a0 : Int) (a1 : Int) (r1 : Int) (r2 : Int) (w : World) (h : spec_l2Bits.f k a0 a1 = some (r1, r2)) :
  Calls Try.prog 23 #[.int .i64 a0, .int .i64 a1] w fun e w' => e = .returned (.tuple #[.int .i64 r1, .int .i64 r2]) ∧ Drawn0 w w' := by
 have H : ((spec_l2Mask.f k (Go.bits .xor .i64 a0 a1)).bind fun t112 => (some (Go.bits .and .i64 a0 (Go.bits .xor .i64 4294967295 t112), t112))) = some (r1, r2) := h
 clear h
 replace H := Option.bind_eq_some_iff.mp H
 obtain ⟨t112, A30, H⟩ := H
 try dsimp only at H
 have A3 := Aside0.mk A30
 clear A30
 have AC_spec_l2Top := Aside0.mk (show spec_l2Top.f = some 4294967295 from rfl)
 simp only [Option.some.injEq, Prod.mk.injEq] at H
 obtain ⟨rfl, rfl⟩ := H
 go_enter Try.func23, Try.ntmps23
 go_wp2_with (first | ((with_reducible refine gate_callee (f := 31) rfl ?_); refine gl 10 Try.func31 #[.int .i64 (Go.bits .xor .i64 a0 a1)] ?_; (with_reducible refine (spec_l2Mask.calls k (Go.bits .xor .i64 a0 a1) t112 _ A3.out).mono ?_); rintro e w' ⟨rfl, ⟨nd, rfl⟩⟩; refine ⟨_, rfl, ?_⟩) | ((with_reducible refine gate_callee (f := 18) rfl ?_); refine gl 12 Try.func18 #[] ?_; (with_reducible refine (spec_l2Top.calls  4294967295 _ AC_spec_l2Top.out).mono ?_); rintro e w' ⟨rfl, ⟨nd, rfl⟩⟩; refine ⟨_, rfl, ?_⟩))
 go_ret2
 exact ⟨by first | rfl | (simp; done) | (simp [*]; done), by repeat (first | exact Drawn0.refl _ | apply Drawn0.step)⟩

/-! ### spec_l2Tidy: function 12 -/
def spec_l2Tidy.j0 : Nat → Int → Int → Int → Int → Option (Int × Int × Int × Int)
 | 0, _, _, _, _ => none
 | k + 1, x114000, x114001, x114002, x114003 => if (Go.bits .or .i64 x114002 x114003) < x114001 then (some (x114000, Go.bits .or .i64 x114002 x114003, x114002, x114003)) else (some (x114000, x114001, x114002, x114003))
def spec_l2Tidy.f (k : Nat) (a0_0 : Int) (a0_1 : Int) (a0_2 : Int) (a0_3 : Int) : Option (Int × Int × Int × Int) := (spec_l2Bits.f k a0_0 a0_1).bind fun bt115 => (if (Go.bits .and .i64 (Go.bits .or .i64 a0_2 bt115.1) (Go.bits .xor .i64 4294967295 (Go.bits .and .i64 a0_3 bt115.2))) > a0_0 then (spec_l2Tidy.j0 k (Go.bits .and .i64 (Go.bits .or .i64 a0_2 bt115.1) (Go.bits .xor .i64 4294967295 (Go.bits .and .i64 a0_3 bt115.2))) a0_1 (Go.bits .and .i64 (Go.bits .or .i64 a0_2 bt115.1) (Go.bits .xor .i64 4294967295 (Go.bits .and .i64 a0_3 bt115.2))) (Go.bits .and .i64 a0_3 bt115.2)) else (spec_l2Tidy.j0 k a0_0 a0_1 (Go.bits .and .i64 (Go.bits .or .i64 a0_2 bt115.1) (Go.bits .xor .i64 4294967295 (Go.bits .and .i64 a0_3 bt115.2))) (Go.bits .and .i64 a0_3 bt115.2)))


def spec_l2Tidy.T3 : Bool × List (List Nat × List Nat) := (true, [([], []), ([0], [0]), ([], []), ([1, 2], [1, 2]), ([], []), ([], []), ([5], [5]), ([4, 6], [4, 6]), ([3, 7], [3, 7]), ([0, 1, 2, 3, 4, 5, 6, 7, 8], []), ([9, 8, 4, 0, 1, 2, 3, 4, 5, 6, 7, 8], [8, 9])])
def spec_l2Tidy.B3 : List Nat := [0, 1, 0, 7, 0, 0, 32, 112, 255, 511, 1023]
theorem spec_l2Tidy.tab3 : rtab .any (opsOf Try.f12 3) = spec_l2Tidy.T3 := by kernel_rfl
theorem spec_l2Tidy.bits3 : waitsOk spec_l2Tidy.T3.2 spec_l2Tidy.B3 = true := by kernel_rfl
set_option maxHeartbeats 8000000 in
set_option maxRecDepth 100000 in
theorem spec_l2Tidy.calls (k : Nat) (a0_0 : Int) (a0_1 : Int) (a0_2 : Int) (a0_3 : Int) (r1 : Int) (r2 : Int) (r3 : Int) (r4 : Int) (w : World) (h : spec_l2Tidy.f k a0_0 a0_1 a0_2 a0_3 = some (r1, r2, r3, r4)) :
  Calls Try.prog 12 #[.agg #[.int .i64 a0_0, .int .i64 a0_1, .int .i64 a0_2, .int .i64 a0_3]] w fun e w' => e = .returned (.agg #[.int .i64 r1, .int .i64 r2, .int .i64 r3, .int .i64 r4]) ∧ Below w.heap.size w w' := by
 have hu24 := Try.underlying24
 have HB := Aside0.mk (Below.refl w.heap.size w)
 have H : ((spec_l2Bits.f k a0_0 a0_1).bind fun bt115 => (if (Go.bits .and .i64 (Go.bits .or .i64 a0_2 bt115.1) (Go.bits .xor .i64 4294967295 (Go.bits .and .i64 a0_3 bt115.2))) > a0_0 then (spec_l2Tidy.j0 k (Go.bits .and .i64 (Go.bits .or .i64 a0_2 bt115.1) (Go.bits .xor .i64 4294967295 (Go.bits .and .i64 a0_3 bt115.2))) a0_1 (Go.bits .and .i64 (Go.bits .or .i64 a0_2 bt115.1) (Go.bits .xor .i64 4294967295 (Go.bits .and .i64 a0_3 bt115.2))) (Go.bits .and .i64 a0_3 bt115.2)) else (spec_l2Tidy.j0 k a0_0 a0_1 (Go.bits .and .i64 (Go.bits .or .i64 a0_2 bt115.1) (Go.bits .xor .i64 4294967295 (Go.bits .and .i64 a0_3 bt115.2))) (Go.bits .and .i64 a0_3 bt115.2)))) = some (r1, r2, r3, r4) := h
 clear h
 replace H := Option.bind_eq_some_iff.mp H
 obtain ⟨⟨t115, t116⟩, A20, H⟩ := H
 try dsimp only at H
 have A2 := Aside0.mk A20
 clear A20
 have AC_spec_l2Top := Aside0.mk (show spec_l2Top.f = some 4294967295 from rfl)
 have HC3 := Aside0.mk H
 clear H
 go_enter Try.func12, Try.ntmps12
 try go_wp2_with (first | ((with_reducible refine gate_dst (N := 1) rfl ?_); refine be 1 #[.int .i64 a0_0, .int .i64 a0_1, .int .i64 a0_2, .int .i64 a0_3] 24 ?_; intro gb113 hg w4 hbox hb; have BK113 := Aside0.mk hbox; have GW113 := zW hg; replace HB := zS hb; have GE113 := GW113; clear hb hbox hg) | ((with_reducible refine gate_dst (N := 2) rfl ?_); refine be 2 #[.int .i64 0, .int .i64 0, .int .i64 0, .int .i64 0] 24 ?_; intro gb114 hg w5 hbox hb; have BK114 := Aside0.mk hbox; have GW114 := zW hg; replace HB := zS hb; have GE114 := GW114; have NB113_114 := zl BK113 hg rfl; have NB114_113 := zg BK113 hg rfl; replace BK113 := zb BK113 hb rfl; clear hb hbox hg; have hnb6 := NB113_114.out; have hnc6 := NB114_113.out; obtain ⟨hcz7_0, hcz7_1, hcz7_2, hcz7_3, hfz7_0, hfz7_1, hfz7_2, hfz7_3⟩ := zc4 BK113) | ((with_reducible refine gate_callee (f := 23) rfl ?_); refine gl 10 Try.func23 #[.int .i64 a0_0, .int .i64 a0_1] ?_; (with_reducible refine (spec_l2Bits.calls k a0_0 a0_1 t115 t116 _ A2.out).mono ?_); rintro e w' ⟨rfl, ⟨nd, rfl⟩⟩; refine ⟨_, rfl, ?_⟩; (try (rw [drewN_self w5]; generalize hq_ : World.drewN w5 _ = w5; have n0_ : Aside0 (w5.heap[gb113]? = some (.cells #[.int .i64 a0_0, .int .i64 a0_1, .int .i64 a0_2, .int .i64 a0_3] 24 (0, 0))) := ⟨by rw [← hq_]; exact (by exact bq BK113.out)⟩; have n1_ : Aside0 (w5.heap[gb114]? = some (.cells #[.int .i64 0, .int .i64 0, .int .i64 0, .int .i64 0] 24 (0, 0))) := ⟨by rw [← hq_]; exact (by exact bq BK114.out)⟩; have n2_ : Aside0 (Below w.heap.size w w5) := ⟨by rw [← hq_]; exact zB⟩; clear BK113 BK114 HB hq_; have BK113 := n0_; have BK114 := n1_; have HB := n2_; clear n0_ n1_ n2_)); obtain ⟨hcz8_0, hcz8_1, hcz8_2, hcz8_3, hfz8_0, hfz8_1, hfz8_2, hfz8_3⟩ := zc4 BK113))
 have n0_ : Aside0 ((w5.setCell ⟨gb113, 3, none⟩ (.int .i64 (Go.bits .and .i64 a0_3 t116))).heap[gb113]? = some (.cells #[.int .i64 a0_0, .int .i64 a0_1, .int .i64 a0_2, .int .i64 (Go.bits .and .i64 a0_3 t116)] 24 (0, 0))) := ⟨by refine bq ?_; refine blk_put (cs := #[.int .i64 a0_0, .int .i64 a0_1, .int .i64 a0_2, .int .i64 a0_3]) ?_ 3 _ rfl; exact bq BK113.out⟩
 have n1_ : Aside0 ((w5.setCell ⟨gb113, 3, none⟩ (.int .i64 (Go.bits .and .i64 a0_3 t116))).heap[gb114]? = some (.cells #[.int .i64 0, .int .i64 0, .int .i64 0, .int .i64 0] 24 (0, 0))) := ⟨by refine fq ?_ NB114_113.out; exact bq BK114.out⟩
 have n2_ : Aside0 (Below w.heap.size w (w5.setCell ⟨gb113, 3, none⟩ (.int .i64 (Go.bits .and .i64 a0_3 t116)))) := ⟨zB⟩
 (try clear BK113)
 (try clear BK114)
 (try clear HB)
 generalize (w5.setCell ⟨gb113, 3, none⟩ (.int .i64 (Go.bits .and .i64 a0_3 t116))) = w9 at n0_ n1_ n2_ ⊢
 have BK113 := n0_
 have BK114 := n1_
 have HB := n2_
 clear n0_ n1_ n2_
 replace BK113 := Aside0.mk (blk_drew BK113.out)
 replace BK114 := Aside0.mk (blk_drew BK114.out)
 replace HB := Aside0.mk (below_drew1 HB.out)
 refine start_ (n := 11) (S := fun w' => w'.cell? ⟨gb113, 0, none⟩ = some (.int .i64 a0_0) ∧ w'.cell? ⟨gb113, 1, none⟩ = some (.int .i64 a0_1) ∧ w'.cell? ⟨gb113, 2, none⟩ = some (.int .i64 a0_2) ∧ w'.cell? ⟨gb113, 3, none⟩ = some (.int .i64 (Go.bits .and .i64 a0_3 t116))) (ds := [10]) #[false, false, false, false, false, false, false, false, false, false, false] (by kernel_rfl) rfl rfl ⟨(blk_cell BK113.out 0).trans rfl, (blk_cell BK113.out 1).trans rfl, (blk_cell BK113.out 2).trans rfl, (blk_cell BK113.out 3).trans rfl⟩ (fun hHeld => ?_); refine with_tabW spec_l2Tidy.tab3 spec_l2Tidy.bits3 (fun HT_ HW_ => ?_)
 generalize w9.drew = w10 at BK113 BK114 HB hHeld ⊢
 refine pz 0 18 ?_
 refine pz 2 20 ?_
 refine pz 5 23 ?_
 refine tz 1 19 ?_
 refine pz 3 21 ?_
 refine tz 6 24 ?_
 refine oz 4 22 fun K hK => ?_
 refine gz Try.func18 #[] ?_
 with_reducible refine (spec_l2Top.calls  4294967295 _ AC_spec_l2Top.out).mono ?_
 rintro e w' ⟨rfl, ⟨nd, rfl⟩⟩
 refine ⟨_, rfl, ?_⟩
 refine hK.out _ _ ⟨(blk_cell BK113.out 0).trans rfl, (blk_cell BK113.out 1).trans rfl, (blk_cell BK113.out 2).trans rfl, (blk_cell BK113.out 3).trans rfl⟩ (fun hHeld => ?_)
 clear hK K
 refine nz ?_
 refine pz 7 25 ?_
 refine pz 8 26 ?_
 refine pz 9 27 ?_
 refine last_ (i := 10) (N := none) #[true, true, true, true, true, true, true, true, true, true, true] rfl rfl (one_of HT_.out (by kernel_rfl)) (by decide) (fun K hK => ?_)
 have hs11 : w10.cell? ⟨gb113, 2, none⟩ = some (.int .i64 a0_2) := (blk_cell BK113.out 2).trans rfl
 have hfs11 := blk_frozen BK113.out 2
 have hns11_1 := NB114_113.out
 have hms11_1 := NB113_114.out
 refine skip_ (w1 := ?_) (by rfl) rfl ?_ ?_
 rotate_left
 ·go_simp
  rfl
 refine hK.out _ _ ?_
 clear hK K
 refine done_ (done_of HT_.out (by kernel_rfl)) ?_
 obtain ⟨hcz12_0, hcz12_1, hcz12_2, hcz12_3, hfz12_0, hfz12_1, hfz12_2, hfz12_3⟩ := zc4 BK113
 go_upto_if 32 with (fail)
 go_cut [] (fun wc => ∃ (kq : Nat) (x114000_2 : Int), Aside0 (spec_l2Tidy.j0 kq x114000_2 a0_1 (Go.bits .and .i64 (Go.bits .or .i64 a0_2 t115) (Go.bits .xor .i64 4294967295 (Go.bits .and .i64 a0_3 t116))) (Go.bits .and .i64 a0_3 t116) = some (r1, r2, r3, r4)) ∧ Aside0 (kq ≤ k) ∧ Aside0 (wc.heap[gb113]? = some (.cells #[.int .i64 x114000_2, .int .i64 a0_1, .int .i64 (Go.bits .and .i64 (Go.bits .or .i64 a0_2 t115) (Go.bits .xor .i64 4294967295 (Go.bits .and .i64 a0_3 t116))), .int .i64 (Go.bits .and .i64 a0_3 t116)] 24 (0, 0))) ∧ Aside0 (wc.heap[gb114]? = some (.cells #[.int .i64 0, .int .i64 0, .int .i64 0, .int .i64 0] 24 (0, 0))) ∧ Aside0 (Below w.heap.size w wc))
 case first =>
  have H := HC3.out
  clear HC3
  by_cases c13 : (Go.bits .and .i64 (Go.bits .or .i64 a0_2 t115) (Go.bits .xor .i64 4294967295 (Go.bits .and .i64 a0_3 t116))) > a0_0
  ·rw [if_pos c13] at H
   have c13b0 : decide (a0_0 < (Go.bits .and .i64 (Go.bits .or .i64 a0_2 t115) (Go.bits .xor .i64 4294967295 (Go.bits .and .i64 a0_3 t116)))) = true := decide_eq_true c13
   clear c13
   (first | rw [c13b0] | (simp only [i64_w, i32_w]; rw [c13b0]) | skip)
   have H' := Aside0.mk H
   clear H
   have hnb14 := NB113_114.out
   have hnc14 := NB114_113.out
   obtain ⟨hcz15_0, hcz15_1, hcz15_2, hcz15_3, hfz15_0, hfz15_1, hfz15_2, hfz15_3⟩ := zc4 BK113
   go_wp2
   go_meet
   case rel => exact ⟨_, (Go.bits .and .i64 (Go.bits .or .i64 a0_2 t115) (Go.bits .xor .i64 4294967295 (Go.bits .and .i64 a0_3 t116))), H', ⟨by first | omega | exact Nat.le_refl _⟩, ⟨by refine bq ?_; refine blk_put (cs := #[.int .i64 a0_0, .int .i64 a0_1, .int .i64 (Go.bits .and .i64 (Go.bits .or .i64 a0_2 t115) (Go.bits .xor .i64 4294967295 (Go.bits .and .i64 a0_3 t116))), .int .i64 (Go.bits .and .i64 a0_3 t116)]) ?_ 0 _ rfl; refine bq ?_; refine blk_put (cs := #[.int .i64 a0_0, .int .i64 a0_1, .int .i64 a0_2, .int .i64 (Go.bits .and .i64 a0_3 t116)]) ?_ 2 _ rfl; exact bq BK113.out⟩, ⟨by refine fq ?_ NB114_113.out; refine fq ?_ NB114_113.out; exact bq BK114.out⟩, ⟨zB⟩⟩
  ·rw [if_neg c13] at H
   have c13b0 : decide (a0_0 < (Go.bits .and .i64 (Go.bits .or .i64 a0_2 t115) (Go.bits .xor .i64 4294967295 (Go.bits .and .i64 a0_3 t116)))) = false := decide_eq_false c13
   clear c13
   (first | rw [c13b0] | (simp only [i64_w, i32_w]; rw [c13b0]) | skip)
   have H' := Aside0.mk H
   clear H
   go_wp2
   go_meet
   case rel => exact ⟨_, (a0_0), H', ⟨by first | omega | exact Nat.le_refl _⟩, ⟨by refine bq ?_; refine blk_put (cs := #[.int .i64 a0_0, .int .i64 a0_1, .int .i64 a0_2, .int .i64 (Go.bits .and .i64 a0_3 t116)]) ?_ 2 _ rfl; exact bq BK113.out⟩, ⟨by refine fq ?_ NB114_113.out; exact bq BK114.out⟩, ⟨zB⟩⟩
 case rest =>
  clear HC3
  try clear c1
  try clear c2
  try clear p2
  try clear c6
  try clear c12
  try clear c13
  try clear c13b0
  try clear c14
  try clear hcz12_0 hcz12_1 hcz12_2 hcz12_3 hfz12_0 hfz12_1 hfz12_2 hfz12_3
  try clear hcz15_0 hcz15_1 hcz15_2 hcz15_3 hfz15_0 hfz15_1 hfz15_2 hfz15_3
  try clear hcz7_0 hcz7_1 hcz7_2 hcz7_3 hfz7_0 hfz7_1 hfz7_2 hfz7_3
  try clear hcz8_0 hcz8_1 hcz8_2 hcz8_3 hfz8_0 hfz8_1 hfz8_2 hfz8_3
  obtain ⟨kq, x114000_2, HA, HJ2, BK113, BK114, HB⟩ := hcut
  cases kq with
  | zero => exact absurd HA.out (by simp [spec_l2Tidy.j0])
  | succ kj2 =>
   have H := HA.out
   clear HA
   simp only [spec_l2Tidy.j0] at H
   by_cases c16 : (Go.bits .or .i64 (Go.bits .and .i64 (Go.bits .or .i64 a0_2 t115) (Go.bits .xor .i64 4294967295 (Go.bits .and .i64 a0_3 t116))) (Go.bits .and .i64 a0_3 t116)) < a0_1
   ·rw [if_pos c16] at H
    have c16b0 : decide ((Go.bits .or .i64 (Go.bits .and .i64 (Go.bits .or .i64 a0_2 t115) (Go.bits .xor .i64 4294967295 (Go.bits .and .i64 a0_3 t116))) (Go.bits .and .i64 a0_3 t116)) < a0_1) = true := decide_eq_true c16
    clear c16
    simp only [Option.some.injEq, Prod.mk.injEq] at H
    obtain ⟨rfl, rfl, rfl, rfl⟩ := H
    have hnb17 := NB113_114.out
    have hnc17 := NB114_113.out
    obtain ⟨hcz18_0, hcz18_1, hcz18_2, hcz18_3, hfz18_0, hfz18_1, hfz18_2, hfz18_3⟩ := zc4 BK113
    obtain ⟨hcz19_0, hcz19_1, hcz19_2, hcz19_3, hfz19_0, hfz19_1, hfz19_2, hfz19_3⟩ := zc4 BK114
    go_wp2
    refine bodyPost_ret (results_cell_row rfl _ _ gb114 24 #[.int .i64 x114000_2, .int .i64 (Go.bits .or .i64 (Go.bits .and .i64 (Go.bits .or .i64 a0_2 t115) (Go.bits .xor .i64 4294967295 (Go.bits .and .i64 a0_3 t116))) (Go.bits .and .i64 a0_3 t116)), .int .i64 (Go.bits .and .i64 (Go.bits .or .i64 a0_2 t115) (Go.bits .xor .i64 4294967295 (Go.bits .and .i64 a0_3 t116))), .int .i64 (Go.bits .and .i64 a0_3 t116)] (0, 0) _ rfl (by refine bq ?_; refine blk_put (cs := #[.int .i64 x114000_2, .int .i64 (Go.bits .or .i64 (Go.bits .and .i64 (Go.bits .or .i64 a0_2 t115) (Go.bits .xor .i64 4294967295 (Go.bits .and .i64 a0_3 t116))) (Go.bits .and .i64 a0_3 t116)), .int .i64 (Go.bits .and .i64 (Go.bits .or .i64 a0_2 t115) (Go.bits .xor .i64 4294967295 (Go.bits .and .i64 a0_3 t116))), .int .i64 0]) ?_ 3 _ rfl; refine bq ?_; refine blk_put (cs := #[.int .i64 x114000_2, .int .i64 (Go.bits .or .i64 (Go.bits .and .i64 (Go.bits .or .i64 a0_2 t115) (Go.bits .xor .i64 4294967295 (Go.bits .and .i64 a0_3 t116))) (Go.bits .and .i64 a0_3 t116)), .int .i64 0, .int .i64 0]) ?_ 2 _ rfl; refine bq ?_; refine blk_put (cs := #[.int .i64 x114000_2, .int .i64 0, .int .i64 0, .int .i64 0]) ?_ 1 _ rfl; refine bq ?_; refine blk_put (cs := #[.int .i64 0, .int .i64 0, .int .i64 0, .int .i64 0]) ?_ 0 _ rfl; refine fq ?_ NB114_113.out; exact bq BK114.out) Try.underlying24 rfl (by kernel_rfl)) rfl ?_
    exact ⟨zR, zB⟩
   ·rw [if_neg c16] at H
    have c16b0 : decide ((Go.bits .or .i64 (Go.bits .and .i64 (Go.bits .or .i64 a0_2 t115) (Go.bits .xor .i64 4294967295 (Go.bits .and .i64 a0_3 t116))) (Go.bits .and .i64 a0_3 t116)) < a0_1) = false := decide_eq_false c16
    clear c16
    simp only [Option.some.injEq, Prod.mk.injEq] at H
    obtain ⟨rfl, rfl, rfl, rfl⟩ := H
    have hnb20 := NB113_114.out
    have hnc20 := NB114_113.out
    obtain ⟨hcz21_0, hcz21_1, hcz21_2, hcz21_3, hfz21_0, hfz21_1, hfz21_2, hfz21_3⟩ := zc4 BK113
    obtain ⟨hcz22_0, hcz22_1, hcz22_2, hcz22_3, hfz22_0, hfz22_1, hfz22_2, hfz22_3⟩ := zc4 BK114
    go_wp2
    refine bodyPost_ret (results_cell_row rfl _ _ gb114 24 #[.int .i64 x114000_2, .int .i64 a0_1, .int .i64 (Go.bits .and .i64 (Go.bits .or .i64 a0_2 t115) (Go.bits .xor .i64 4294967295 (Go.bits .and .i64 a0_3 t116))), .int .i64 (Go.bits .and .i64 a0_3 t116)] (0, 0) _ rfl (by refine bq ?_; refine blk_put (cs := #[.int .i64 x114000_2, .int .i64 a0_1, .int .i64 (Go.bits .and .i64 (Go.bits .or .i64 a0_2 t115) (Go.bits .xor .i64 4294967295 (Go.bits .and .i64 a0_3 t116))), .int .i64 0]) ?_ 3 _ rfl; refine bq ?_; refine blk_put (cs := #[.int .i64 x114000_2, .int .i64 a0_1, .int .i64 0, .int .i64 0]) ?_ 2 _ rfl; refine bq ?_; refine blk_put (cs := #[.int .i64 x114000_2, .int .i64 0, .int .i64 0, .int .i64 0]) ?_ 1 _ rfl; refine bq ?_; refine blk_put (cs := #[.int .i64 0, .int .i64 0, .int .i64 0, .int .i64 0]) ?_ 0 _ rfl; exact bq BK114.out) Try.underlying24 rfl (by kernel_rfl)) rfl ?_
    exact ⟨zR, zB⟩

end Go.Proofs.Ytjengfiaphgjbaa.Q
