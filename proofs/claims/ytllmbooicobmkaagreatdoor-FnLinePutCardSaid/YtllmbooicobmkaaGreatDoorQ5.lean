/- The machine's side of this seat's laws: Go functions as Lean functions, and their contracts. By a program of this work over the kit's print. -/
import Derived.Test.YtllmbooicobmkaaGreatDoorQ0
import Derived.Test.YtllmbooicobmkaaGreatDoorQ2
import Derived.Test.YtllmbooicobmkaaGreatDoorQ4
namespace Go.Proofs.YtllmbooicobmkaaGreatDoor.Q
open Go.RowKit Go.Proofs.YtllmbooicobmkaaGreatDoorW.PrintWords Go.Proofs.YtllmbooicobmkaaGreatDoorW.PrintLast Go.Proofs.YtllmbooicobmkaaGreatDoorW.PrintMore
attribute [local go_sem] max2_int min2_int max_two min_two max_three min_three max_four min_four Go.Proofs.YtllmbooicobmkaaGreatDoorN.not_i64 Go.Proofs.YtllmbooicobmkaaGreatDoorN.isSome_setCell
set_option linter.unusedVariables false
set_option linter.unusedSimpArgs false
theorem bs1 (a : UInt8) : (ByteArray.mk #[a]).size = 1 := rfl
theorem bs2 (a b : UInt8) : (ByteArray.mk #[a, b]).size = 2 := rfl
def spec_l1Line.f (k : Nat) (a0_0 a0_1 : Int) (a0_2 a0_3 : Int) (a0_4 a0_5 : Int) : Option (ByteArray) := (spec_l1Words.f).bind fun t133 => (if 0 ≤ a0_0 then (if a0_0 < (t133.length : Int) then ((spec_l1Dec.f k a0_1).bind fun t137 => (if 2 + t137.size ≤ 9223372036854775807 then ((spec_l1Alu.f a0_0).bind fun t138 => (if t138 = true then (if (rdOf ByteArray.empty t133 a0_0).size + ((⟨#[32, 114]⟩ : ByteArray) ++ t137).size ≤ 9223372036854775807 then (if ((rdOf ByteArray.empty t133 a0_0) ++ ((⟨#[32, 114]⟩ : ByteArray) ++ t137)).size + 1 ≤ 9223372036854775807 then ((spec_l1Reg.f k a0_2 a0_4).bind fun t139 => (if (((rdOf ByteArray.empty t133 a0_0) ++ ((⟨#[32, 114]⟩ : ByteArray) ++ t137)) ++ (⟨#[32]⟩ : ByteArray)).size + t139.size ≤ 9223372036854775807 then (some ((((rdOf ByteArray.empty t133 a0_0) ++ ((⟨#[32, 114]⟩ : ByteArray) ++ t137)) ++ (⟨#[32]⟩ : ByteArray)) ++ t139)) else (none))) else (none)) else (none)) else ((spec_l1Jump.f a0_0).bind fun t140 => (if t140 = true then (if (rdOf ByteArray.empty t133 a0_0).size + ((⟨#[32, 114]⟩ : ByteArray) ++ t137).size ≤ 9223372036854775807 then (if ((rdOf ByteArray.empty t133 a0_0) ++ ((⟨#[32, 114]⟩ : ByteArray) ++ t137)).size + 1 ≤ 9223372036854775807 then ((spec_l1Reg.f k a0_2 a0_4).bind fun t141 => (if (((rdOf ByteArray.empty t133 a0_0) ++ ((⟨#[32, 114]⟩ : ByteArray) ++ t137)) ++ (⟨#[32]⟩ : ByteArray)).size + t141.size ≤ 9223372036854775807 then (if ((((rdOf ByteArray.empty t133 a0_0) ++ ((⟨#[32, 114]⟩ : ByteArray) ++ t137)) ++ (⟨#[32]⟩ : ByteArray)) ++ t141).size + 1 ≤ 9223372036854775807 then ((spec_l1Dec.f k a0_3).bind fun t142 => (if (((((rdOf ByteArray.empty t133 a0_0) ++ ((⟨#[32, 114]⟩ : ByteArray) ++ t137)) ++ (⟨#[32]⟩ : ByteArray)) ++ t141) ++ (⟨#[32]⟩ : ByteArray)).size + t142.size ≤ 9223372036854775807 then (some ((((((rdOf ByteArray.empty t133 a0_0) ++ ((⟨#[32, 114]⟩ : ByteArray) ++ t137)) ++ (⟨#[32]⟩ : ByteArray)) ++ t141) ++ (⟨#[32]⟩ : ByteArray)) ++ t142)) else (none))) else (none)) else (none))) else (none)) else (none)) else (if a0_0 = 16 then (if (rdOf ByteArray.empty t133 a0_0).size + 1 ≤ 9223372036854775807 then ((spec_l1Dec.f k a0_3).bind fun t143 => (if ((rdOf ByteArray.empty t133 a0_0) ++ (⟨#[32]⟩ : ByteArray)).size + t143.size ≤ 9223372036854775807 then (some (((rdOf ByteArray.empty t133 a0_0) ++ (⟨#[32]⟩ : ByteArray)) ++ t143)) else (none))) else (none)) else (if a0_0 = 17 then ((spec_l1Dec.f k a0_5).bind fun t144 => (if (rdOf ByteArray.empty t133 a0_0).size + t144.size ≤ 9223372036854775807 then (if ((rdOf ByteArray.empty t133 a0_0) ++ t144).size + ((⟨#[32, 114]⟩ : ByteArray) ++ t137).size ≤ 9223372036854775807 then (if (((rdOf ByteArray.empty t133 a0_0) ++ t144) ++ ((⟨#[32, 114]⟩ : ByteArray) ++ t137)).size + 2 ≤ 9223372036854775807 then ((spec_l1Dec.f k a0_2).bind fun t145 => (if ((((rdOf ByteArray.empty t133 a0_0) ++ t144) ++ ((⟨#[32, 114]⟩ : ByteArray) ++ t137)) ++ (⟨#[32, 114]⟩ : ByteArray)).size + t145.size ≤ 9223372036854775807 then (if (((((rdOf ByteArray.empty t133 a0_0) ++ t144) ++ ((⟨#[32, 114]⟩ : ByteArray) ++ t137)) ++ (⟨#[32, 114]⟩ : ByteArray)) ++ t145).size + 1 ≤ 9223372036854775807 then ((spec_l1Dec.f k a0_3).bind fun t146 => (if ((((((rdOf ByteArray.empty t133 a0_0) ++ t144) ++ ((⟨#[32, 114]⟩ : ByteArray) ++ t137)) ++ (⟨#[32, 114]⟩ : ByteArray)) ++ t145) ++ (⟨#[32]⟩ : ByteArray)).size + t146.size ≤ 9223372036854775807 then (some (((((((rdOf ByteArray.empty t133 a0_0) ++ t144) ++ ((⟨#[32, 114]⟩ : ByteArray) ++ t137)) ++ (⟨#[32, 114]⟩ : ByteArray)) ++ t145) ++ (⟨#[32]⟩ : ByteArray)) ++ t146)) else (none))) else (none)) else (none))) else (none)) else (none)) else (none))) else (if a0_0 = 18 then ((spec_l1Dec.f k a0_5).bind fun t147 => (if (rdOf ByteArray.empty t133 a0_0).size + t147.size ≤ 9223372036854775807 then (if ((rdOf ByteArray.empty t133 a0_0) ++ t147).size + ((⟨#[32, 114]⟩ : ByteArray) ++ t137).size ≤ 9223372036854775807 then (if (((rdOf ByteArray.empty t133 a0_0) ++ t147) ++ ((⟨#[32, 114]⟩ : ByteArray) ++ t137)).size + 1 ≤ 9223372036854775807 then ((spec_l1Dec.f k a0_3).bind fun t148 => (if ((((rdOf ByteArray.empty t133 a0_0) ++ t147) ++ ((⟨#[32, 114]⟩ : ByteArray) ++ t137)) ++ (⟨#[32]⟩ : ByteArray)).size + t148.size ≤ 9223372036854775807 then (if (((((rdOf ByteArray.empty t133 a0_0) ++ t147) ++ ((⟨#[32, 114]⟩ : ByteArray) ++ t137)) ++ (⟨#[32]⟩ : ByteArray)) ++ t148).size + 1 ≤ 9223372036854775807 then ((spec_l1Reg.f k a0_2 a0_4).bind fun t149 => (if ((((((rdOf ByteArray.empty t133 a0_0) ++ t147) ++ ((⟨#[32, 114]⟩ : ByteArray) ++ t137)) ++ (⟨#[32]⟩ : ByteArray)) ++ t148) ++ (⟨#[32]⟩ : ByteArray)).size + t149.size ≤ 9223372036854775807 then (some (((((((rdOf ByteArray.empty t133 a0_0) ++ t147) ++ ((⟨#[32, 114]⟩ : ByteArray) ++ t137)) ++ (⟨#[32]⟩ : ByteArray)) ++ t148) ++ (⟨#[32]⟩ : ByteArray)) ++ t149)) else (none))) else (none)) else (none))) else (none)) else (none)) else (none))) else (if a0_0 = 19 then (if (rdOf ByteArray.empty t133 a0_0).size + 1 ≤ 9223372036854775807 then ((spec_l1Calls.f).bind fun t150 => (if 0 ≤ a0_4 then (if a0_4 < (t150.length : Int) then (if ((rdOf ByteArray.empty t133 a0_0) ++ (⟨#[32]⟩ : ByteArray)).size + (rdOf ByteArray.empty t150 a0_4).size ≤ 9223372036854775807 then (some (((rdOf ByteArray.empty t133 a0_0) ++ (⟨#[32]⟩ : ByteArray)) ++ (rdOf ByteArray.empty t150 a0_4))) else (none)) else (none)) else (none))) else (none)) else (some (rdOf ByteArray.empty t133 a0_0)))))))))) else (none))) else (none)) else (none))
def spec_l1Line.T6 : Bool × List (List Nat × List Nat) := (true, [([], []), ([], []), ([0, 1], [0, 1]), ([2], [2]), ([], []), ([4], [4]), ([], []), ([6], [6]), ([5, 7], [5, 7]), ([3, 8], [3, 8]), ([9], [9]), ([], []), ([11], [11]), ([12, 8], [12]), ([10, 13], [10, 13]), ([14, 13, 0, 1, 2, 3, 4, 5, 6, 7, 8, 9, 10, 11, 12, 13, 14], [14])])
def spec_l1Line.B6 : List Nat := [0, 0, 3, 7, 0, 16, 0, 64, 240, 511, 1023, 0, 2048, 6640, 16383, 32767]
theorem spec_l1Line.tab6 : rtab .any (opsOf Tryz.f14 6) = spec_l1Line.T6 := by kernel_rfl
theorem spec_l1Line.bits6 : waitsOk spec_l1Line.T6.2 spec_l1Line.B6 = true := by kernel_rfl
def spec_l1Line.T10 : Bool × List (List Nat × List Nat) := (true, [([], []), ([], []), ([1], [1]), ([2], [2]), ([0, 3], [0, 3]), ([], []), ([4, 5], [4, 5]), ([6], [6]), ([], []), ([8], [8]), ([9, 3], [9]), ([7, 10], [7, 10]), ([11], [11]), ([], []), ([13], [13]), ([14, 10], [14]), ([12, 15], [12, 15]), ([16, 15, 0, 1, 2, 3, 4, 5, 6, 7, 8, 9, 10, 11, 12, 13, 14, 15, 16], [16])])
def spec_l1Line.B10 : List Nat := [0, 0, 2, 6, 15, 0, 63, 127, 0, 256, 782, 2047, 4095, 0, 8192, 26382, 65535, 131071]
theorem spec_l1Line.tab10 : rtab .any (opsOf Tryz.f14 10) = spec_l1Line.T10 := by kernel_rfl
theorem spec_l1Line.bits10 : waitsOk spec_l1Line.T10.2 spec_l1Line.B10 = true := by kernel_rfl
def spec_l1Line.T12 : Bool × List (List Nat × List Nat) := (true, [([], []), ([], []), ([1], [1]), ([2], [2]), ([0, 3], [0, 3]), ([], []), ([4, 5], [4, 5]), ([6], [6]), ([], []), ([8], [8]), ([9, 3], [9]), ([7, 10], [7, 10]), ([11], [11]), ([], []), ([13], [13]), ([], []), ([15], [15]), ([14, 16, 10], [14, 16]), ([12, 17], [12, 17]), ([18, 17, 0, 1, 2, 3, 4, 5, 6, 7, 8, 9, 10, 11, 12, 13, 14, 15, 16, 17, 18], [18])])
def spec_l1Line.B12 : List Nat := [0, 0, 2, 6, 15, 0, 63, 127, 0, 256, 782, 2047, 4095, 0, 8192, 0, 32768, 124686, 262143, 524287]
theorem spec_l1Line.tab12 : rtab .any (opsOf Tryz.f14 12) = spec_l1Line.T12 := by kernel_rfl
theorem spec_l1Line.bits12 : waitsOk spec_l1Line.T12.2 spec_l1Line.B12 = true := by kernel_rfl
def spec_l1Line.T14 : Bool × List (List Nat × List Nat) := (true, [([], []), ([0], [0]), ([], []), ([], []), ([3], [3]), ([2, 4], [2, 4]), ([5], [5]), ([1, 6], [1, 6]), ([7, 2, 0, 1, 2, 3, 4, 5, 6, 7], [7])])
def spec_l1Line.B14 : List Nat := [0, 1, 0, 0, 8, 28, 60, 127, 255]
theorem spec_l1Line.tab14 : rtab .any (opsOf Tryz.f14 14) = spec_l1Line.T14 := by kernel_rfl
theorem spec_l1Line.bits14 : waitsOk spec_l1Line.T14.2 spec_l1Line.B14 = true := by kernel_rfl
set_option maxHeartbeats 8000000 in
set_option maxRecDepth 100000 in
theorem spec_l1Line.calls (k : Nat) (a0_0 a0_1 : Int) (a0_2 a0_3 : Int) (a0_4 a0_5 : Int) (r : ByteArray) (w : World) (h : spec_l1Line.f k a0_0 a0_1 a0_2 a0_3 a0_4 a0_5 = some r) :
  Calls Tryz.prog 14 #[.agg #[.int .i64 a0_0, .int .i64 a0_1, .int .i64 a0_2, .int .i64 a0_3, .int .i64 a0_4, .int .i64 a0_5]] w fun e w' => e = .returned (.string r) ∧ Below w.heap.size w w' := by
 have hu24 := Tryz.underlying24
 have HB := Aside0.mk (Below.refl w.heap.size w)
 have H := h
 clear h
 unfold spec_l1Line.f at H
 replace H := oA H
 obtain ⟨t133, A2, H⟩ := H
 try dsimp only at H
 by_cases c3 : 0 ≤ a0_0
 ·rw [if_pos c3] at H
  have c3b0 : decide (0 ≤ a0_0) = true := decide_eq_true c3
  clear c3
  by_cases c4 : a0_0 < (t133.length : Int)
  ·rw [if_pos c4] at H
   have c4b0 : decide (a0_0 < (t133.length : Int)) = true := decide_eq_true c4
   clear c4
   replace H := oA H
   obtain ⟨t137, A5, H⟩ := H
   try dsimp only at H
   by_cases c6 : 2 + t137.size ≤ 9223372036854775807
   ·rw [if_pos c6] at H
    have c6b0 := eq_true c6
    have c6b1 : decide (2 + t137.size ≤ 9223372036854775807) = true := decide_eq_true c6
    try have c6b2 : (9223372036854775807 < 2 + t137.size) = False := eq_false (Nat.not_lt.2 c6)
    try (have c6b3 := c6; simp only [ByteArray.size_append, bs1, bs2] at c6b3; have c6b4 := eq_false (Nat.not_lt.2 c6b3); clear c6b3)
    replace H := oA H
    obtain ⟨t138, A7, H⟩ := H
    try dsimp only at H
    by_cases c8 : t138 = true
    ·subst c8
     rw [if_pos rfl] at H
     by_cases c9 : (rdOf ByteArray.empty t133 a0_0).size + ((⟨#[32, 114]⟩ : ByteArray) ++ t137).size ≤ 9223372036854775807
     ·rw [if_pos c9] at H
      have c9b0 := eq_true c9
      have c9b1 : decide ((rdOf ByteArray.empty t133 a0_0).size + ((⟨#[32, 114]⟩ : ByteArray) ++ t137).size ≤ 9223372036854775807) = true := decide_eq_true c9
      try have c9b2 : (9223372036854775807 < (rdOf ByteArray.empty t133 a0_0).size + ((⟨#[32, 114]⟩ : ByteArray) ++ t137).size) = False := eq_false (Nat.not_lt.2 c9)
      try (have c9b3 := c9; simp only [ByteArray.size_append, bs1, bs2] at c9b3; have c9b4 := eq_false (Nat.not_lt.2 c9b3); clear c9b3)
      by_cases c10 : ((rdOf ByteArray.empty t133 a0_0) ++ ((⟨#[32, 114]⟩ : ByteArray) ++ t137)).size + 1 ≤ 9223372036854775807
      ·rw [if_pos c10] at H
       have c10b0 := eq_true c10
       have c10b1 : decide (((rdOf ByteArray.empty t133 a0_0) ++ ((⟨#[32, 114]⟩ : ByteArray) ++ t137)).size + 1 ≤ 9223372036854775807) = true := decide_eq_true c10
       try have c10b2 : (9223372036854775807 < ((rdOf ByteArray.empty t133 a0_0) ++ ((⟨#[32, 114]⟩ : ByteArray) ++ t137)).size + 1) = False := eq_false (Nat.not_lt.2 c10)
       try (have c10b3 := c10; simp only [ByteArray.size_append, bs1, bs2] at c10b3; have c10b4 := eq_false (Nat.not_lt.2 c10b3); clear c10b3)
       replace H := oA H
       obtain ⟨t139, A11, H⟩ := H
       try dsimp only at H
       by_cases c12 : (((rdOf ByteArray.empty t133 a0_0) ++ ((⟨#[32, 114]⟩ : ByteArray) ++ t137)) ++ (⟨#[32]⟩ : ByteArray)).size + t139.size ≤ 9223372036854775807
       ·rw [if_pos c12] at H
        have c12b0 := eq_true c12
        have c12b1 : decide ((((rdOf ByteArray.empty t133 a0_0) ++ ((⟨#[32, 114]⟩ : ByteArray) ++ t137)) ++ (⟨#[32]⟩ : ByteArray)).size + t139.size ≤ 9223372036854775807) = true := decide_eq_true c12
        try have c12b2 : (9223372036854775807 < (((rdOf ByteArray.empty t133 a0_0) ++ ((⟨#[32, 114]⟩ : ByteArray) ++ t137)) ++ (⟨#[32]⟩ : ByteArray)).size + t139.size) = False := eq_false (Nat.not_lt.2 c12)
        try (have c12b3 := c12; simp only [ByteArray.size_append, bs1, bs2] at c12b3; have c12b4 := eq_false (Nat.not_lt.2 c12b3); clear c12b3)
        obtain rfl := Option.some.inj H
        go_enter Tryz.func14, Tryz.ntmps14
        try go_wp2_with (first | ((with_reducible refine gate_dst (N := 1) rfl ?_); refine be 1 #[.int .i64 a0_0, .int .i64 a0_1, .int .i64 a0_2, .int .i64 a0_3, .int .i64 a0_4, .int .i64 a0_5] 24 ?_; intro gb132 hg w13 hbox hb; have BK132 := Aside0.mk hbox; have GW132 := zW hg; replace HB := zS hb; have GE132 := GW132; clear hb hbox hg))
        replace BK132 := Aside0.mk (blk_drew BK132.out)
        replace HB := Aside0.mk (below_drew1 HB.out)
        refine start_ (n := 6) (S := fun w' => w'.cell? ⟨gb132, 0, none⟩ = some (.int .i64 a0_0) ∧ w'.cell? ⟨gb132, 1, none⟩ = some (.int .i64 a0_1) ∧ w'.cell? ⟨gb132, 2, none⟩ = some (.int .i64 a0_2) ∧ w'.cell? ⟨gb132, 3, none⟩ = some (.int .i64 a0_3) ∧ w'.cell? ⟨gb132, 4, none⟩ = some (.int .i64 a0_4) ∧ w'.cell? ⟨gb132, 5, none⟩ = some (.int .i64 a0_5)) (ds := []) #[false, false, false, false, false, false] (by kernel_rfl) rfl rfl (bc6 BK132) (fun hHeld => ?_)
        generalize w13.drew = w14 at BK132 HB hHeld ⊢
        refine pz 1 6 ?_
        refine tz 2 7 ?_
        refine oz 0 5 fun K hK => ?_
        refine gz Tryz.func32 #[] ?_
        with_reducible refine (spec_l1Words.calls  t133 _ A2.out).mono ?_
        rintro e w15 ⟨v134, rfl, ho0, hb⟩
        refine ⟨_, rfl, ?_⟩
        have HO135 := Aside0.mk (Kd.R_lower ho0 (below_size zB))
        replace BK132 := zb BK132 hb rfl
        replace HB := zS hb
        (try clear hb)
        (try clear hb2)
        (try clear hk)
        (try clear hi)
        (try clear ho0)
        obtain ⟨Ao16, co16, eo16⟩ := Kd.R_slice HO135.out
        (first | subst eo16 | (injection eo16 with f1_ f2_ f3_; have f4_ := f1_.symm; have f5_ := f3_.symm; clear f1_ f2_ f3_; subst f4_; subst f5_))
        have p136 : 0 ≤ (a0_0 : Int) := of_decide_eq_true (by first | (with_reducible assumption) | assumption)
        have q136 : a0_0 < (t133.length : Int) := of_decide_eq_true (by first | (with_reducible assumption) | assumption)
        obtain ⟨ad136, e136, hx136_0⟩ := Kd.at_string (Kd.R_reads' HO135.out).2.2 a0_0 p136 q136
        cases e136
        replace p136 := eq_true p136
        replace q136 := eq_true q136
        refine hK.out _ _ (bc6 BK132) (fun hHeld => ?_)
        clear hK K
        refine nz ?_
        refine pz 3 8 ?_
        refine oz 4 9 fun K hK => ?_
        refine event_step rfl (by go_simp; exact ⟨rfl, rfl⟩) ?_
        refine hK.out _ _ (bc6 BK132) (fun hHeld => ?_)
        clear hK K
        refine nz ?_
        refine pz 5 3 ?_
        refine done_ (by kernel_rfl) ?_
        obtain ⟨_, _, _, _, _, _, _, _, _, _, _, _⟩ := zc6 BK132
        try go_wp2_with (first | ((with_reducible refine gate_callee (f := 33) rfl ?_); refine gl 12 Tryz.func33 #[.int .i64 a0_1] ?_; (with_reducible refine (spec_l1Dec.calls k a0_1 t137 _ A5.out).mono ?_); rintro e w18 ⟨rfl, hb⟩; refine ⟨_, rfl, ?_⟩; replace HO135 := Aside0.mk (Kd.R_below (zU HO135) hb); replace BK132 := zb BK132 hb rfl; replace HB := zS hb; try clear hb; obtain ⟨_, _, _, _, _, _, _, _, _, _, _, _⟩ := zc6 BK132) | ((with_reducible refine gate_callee (f := 34) rfl ?_); refine gl 17 Tryz.func34 #[.int .i64 a0_0] ?_; (with_reducible refine (spec_l1Alu.calls a0_0 true _ A7.out).mono ?_); rintro e w' ⟨rfl, ⟨nd, rfl⟩⟩; refine ⟨_, rfl, ?_⟩) | ((with_reducible refine gate_callee (f := 35) rfl ?_); refine gl 26 Tryz.func35 #[.int .i64 a0_2, .int .i64 a0_4] ?_; (with_reducible refine (spec_l1Reg.calls k a0_2 a0_4 t139 _ A11.out).mono ?_); rintro e w20 ⟨rfl, hb⟩; refine ⟨_, rfl, ?_⟩; replace HO135 := Aside0.mk (Kd.R_below (zU HO135) hb); replace BK132 := zb BK132 hb rfl; replace HB := zS hb; try clear hb))
        go_ret
        exact ⟨zR, zB⟩
       ·exact absurd H (nN c12)
      ·exact absurd H (nN c10)
     ·exact absurd H (nN c9)
    ·replace c8 := Bool.eq_false_iff.mpr c8
     subst c8
     rw [if_neg (show ¬ (false = true) by decide)] at H
     replace H := oA H
     obtain ⟨t140, A21, H⟩ := H
     try dsimp only at H
     by_cases c22 : t140 = true
     ·subst c22
      rw [if_pos rfl] at H
      by_cases c23 : (rdOf ByteArray.empty t133 a0_0).size + ((⟨#[32, 114]⟩ : ByteArray) ++ t137).size ≤ 9223372036854775807
      ·rw [if_pos c23] at H
       have c23b0 := eq_true c23
       have c23b1 : decide ((rdOf ByteArray.empty t133 a0_0).size + ((⟨#[32, 114]⟩ : ByteArray) ++ t137).size ≤ 9223372036854775807) = true := decide_eq_true c23
       try have c23b2 : (9223372036854775807 < (rdOf ByteArray.empty t133 a0_0).size + ((⟨#[32, 114]⟩ : ByteArray) ++ t137).size) = False := eq_false (Nat.not_lt.2 c23)
       try (have c23b3 := c23; simp only [ByteArray.size_append, bs1, bs2] at c23b3; have c23b4 := eq_false (Nat.not_lt.2 c23b3); clear c23b3)
       by_cases c24 : ((rdOf ByteArray.empty t133 a0_0) ++ ((⟨#[32, 114]⟩ : ByteArray) ++ t137)).size + 1 ≤ 9223372036854775807
       ·rw [if_pos c24] at H
        have c24b0 := eq_true c24
        have c24b1 : decide (((rdOf ByteArray.empty t133 a0_0) ++ ((⟨#[32, 114]⟩ : ByteArray) ++ t137)).size + 1 ≤ 9223372036854775807) = true := decide_eq_true c24
        try have c24b2 : (9223372036854775807 < ((rdOf ByteArray.empty t133 a0_0) ++ ((⟨#[32, 114]⟩ : ByteArray) ++ t137)).size + 1) = False := eq_false (Nat.not_lt.2 c24)
        try (have c24b3 := c24; simp only [ByteArray.size_append, bs1, bs2] at c24b3; have c24b4 := eq_false (Nat.not_lt.2 c24b3); clear c24b3)
        replace H := oA H
        obtain ⟨t141, A25, H⟩ := H
        try dsimp only at H
        by_cases c26 : (((rdOf ByteArray.empty t133 a0_0) ++ ((⟨#[32, 114]⟩ : ByteArray) ++ t137)) ++ (⟨#[32]⟩ : ByteArray)).size + t141.size ≤ 9223372036854775807
        ·rw [if_pos c26] at H
         have c26b0 := eq_true c26
         have c26b1 : decide ((((rdOf ByteArray.empty t133 a0_0) ++ ((⟨#[32, 114]⟩ : ByteArray) ++ t137)) ++ (⟨#[32]⟩ : ByteArray)).size + t141.size ≤ 9223372036854775807) = true := decide_eq_true c26
         try have c26b2 : (9223372036854775807 < (((rdOf ByteArray.empty t133 a0_0) ++ ((⟨#[32, 114]⟩ : ByteArray) ++ t137)) ++ (⟨#[32]⟩ : ByteArray)).size + t141.size) = False := eq_false (Nat.not_lt.2 c26)
         try (have c26b3 := c26; simp only [ByteArray.size_append, bs1, bs2] at c26b3; have c26b4 := eq_false (Nat.not_lt.2 c26b3); clear c26b3)
         by_cases c27 : ((((rdOf ByteArray.empty t133 a0_0) ++ ((⟨#[32, 114]⟩ : ByteArray) ++ t137)) ++ (⟨#[32]⟩ : ByteArray)) ++ t141).size + 1 ≤ 9223372036854775807
         ·rw [if_pos c27] at H
          have c27b0 := eq_true c27
          have c27b1 : decide (((((rdOf ByteArray.empty t133 a0_0) ++ ((⟨#[32, 114]⟩ : ByteArray) ++ t137)) ++ (⟨#[32]⟩ : ByteArray)) ++ t141).size + 1 ≤ 9223372036854775807) = true := decide_eq_true c27
          try have c27b2 : (9223372036854775807 < ((((rdOf ByteArray.empty t133 a0_0) ++ ((⟨#[32, 114]⟩ : ByteArray) ++ t137)) ++ (⟨#[32]⟩ : ByteArray)) ++ t141).size + 1) = False := eq_false (Nat.not_lt.2 c27)
          try (have c27b3 := c27; simp only [ByteArray.size_append, bs1, bs2] at c27b3; have c27b4 := eq_false (Nat.not_lt.2 c27b3); clear c27b3)
          replace H := oA H
          obtain ⟨t142, A28, H⟩ := H
          try dsimp only at H
          by_cases c29 : (((((rdOf ByteArray.empty t133 a0_0) ++ ((⟨#[32, 114]⟩ : ByteArray) ++ t137)) ++ (⟨#[32]⟩ : ByteArray)) ++ t141) ++ (⟨#[32]⟩ : ByteArray)).size + t142.size ≤ 9223372036854775807
          ·rw [if_pos c29] at H
           have c29b0 := eq_true c29
           have c29b1 : decide ((((((rdOf ByteArray.empty t133 a0_0) ++ ((⟨#[32, 114]⟩ : ByteArray) ++ t137)) ++ (⟨#[32]⟩ : ByteArray)) ++ t141) ++ (⟨#[32]⟩ : ByteArray)).size + t142.size ≤ 9223372036854775807) = true := decide_eq_true c29
           try have c29b2 : (9223372036854775807 < (((((rdOf ByteArray.empty t133 a0_0) ++ ((⟨#[32, 114]⟩ : ByteArray) ++ t137)) ++ (⟨#[32]⟩ : ByteArray)) ++ t141) ++ (⟨#[32]⟩ : ByteArray)).size + t142.size) = False := eq_false (Nat.not_lt.2 c29)
           try (have c29b3 := c29; simp only [ByteArray.size_append, bs1, bs2] at c29b3; have c29b4 := eq_false (Nat.not_lt.2 c29b3); clear c29b3)
           obtain rfl := Option.some.inj H
           go_enter Tryz.func14, Tryz.ntmps14
           try go_wp2_with (first | ((with_reducible refine gate_dst (N := 1) rfl ?_); refine be 1 #[.int .i64 a0_0, .int .i64 a0_1, .int .i64 a0_2, .int .i64 a0_3, .int .i64 a0_4, .int .i64 a0_5] 24 ?_; intro gb132 hg w30 hbox hb; have BK132 := Aside0.mk hbox; have GW132 := zW hg; replace HB := zS hb; have GE132 := GW132; clear hb hbox hg))
           replace BK132 := Aside0.mk (blk_drew BK132.out)
           replace HB := Aside0.mk (below_drew1 HB.out)
           refine start_ (n := 6) (S := fun w' => w'.cell? ⟨gb132, 0, none⟩ = some (.int .i64 a0_0) ∧ w'.cell? ⟨gb132, 1, none⟩ = some (.int .i64 a0_1) ∧ w'.cell? ⟨gb132, 2, none⟩ = some (.int .i64 a0_2) ∧ w'.cell? ⟨gb132, 3, none⟩ = some (.int .i64 a0_3) ∧ w'.cell? ⟨gb132, 4, none⟩ = some (.int .i64 a0_4) ∧ w'.cell? ⟨gb132, 5, none⟩ = some (.int .i64 a0_5)) (ds := []) #[false, false, false, false, false, false] (by kernel_rfl) rfl rfl (bc6 BK132) (fun hHeld => ?_)
           generalize w30.drew = w31 at BK132 HB hHeld ⊢
           refine pz 1 6 ?_
           refine tz 2 7 ?_
           refine oz 0 5 fun K hK => ?_
           refine gz Tryz.func32 #[] ?_
           with_reducible refine (spec_l1Words.calls  t133 _ A2.out).mono ?_
           rintro e w32 ⟨v134, rfl, ho0, hb⟩
           refine ⟨_, rfl, ?_⟩
           have HO135 := Aside0.mk (Kd.R_lower ho0 (below_size zB))
           replace BK132 := zb BK132 hb rfl
           replace HB := zS hb
           (try clear hb)
           (try clear hb2)
           (try clear hk)
           (try clear hi)
           (try clear ho0)
           obtain ⟨Ao33, co33, eo33⟩ := Kd.R_slice HO135.out
           (first | subst eo33 | (injection eo33 with f1_ f2_ f3_; have f4_ := f1_.symm; have f5_ := f3_.symm; clear f1_ f2_ f3_; subst f4_; subst f5_))
           have p136 : 0 ≤ (a0_0 : Int) := of_decide_eq_true (by first | (with_reducible assumption) | assumption)
           have q136 : a0_0 < (t133.length : Int) := of_decide_eq_true (by first | (with_reducible assumption) | assumption)
           obtain ⟨ad136, e136, hx136_0⟩ := Kd.at_string (Kd.R_reads' HO135.out).2.2 a0_0 p136 q136
           cases e136
           replace p136 := eq_true p136
           replace q136 := eq_true q136
           refine hK.out _ _ (bc6 BK132) (fun hHeld => ?_)
           clear hK K
           refine nz ?_
           refine pz 3 8 ?_
           refine oz 4 9 fun K hK => ?_
           refine event_step rfl (by go_simp; exact ⟨rfl, rfl⟩) ?_
           refine hK.out _ _ (bc6 BK132) (fun hHeld => ?_)
           clear hK K
           refine nz ?_
           refine pz 5 3 ?_
           refine done_ (by kernel_rfl) ?_
           obtain ⟨_, _, _, _, _, _, _, _, _, _, _, _⟩ := zc6 BK132
           try go_wp2_with (first | ((with_reducible refine gate_callee (f := 33) rfl ?_); refine gl 12 Tryz.func33 #[.int .i64 a0_1] ?_; (with_reducible refine (spec_l1Dec.calls k a0_1 t137 _ A5.out).mono ?_); rintro e w35 ⟨rfl, hb⟩; refine ⟨_, rfl, ?_⟩; replace HO135 := Aside0.mk (Kd.R_below (zU HO135) hb); replace BK132 := zb BK132 hb rfl; replace HB := zS hb; try clear hb; obtain ⟨_, _, _, _, _, _, _, _, _, _, _, _⟩ := zc6 BK132) | ((with_reducible refine gate_callee (f := 34) rfl ?_); refine gl 17 Tryz.func34 #[.int .i64 a0_0] ?_; (with_reducible refine (spec_l1Alu.calls a0_0 false _ A7.out).mono ?_); rintro e w' ⟨rfl, ⟨nd, rfl⟩⟩; refine ⟨_, rfl, ?_⟩) | ((with_reducible refine gate_callee (f := 36) rfl ?_); refine gl 31 Tryz.func36 #[.int .i64 a0_0] ?_; (with_reducible refine (spec_l1Jump.calls a0_0 true _ A21.out).mono ?_); rintro e w' ⟨rfl, ⟨nd, rfl⟩⟩; refine ⟨_, rfl, ?_⟩))
           (try (rw [drewN_self w35]; generalize hq_ : World.drewN w35 _ = w35; have n0_ : Aside0 (Kd.R Kd.string 9 w35 w.heap.size (fun _ => True) (.slice (some ad136) t133.length co33) t133) := ⟨by rw [← hq_]; exact (zU HO135)⟩; have n1_ : Aside0 (w35.heap[gb132]? = some (.cells #[.int .i64 a0_0, .int .i64 a0_1, .int .i64 a0_2, .int .i64 a0_3, .int .i64 a0_4, .int .i64 a0_5] 24 (0, 0))) := ⟨by rw [← hq_]; exact (by exact bq BK132.out)⟩; have n2_ : Aside0 (Below w.heap.size w w35) := ⟨by rw [← hq_]; exact zB⟩; clear HO135 BK132 HB hq_; have HO135 := n0_; have BK132 := n1_; have HB := n2_; clear n0_ n1_ n2_))
           replace HO135 := Aside0.mk (Kd.R_drew HO135.out)
           replace BK132 := Aside0.mk (blk_drew BK132.out)
           replace HB := Aside0.mk (below_drew1 HB.out)
           refine start_ (n := 16) (S := fun w' => w'.cell? ⟨gb132, 0, none⟩ = some (.int .i64 a0_0) ∧ w'.cell? ⟨gb132, 1, none⟩ = some (.int .i64 a0_1) ∧ w'.cell? ⟨gb132, 2, none⟩ = some (.int .i64 a0_2) ∧ w'.cell? ⟨gb132, 3, none⟩ = some (.int .i64 a0_3) ∧ w'.cell? ⟨gb132, 4, none⟩ = some (.int .i64 a0_4) ∧ w'.cell? ⟨gb132, 5, none⟩ = some (.int .i64 a0_5)) (ds := []) #[false, false, false, false, false, false, false, false, false, false, false, false, false, false, false, false] (by kernel_rfl) rfl rfl (bc6 BK132) (fun hHeld => ?_); refine with_tabW spec_l1Line.tab6 spec_l1Line.bits6 (fun HT_ HW_ => ?_)
           generalize w35.drew = w37 at HO135 BK132 HB hHeld ⊢
           refine pz 0 32 ?_
           refine pz 1 33 ?_
           refine pz 2 34 ?_
           refine pz 3 35 ?_
           refine pz 4 36 ?_
           refine pz 6 38 ?_
           refine pz 11 43 ?_
           refine tz 5 37 ?_
           refine tz 7 39 ?_
           refine tz 12 44 ?_
           refine oz 8 40 fun K hK => ?_
           refine gz Tryz.func35 #[.int .i64 a0_2, .int .i64 a0_4] ?_
           with_reducible refine (spec_l1Reg.calls k a0_2 a0_4 t141 _ A25.out).mono ?_
           rintro e w38 ⟨rfl, hb⟩
           refine ⟨_, rfl, ?_⟩
           replace HO135 := Aside0.mk (Kd.R_below (zU HO135) hb)
           replace BK132 := zb BK132 hb rfl
           replace HB := zS hb
           try clear hb
           refine hK.out _ _ (bc6 BK132) (fun hHeld => ?_)
           clear hK K
           refine nz ?_
           refine pz 9 41 ?_
           refine pz 10 42 ?_
           refine oz 13 45 fun K hK => ?_
           refine gz Tryz.func33 #[.int .i64 a0_3] ?_
           with_reducible refine (spec_l1Dec.calls k a0_3 t142 _ A28.out).mono ?_
           rintro e w39 ⟨rfl, hb⟩
           refine ⟨_, rfl, ?_⟩
           replace HO135 := Aside0.mk (Kd.R_below (zU HO135) hb)
           replace BK132 := zb BK132 hb rfl
           replace HB := zS hb
           try clear hb
           refine hK.out _ _ (bc6 BK132) (fun hHeld => ?_)
           clear hK K
           refine nz ?_
           refine pz 14 46 ?_
           refine pz 15 2 ?_
           refine done_ (done_of HT_.out (by kernel_rfl)) ?_
           try go_wp2
           go_ret
           exact ⟨zR, zB⟩
          ·exact absurd H (nN c29)
         ·exact absurd H (nN c27)
        ·exact absurd H (nN c26)
       ·exact absurd H (nN c24)
      ·exact absurd H (nN c23)
     ·replace c22 := Bool.eq_false_iff.mpr c22
      subst c22
      rw [if_neg (show ¬ (false = true) by decide)] at H
      by_cases c40 : a0_0 = 16
      ·rw [if_pos c40] at H
       have c40b0 : (a0_0 == 16) = true := beq_iff_eq.mpr c40
       have c40b1 : (a0_0 != 16) = false := bne_eq_false_iff_eq.mpr c40
       clear c40
       by_cases c41 : (rdOf ByteArray.empty t133 a0_0).size + 1 ≤ 9223372036854775807
       ·rw [if_pos c41] at H
        have c41b0 := eq_true c41
        have c41b1 : decide ((rdOf ByteArray.empty t133 a0_0).size + 1 ≤ 9223372036854775807) = true := decide_eq_true c41
        try have c41b2 : (9223372036854775807 < (rdOf ByteArray.empty t133 a0_0).size + 1) = False := eq_false (Nat.not_lt.2 c41)
        try (have c41b3 := c41; simp only [ByteArray.size_append, bs1, bs2] at c41b3; have c41b4 := eq_false (Nat.not_lt.2 c41b3); clear c41b3)
        replace H := oA H
        obtain ⟨t143, A42, H⟩ := H
        try dsimp only at H
        by_cases c43 : ((rdOf ByteArray.empty t133 a0_0) ++ (⟨#[32]⟩ : ByteArray)).size + t143.size ≤ 9223372036854775807
        ·rw [if_pos c43] at H
         have c43b0 := eq_true c43
         have c43b1 : decide (((rdOf ByteArray.empty t133 a0_0) ++ (⟨#[32]⟩ : ByteArray)).size + t143.size ≤ 9223372036854775807) = true := decide_eq_true c43
         try have c43b2 : (9223372036854775807 < ((rdOf ByteArray.empty t133 a0_0) ++ (⟨#[32]⟩ : ByteArray)).size + t143.size) = False := eq_false (Nat.not_lt.2 c43)
         try (have c43b3 := c43; simp only [ByteArray.size_append, bs1, bs2] at c43b3; have c43b4 := eq_false (Nat.not_lt.2 c43b3); clear c43b3)
         obtain rfl := Option.some.inj H
         go_enter Tryz.func14, Tryz.ntmps14
         try go_wp2_with (first | ((with_reducible refine gate_dst (N := 1) rfl ?_); refine be 1 #[.int .i64 a0_0, .int .i64 a0_1, .int .i64 a0_2, .int .i64 a0_3, .int .i64 a0_4, .int .i64 a0_5] 24 ?_; intro gb132 hg w44 hbox hb; have BK132 := Aside0.mk hbox; have GW132 := zW hg; replace HB := zS hb; have GE132 := GW132; clear hb hbox hg))
         replace BK132 := Aside0.mk (blk_drew BK132.out)
         replace HB := Aside0.mk (below_drew1 HB.out)
         refine start_ (n := 6) (S := fun w' => w'.cell? ⟨gb132, 0, none⟩ = some (.int .i64 a0_0) ∧ w'.cell? ⟨gb132, 1, none⟩ = some (.int .i64 a0_1) ∧ w'.cell? ⟨gb132, 2, none⟩ = some (.int .i64 a0_2) ∧ w'.cell? ⟨gb132, 3, none⟩ = some (.int .i64 a0_3) ∧ w'.cell? ⟨gb132, 4, none⟩ = some (.int .i64 a0_4) ∧ w'.cell? ⟨gb132, 5, none⟩ = some (.int .i64 a0_5)) (ds := []) #[false, false, false, false, false, false] (by kernel_rfl) rfl rfl (bc6 BK132) (fun hHeld => ?_)
         generalize w44.drew = w45 at BK132 HB hHeld ⊢
         refine pz 1 6 ?_
         refine tz 2 7 ?_
         refine oz 0 5 fun K hK => ?_
         refine gz Tryz.func32 #[] ?_
         with_reducible refine (spec_l1Words.calls  t133 _ A2.out).mono ?_
         rintro e w46 ⟨v134, rfl, ho0, hb⟩
         refine ⟨_, rfl, ?_⟩
         have HO135 := Aside0.mk (Kd.R_lower ho0 (below_size zB))
         replace BK132 := zb BK132 hb rfl
         replace HB := zS hb
         (try clear hb)
         (try clear hb2)
         (try clear hk)
         (try clear hi)
         (try clear ho0)
         obtain ⟨Ao47, co47, eo47⟩ := Kd.R_slice HO135.out
         (first | subst eo47 | (injection eo47 with f1_ f2_ f3_; have f4_ := f1_.symm; have f5_ := f3_.symm; clear f1_ f2_ f3_; subst f4_; subst f5_))
         have p136 : 0 ≤ (a0_0 : Int) := of_decide_eq_true (by first | (with_reducible assumption) | assumption)
         have q136 : a0_0 < (t133.length : Int) := of_decide_eq_true (by first | (with_reducible assumption) | assumption)
         obtain ⟨ad136, e136, hx136_0⟩ := Kd.at_string (Kd.R_reads' HO135.out).2.2 a0_0 p136 q136
         cases e136
         replace p136 := eq_true p136
         replace q136 := eq_true q136
         refine hK.out _ _ (bc6 BK132) (fun hHeld => ?_)
         clear hK K
         refine nz ?_
         refine pz 3 8 ?_
         refine oz 4 9 fun K hK => ?_
         refine event_step rfl (by go_simp; exact ⟨rfl, rfl⟩) ?_
         refine hK.out _ _ (bc6 BK132) (fun hHeld => ?_)
         clear hK K
         refine nz ?_
         refine pz 5 3 ?_
         refine done_ (by kernel_rfl) ?_
         obtain ⟨_, _, _, _, _, _, _, _, _, _, _, _⟩ := zc6 BK132
         try go_wp2_with (first | ((with_reducible refine gate_callee (f := 33) rfl ?_); refine gl 12 Tryz.func33 #[.int .i64 a0_1] ?_; (with_reducible refine (spec_l1Dec.calls k a0_1 t137 _ A5.out).mono ?_); rintro e w49 ⟨rfl, hb⟩; refine ⟨_, rfl, ?_⟩; replace HO135 := Aside0.mk (Kd.R_below (zU HO135) hb); replace BK132 := zb BK132 hb rfl; replace HB := zS hb; try clear hb; obtain ⟨_, _, _, _, _, _, _, _, _, _, _, _⟩ := zc6 BK132) | ((with_reducible refine gate_callee (f := 34) rfl ?_); refine gl 17 Tryz.func34 #[.int .i64 a0_0] ?_; (with_reducible refine (spec_l1Alu.calls a0_0 false _ A7.out).mono ?_); rintro e w' ⟨rfl, ⟨nd, rfl⟩⟩; refine ⟨_, rfl, ?_⟩) | ((with_reducible refine gate_callee (f := 36) rfl ?_); refine gl 31 Tryz.func36 #[.int .i64 a0_0] ?_; (with_reducible refine (spec_l1Jump.calls a0_0 false _ A21.out).mono ?_); rintro e w' ⟨rfl, ⟨nd, rfl⟩⟩; refine ⟨_, rfl, ?_⟩) | ((with_reducible refine gate_callee (f := 33) rfl ?_); refine gl 55 Tryz.func33 #[.int .i64 a0_3] ?_; (with_reducible refine (spec_l1Dec.calls k a0_3 t143 _ A42.out).mono ?_); rintro e w51 ⟨rfl, hb⟩; refine ⟨_, rfl, ?_⟩; replace HO135 := Aside0.mk (Kd.R_below (zU HO135) hb); replace BK132 := zb BK132 hb rfl; replace HB := zS hb; try clear hb))
         go_ret
         exact ⟨zR, zB⟩
        ·exact absurd H (nN c43)
       ·exact absurd H (nN c41)
      ·rw [if_neg c40] at H
       have c40b0 : (a0_0 == 16) = false := beq_eq_false_iff_ne.mpr c40
       have c40b1 : (a0_0 != 16) = true := bne_iff_ne.mpr c40
       by_cases c52 : a0_0 = 17
       ·rw [if_pos c52] at H
        have c52b0 : (a0_0 == 17) = true := beq_iff_eq.mpr c52
        have c52b1 : (a0_0 != 17) = false := bne_eq_false_iff_eq.mpr c52
        clear c52
        replace H := oA H
        obtain ⟨t144, A53, H⟩ := H
        try dsimp only at H
        by_cases c54 : (rdOf ByteArray.empty t133 a0_0).size + t144.size ≤ 9223372036854775807
        ·rw [if_pos c54] at H
         have c54b0 := eq_true c54
         have c54b1 : decide ((rdOf ByteArray.empty t133 a0_0).size + t144.size ≤ 9223372036854775807) = true := decide_eq_true c54
         try have c54b2 : (9223372036854775807 < (rdOf ByteArray.empty t133 a0_0).size + t144.size) = False := eq_false (Nat.not_lt.2 c54)
         try (have c54b3 := c54; simp only [ByteArray.size_append, bs1, bs2] at c54b3; have c54b4 := eq_false (Nat.not_lt.2 c54b3); clear c54b3)
         by_cases c55 : ((rdOf ByteArray.empty t133 a0_0) ++ t144).size + ((⟨#[32, 114]⟩ : ByteArray) ++ t137).size ≤ 9223372036854775807
         ·rw [if_pos c55] at H
          have c55b0 := eq_true c55
          have c55b1 : decide (((rdOf ByteArray.empty t133 a0_0) ++ t144).size + ((⟨#[32, 114]⟩ : ByteArray) ++ t137).size ≤ 9223372036854775807) = true := decide_eq_true c55
          try have c55b2 : (9223372036854775807 < ((rdOf ByteArray.empty t133 a0_0) ++ t144).size + ((⟨#[32, 114]⟩ : ByteArray) ++ t137).size) = False := eq_false (Nat.not_lt.2 c55)
          try (have c55b3 := c55; simp only [ByteArray.size_append, bs1, bs2] at c55b3; have c55b4 := eq_false (Nat.not_lt.2 c55b3); clear c55b3)
          by_cases c56 : (((rdOf ByteArray.empty t133 a0_0) ++ t144) ++ ((⟨#[32, 114]⟩ : ByteArray) ++ t137)).size + 2 ≤ 9223372036854775807
          ·rw [if_pos c56] at H
           have c56b0 := eq_true c56
           have c56b1 : decide ((((rdOf ByteArray.empty t133 a0_0) ++ t144) ++ ((⟨#[32, 114]⟩ : ByteArray) ++ t137)).size + 2 ≤ 9223372036854775807) = true := decide_eq_true c56
           try have c56b2 : (9223372036854775807 < (((rdOf ByteArray.empty t133 a0_0) ++ t144) ++ ((⟨#[32, 114]⟩ : ByteArray) ++ t137)).size + 2) = False := eq_false (Nat.not_lt.2 c56)
           try (have c56b3 := c56; simp only [ByteArray.size_append, bs1, bs2] at c56b3; have c56b4 := eq_false (Nat.not_lt.2 c56b3); clear c56b3)
           replace H := oA H
           obtain ⟨t145, A57, H⟩ := H
           try dsimp only at H
           by_cases c58 : ((((rdOf ByteArray.empty t133 a0_0) ++ t144) ++ ((⟨#[32, 114]⟩ : ByteArray) ++ t137)) ++ (⟨#[32, 114]⟩ : ByteArray)).size + t145.size ≤ 9223372036854775807
           ·rw [if_pos c58] at H
            have c58b0 := eq_true c58
            have c58b1 : decide (((((rdOf ByteArray.empty t133 a0_0) ++ t144) ++ ((⟨#[32, 114]⟩ : ByteArray) ++ t137)) ++ (⟨#[32, 114]⟩ : ByteArray)).size + t145.size ≤ 9223372036854775807) = true := decide_eq_true c58
            try have c58b2 : (9223372036854775807 < ((((rdOf ByteArray.empty t133 a0_0) ++ t144) ++ ((⟨#[32, 114]⟩ : ByteArray) ++ t137)) ++ (⟨#[32, 114]⟩ : ByteArray)).size + t145.size) = False := eq_false (Nat.not_lt.2 c58)
            try (have c58b3 := c58; simp only [ByteArray.size_append, bs1, bs2] at c58b3; have c58b4 := eq_false (Nat.not_lt.2 c58b3); clear c58b3)
            by_cases c59 : (((((rdOf ByteArray.empty t133 a0_0) ++ t144) ++ ((⟨#[32, 114]⟩ : ByteArray) ++ t137)) ++ (⟨#[32, 114]⟩ : ByteArray)) ++ t145).size + 1 ≤ 9223372036854775807
            ·rw [if_pos c59] at H
             have c59b0 := eq_true c59
             have c59b1 : decide ((((((rdOf ByteArray.empty t133 a0_0) ++ t144) ++ ((⟨#[32, 114]⟩ : ByteArray) ++ t137)) ++ (⟨#[32, 114]⟩ : ByteArray)) ++ t145).size + 1 ≤ 9223372036854775807) = true := decide_eq_true c59
             try have c59b2 : (9223372036854775807 < (((((rdOf ByteArray.empty t133 a0_0) ++ t144) ++ ((⟨#[32, 114]⟩ : ByteArray) ++ t137)) ++ (⟨#[32, 114]⟩ : ByteArray)) ++ t145).size + 1) = False := eq_false (Nat.not_lt.2 c59)
             try (have c59b3 := c59; simp only [ByteArray.size_append, bs1, bs2] at c59b3; have c59b4 := eq_false (Nat.not_lt.2 c59b3); clear c59b3)
             replace H := oA H
             obtain ⟨t146, A60, H⟩ := H
             try dsimp only at H
             by_cases c61 : ((((((rdOf ByteArray.empty t133 a0_0) ++ t144) ++ ((⟨#[32, 114]⟩ : ByteArray) ++ t137)) ++ (⟨#[32, 114]⟩ : ByteArray)) ++ t145) ++ (⟨#[32]⟩ : ByteArray)).size + t146.size ≤ 9223372036854775807
             ·rw [if_pos c61] at H
              have c61b0 := eq_true c61
              have c61b1 : decide (((((((rdOf ByteArray.empty t133 a0_0) ++ t144) ++ ((⟨#[32, 114]⟩ : ByteArray) ++ t137)) ++ (⟨#[32, 114]⟩ : ByteArray)) ++ t145) ++ (⟨#[32]⟩ : ByteArray)).size + t146.size ≤ 9223372036854775807) = true := decide_eq_true c61
              try have c61b2 : (9223372036854775807 < ((((((rdOf ByteArray.empty t133 a0_0) ++ t144) ++ ((⟨#[32, 114]⟩ : ByteArray) ++ t137)) ++ (⟨#[32, 114]⟩ : ByteArray)) ++ t145) ++ (⟨#[32]⟩ : ByteArray)).size + t146.size) = False := eq_false (Nat.not_lt.2 c61)
              try (have c61b3 := c61; simp only [ByteArray.size_append, bs1, bs2] at c61b3; have c61b4 := eq_false (Nat.not_lt.2 c61b3); clear c61b3)
              obtain rfl := Option.some.inj H
              go_enter Tryz.func14, Tryz.ntmps14
              try go_wp2_with (first | ((with_reducible refine gate_dst (N := 1) rfl ?_); refine be 1 #[.int .i64 a0_0, .int .i64 a0_1, .int .i64 a0_2, .int .i64 a0_3, .int .i64 a0_4, .int .i64 a0_5] 24 ?_; intro gb132 hg w62 hbox hb; have BK132 := Aside0.mk hbox; have GW132 := zW hg; replace HB := zS hb; have GE132 := GW132; clear hb hbox hg))
              replace BK132 := Aside0.mk (blk_drew BK132.out)
              replace HB := Aside0.mk (below_drew1 HB.out)
              refine start_ (n := 6) (S := fun w' => w'.cell? ⟨gb132, 0, none⟩ = some (.int .i64 a0_0) ∧ w'.cell? ⟨gb132, 1, none⟩ = some (.int .i64 a0_1) ∧ w'.cell? ⟨gb132, 2, none⟩ = some (.int .i64 a0_2) ∧ w'.cell? ⟨gb132, 3, none⟩ = some (.int .i64 a0_3) ∧ w'.cell? ⟨gb132, 4, none⟩ = some (.int .i64 a0_4) ∧ w'.cell? ⟨gb132, 5, none⟩ = some (.int .i64 a0_5)) (ds := []) #[false, false, false, false, false, false] (by kernel_rfl) rfl rfl (bc6 BK132) (fun hHeld => ?_)
              generalize w62.drew = w63 at BK132 HB hHeld ⊢
              refine pz 1 6 ?_
              refine tz 2 7 ?_
              refine oz 0 5 fun K hK => ?_
              refine gz Tryz.func32 #[] ?_
              with_reducible refine (spec_l1Words.calls  t133 _ A2.out).mono ?_
              rintro e w64 ⟨v134, rfl, ho0, hb⟩
              refine ⟨_, rfl, ?_⟩
              have HO135 := Aside0.mk (Kd.R_lower ho0 (below_size zB))
              replace BK132 := zb BK132 hb rfl
              replace HB := zS hb
              (try clear hb)
              (try clear hb2)
              (try clear hk)
              (try clear hi)
              (try clear ho0)
              obtain ⟨Ao65, co65, eo65⟩ := Kd.R_slice HO135.out
              (first | subst eo65 | (injection eo65 with f1_ f2_ f3_; have f4_ := f1_.symm; have f5_ := f3_.symm; clear f1_ f2_ f3_; subst f4_; subst f5_))
              have p136 : 0 ≤ (a0_0 : Int) := of_decide_eq_true (by first | (with_reducible assumption) | assumption)
              have q136 : a0_0 < (t133.length : Int) := of_decide_eq_true (by first | (with_reducible assumption) | assumption)
              obtain ⟨ad136, e136, hx136_0⟩ := Kd.at_string (Kd.R_reads' HO135.out).2.2 a0_0 p136 q136
              cases e136
              replace p136 := eq_true p136
              replace q136 := eq_true q136
              refine hK.out _ _ (bc6 BK132) (fun hHeld => ?_)
              clear hK K
              refine nz ?_
              refine pz 3 8 ?_
              refine oz 4 9 fun K hK => ?_
              refine event_step rfl (by go_simp; exact ⟨rfl, rfl⟩) ?_
              refine hK.out _ _ (bc6 BK132) (fun hHeld => ?_)
              clear hK K
              refine nz ?_
              refine pz 5 3 ?_
              refine done_ (by kernel_rfl) ?_
              obtain ⟨_, _, _, _, _, _, _, _, _, _, _, _⟩ := zc6 BK132
              try go_wp2_with (first | ((with_reducible refine gate_callee (f := 33) rfl ?_); refine gl 12 Tryz.func33 #[.int .i64 a0_1] ?_; (with_reducible refine (spec_l1Dec.calls k a0_1 t137 _ A5.out).mono ?_); rintro e w67 ⟨rfl, hb⟩; refine ⟨_, rfl, ?_⟩; replace HO135 := Aside0.mk (Kd.R_below (zU HO135) hb); replace BK132 := zb BK132 hb rfl; replace HB := zS hb; try clear hb; obtain ⟨_, _, _, _, _, _, _, _, _, _, _, _⟩ := zc6 BK132) | ((with_reducible refine gate_callee (f := 34) rfl ?_); refine gl 17 Tryz.func34 #[.int .i64 a0_0] ?_; (with_reducible refine (spec_l1Alu.calls a0_0 false _ A7.out).mono ?_); rintro e w' ⟨rfl, ⟨nd, rfl⟩⟩; refine ⟨_, rfl, ?_⟩) | ((with_reducible refine gate_callee (f := 36) rfl ?_); refine gl 31 Tryz.func36 #[.int .i64 a0_0] ?_; (with_reducible refine (spec_l1Jump.calls a0_0 false _ A21.out).mono ?_); rintro e w' ⟨rfl, ⟨nd, rfl⟩⟩; refine ⟨_, rfl, ?_⟩))
              (try (rw [drewN_self w67]; generalize hq_ : World.drewN w67 _ = w67; have n0_ : Aside0 (Kd.R Kd.string 9 w67 w.heap.size (fun _ => True) (.slice (some ad136) t133.length co65) t133) := ⟨by rw [← hq_]; exact (zU HO135)⟩; have n1_ : Aside0 (w67.heap[gb132]? = some (.cells #[.int .i64 a0_0, .int .i64 a0_1, .int .i64 a0_2, .int .i64 a0_3, .int .i64 a0_4, .int .i64 a0_5] 24 (0, 0))) := ⟨by rw [← hq_]; exact (by exact bq BK132.out)⟩; have n2_ : Aside0 (Below w.heap.size w w67) := ⟨by rw [← hq_]; exact zB⟩; clear HO135 BK132 HB hq_; have HO135 := n0_; have BK132 := n1_; have HB := n2_; clear n0_ n1_ n2_))
              replace HO135 := Aside0.mk (Kd.R_drew HO135.out)
              replace BK132 := Aside0.mk (blk_drew BK132.out)
              replace HB := Aside0.mk (below_drew1 HB.out)
              refine start_ (n := 18) (S := fun w' => w'.cell? ⟨gb132, 0, none⟩ = some (.int .i64 a0_0) ∧ w'.cell? ⟨gb132, 1, none⟩ = some (.int .i64 a0_1) ∧ w'.cell? ⟨gb132, 2, none⟩ = some (.int .i64 a0_2) ∧ w'.cell? ⟨gb132, 3, none⟩ = some (.int .i64 a0_3) ∧ w'.cell? ⟨gb132, 4, none⟩ = some (.int .i64 a0_4) ∧ w'.cell? ⟨gb132, 5, none⟩ = some (.int .i64 a0_5)) (ds := []) #[false, false, false, false, false, false, false, false, false, false, false, false, false, false, false, false, false, false] (by kernel_rfl) rfl rfl (bc6 BK132) (fun hHeld => ?_); refine with_tabW spec_l1Line.tab10 spec_l1Line.bits10 (fun HT_ HW_ => ?_)
              generalize w67.drew = w69 at HO135 BK132 HB hHeld ⊢
              refine pz 0 61 ?_
              refine pz 1 62 ?_
              refine pz 5 66 ?_
              refine pz 8 69 ?_
              refine pz 13 74 ?_
              refine tz 2 63 ?_
              refine tz 9 70 ?_
              refine tz 14 75 ?_
              refine oz 3 64 fun K hK => ?_
              refine gz Tryz.func33 #[.int .i64 a0_5] ?_
              with_reducible refine (spec_l1Dec.calls k a0_5 t144 _ A53.out).mono ?_
              rintro e w70 ⟨rfl, hb⟩
              refine ⟨_, rfl, ?_⟩
              replace HO135 := Aside0.mk (Kd.R_below (zU HO135) hb)
              replace BK132 := zb BK132 hb rfl
              replace HB := zS hb
              try clear hb
              refine hK.out _ _ (bc6 BK132) (fun hHeld => ?_)
              clear hK K
              refine nz ?_
              refine pz 4 65 ?_
              refine pz 6 67 ?_
              refine pz 7 68 ?_
              refine oz 10 71 fun K hK => ?_
              refine gz Tryz.func33 #[.int .i64 a0_2] ?_
              with_reducible refine (spec_l1Dec.calls k a0_2 t145 _ A57.out).mono ?_
              rintro e w71 ⟨rfl, hb⟩
              refine ⟨_, rfl, ?_⟩
              replace HO135 := Aside0.mk (Kd.R_below (zU HO135) hb)
              replace BK132 := zb BK132 hb rfl
              replace HB := zS hb
              try clear hb
              refine hK.out _ _ (bc6 BK132) (fun hHeld => ?_)
              clear hK K
              refine nz ?_
              refine pz 11 72 ?_
              refine pz 12 73 ?_
              refine oz 15 76 fun K hK => ?_
              refine gz Tryz.func33 #[.int .i64 a0_3] ?_
              with_reducible refine (spec_l1Dec.calls k a0_3 t146 _ A60.out).mono ?_
              rintro e w72 ⟨rfl, hb⟩
              refine ⟨_, rfl, ?_⟩
              replace HO135 := Aside0.mk (Kd.R_below (zU HO135) hb)
              replace BK132 := zb BK132 hb rfl
              replace HB := zS hb
              try clear hb
              refine hK.out _ _ (bc6 BK132) (fun hHeld => ?_)
              clear hK K
              refine nz ?_
              refine pz 16 77 ?_
              refine pz 17 2 ?_
              refine done_ (done_of HT_.out (by kernel_rfl)) ?_
              try go_wp2
              go_ret
              exact ⟨zR, zB⟩
             ·exact absurd H (nN c61)
            ·exact absurd H (nN c59)
           ·exact absurd H (nN c58)
          ·exact absurd H (nN c56)
         ·exact absurd H (nN c55)
        ·exact absurd H (nN c54)
       ·rw [if_neg c52] at H
        have c52b0 : (a0_0 == 17) = false := beq_eq_false_iff_ne.mpr c52
        have c52b1 : (a0_0 != 17) = true := bne_iff_ne.mpr c52
        by_cases c73 : a0_0 = 18
        ·rw [if_pos c73] at H
         have c73b0 : (a0_0 == 18) = true := beq_iff_eq.mpr c73
         have c73b1 : (a0_0 != 18) = false := bne_eq_false_iff_eq.mpr c73
         clear c73
         replace H := oA H
         obtain ⟨t147, A74, H⟩ := H
         try dsimp only at H
         by_cases c75 : (rdOf ByteArray.empty t133 a0_0).size + t147.size ≤ 9223372036854775807
         ·rw [if_pos c75] at H
          have c75b0 := eq_true c75
          have c75b1 : decide ((rdOf ByteArray.empty t133 a0_0).size + t147.size ≤ 9223372036854775807) = true := decide_eq_true c75
          try have c75b2 : (9223372036854775807 < (rdOf ByteArray.empty t133 a0_0).size + t147.size) = False := eq_false (Nat.not_lt.2 c75)
          try (have c75b3 := c75; simp only [ByteArray.size_append, bs1, bs2] at c75b3; have c75b4 := eq_false (Nat.not_lt.2 c75b3); clear c75b3)
          by_cases c76 : ((rdOf ByteArray.empty t133 a0_0) ++ t147).size + ((⟨#[32, 114]⟩ : ByteArray) ++ t137).size ≤ 9223372036854775807
          ·rw [if_pos c76] at H
           have c76b0 := eq_true c76
           have c76b1 : decide (((rdOf ByteArray.empty t133 a0_0) ++ t147).size + ((⟨#[32, 114]⟩ : ByteArray) ++ t137).size ≤ 9223372036854775807) = true := decide_eq_true c76
           try have c76b2 : (9223372036854775807 < ((rdOf ByteArray.empty t133 a0_0) ++ t147).size + ((⟨#[32, 114]⟩ : ByteArray) ++ t137).size) = False := eq_false (Nat.not_lt.2 c76)
           try (have c76b3 := c76; simp only [ByteArray.size_append, bs1, bs2] at c76b3; have c76b4 := eq_false (Nat.not_lt.2 c76b3); clear c76b3)
           by_cases c77 : (((rdOf ByteArray.empty t133 a0_0) ++ t147) ++ ((⟨#[32, 114]⟩ : ByteArray) ++ t137)).size + 1 ≤ 9223372036854775807
           ·rw [if_pos c77] at H
            have c77b0 := eq_true c77
            have c77b1 : decide ((((rdOf ByteArray.empty t133 a0_0) ++ t147) ++ ((⟨#[32, 114]⟩ : ByteArray) ++ t137)).size + 1 ≤ 9223372036854775807) = true := decide_eq_true c77
            try have c77b2 : (9223372036854775807 < (((rdOf ByteArray.empty t133 a0_0) ++ t147) ++ ((⟨#[32, 114]⟩ : ByteArray) ++ t137)).size + 1) = False := eq_false (Nat.not_lt.2 c77)
            try (have c77b3 := c77; simp only [ByteArray.size_append, bs1, bs2] at c77b3; have c77b4 := eq_false (Nat.not_lt.2 c77b3); clear c77b3)
            replace H := oA H
            obtain ⟨t148, A78, H⟩ := H
            try dsimp only at H
            by_cases c79 : ((((rdOf ByteArray.empty t133 a0_0) ++ t147) ++ ((⟨#[32, 114]⟩ : ByteArray) ++ t137)) ++ (⟨#[32]⟩ : ByteArray)).size + t148.size ≤ 9223372036854775807
            ·rw [if_pos c79] at H
             have c79b0 := eq_true c79
             have c79b1 : decide (((((rdOf ByteArray.empty t133 a0_0) ++ t147) ++ ((⟨#[32, 114]⟩ : ByteArray) ++ t137)) ++ (⟨#[32]⟩ : ByteArray)).size + t148.size ≤ 9223372036854775807) = true := decide_eq_true c79
             try have c79b2 : (9223372036854775807 < ((((rdOf ByteArray.empty t133 a0_0) ++ t147) ++ ((⟨#[32, 114]⟩ : ByteArray) ++ t137)) ++ (⟨#[32]⟩ : ByteArray)).size + t148.size) = False := eq_false (Nat.not_lt.2 c79)
             try (have c79b3 := c79; simp only [ByteArray.size_append, bs1, bs2] at c79b3; have c79b4 := eq_false (Nat.not_lt.2 c79b3); clear c79b3)
             by_cases c80 : (((((rdOf ByteArray.empty t133 a0_0) ++ t147) ++ ((⟨#[32, 114]⟩ : ByteArray) ++ t137)) ++ (⟨#[32]⟩ : ByteArray)) ++ t148).size + 1 ≤ 9223372036854775807
             ·rw [if_pos c80] at H
              have c80b0 := eq_true c80
              have c80b1 : decide ((((((rdOf ByteArray.empty t133 a0_0) ++ t147) ++ ((⟨#[32, 114]⟩ : ByteArray) ++ t137)) ++ (⟨#[32]⟩ : ByteArray)) ++ t148).size + 1 ≤ 9223372036854775807) = true := decide_eq_true c80
              try have c80b2 : (9223372036854775807 < (((((rdOf ByteArray.empty t133 a0_0) ++ t147) ++ ((⟨#[32, 114]⟩ : ByteArray) ++ t137)) ++ (⟨#[32]⟩ : ByteArray)) ++ t148).size + 1) = False := eq_false (Nat.not_lt.2 c80)
              try (have c80b3 := c80; simp only [ByteArray.size_append, bs1, bs2] at c80b3; have c80b4 := eq_false (Nat.not_lt.2 c80b3); clear c80b3)
              replace H := oA H
              obtain ⟨t149, A81, H⟩ := H
              try dsimp only at H
              by_cases c82 : ((((((rdOf ByteArray.empty t133 a0_0) ++ t147) ++ ((⟨#[32, 114]⟩ : ByteArray) ++ t137)) ++ (⟨#[32]⟩ : ByteArray)) ++ t148) ++ (⟨#[32]⟩ : ByteArray)).size + t149.size ≤ 9223372036854775807
              ·rw [if_pos c82] at H
               have c82b0 := eq_true c82
               have c82b1 : decide (((((((rdOf ByteArray.empty t133 a0_0) ++ t147) ++ ((⟨#[32, 114]⟩ : ByteArray) ++ t137)) ++ (⟨#[32]⟩ : ByteArray)) ++ t148) ++ (⟨#[32]⟩ : ByteArray)).size + t149.size ≤ 9223372036854775807) = true := decide_eq_true c82
               try have c82b2 : (9223372036854775807 < ((((((rdOf ByteArray.empty t133 a0_0) ++ t147) ++ ((⟨#[32, 114]⟩ : ByteArray) ++ t137)) ++ (⟨#[32]⟩ : ByteArray)) ++ t148) ++ (⟨#[32]⟩ : ByteArray)).size + t149.size) = False := eq_false (Nat.not_lt.2 c82)
               try (have c82b3 := c82; simp only [ByteArray.size_append, bs1, bs2] at c82b3; have c82b4 := eq_false (Nat.not_lt.2 c82b3); clear c82b3)
               obtain rfl := Option.some.inj H
               go_enter Tryz.func14, Tryz.ntmps14
               try go_wp2_with (first | ((with_reducible refine gate_dst (N := 1) rfl ?_); refine be 1 #[.int .i64 a0_0, .int .i64 a0_1, .int .i64 a0_2, .int .i64 a0_3, .int .i64 a0_4, .int .i64 a0_5] 24 ?_; intro gb132 hg w83 hbox hb; have BK132 := Aside0.mk hbox; have GW132 := zW hg; replace HB := zS hb; have GE132 := GW132; clear hb hbox hg))
               replace BK132 := Aside0.mk (blk_drew BK132.out)
               replace HB := Aside0.mk (below_drew1 HB.out)
               refine start_ (n := 6) (S := fun w' => w'.cell? ⟨gb132, 0, none⟩ = some (.int .i64 a0_0) ∧ w'.cell? ⟨gb132, 1, none⟩ = some (.int .i64 a0_1) ∧ w'.cell? ⟨gb132, 2, none⟩ = some (.int .i64 a0_2) ∧ w'.cell? ⟨gb132, 3, none⟩ = some (.int .i64 a0_3) ∧ w'.cell? ⟨gb132, 4, none⟩ = some (.int .i64 a0_4) ∧ w'.cell? ⟨gb132, 5, none⟩ = some (.int .i64 a0_5)) (ds := []) #[false, false, false, false, false, false] (by kernel_rfl) rfl rfl (bc6 BK132) (fun hHeld => ?_)
               generalize w83.drew = w84 at BK132 HB hHeld ⊢
               refine pz 1 6 ?_
               refine tz 2 7 ?_
               refine oz 0 5 fun K hK => ?_
               refine gz Tryz.func32 #[] ?_
               with_reducible refine (spec_l1Words.calls  t133 _ A2.out).mono ?_
               rintro e w85 ⟨v134, rfl, ho0, hb⟩
               refine ⟨_, rfl, ?_⟩
               have HO135 := Aside0.mk (Kd.R_lower ho0 (below_size zB))
               replace BK132 := zb BK132 hb rfl
               replace HB := zS hb
               (try clear hb)
               (try clear hb2)
               (try clear hk)
               (try clear hi)
               (try clear ho0)
               obtain ⟨Ao86, co86, eo86⟩ := Kd.R_slice HO135.out
               (first | subst eo86 | (injection eo86 with f1_ f2_ f3_; have f4_ := f1_.symm; have f5_ := f3_.symm; clear f1_ f2_ f3_; subst f4_; subst f5_))
               have p136 : 0 ≤ (a0_0 : Int) := of_decide_eq_true (by first | (with_reducible assumption) | assumption)
               have q136 : a0_0 < (t133.length : Int) := of_decide_eq_true (by first | (with_reducible assumption) | assumption)
               obtain ⟨ad136, e136, hx136_0⟩ := Kd.at_string (Kd.R_reads' HO135.out).2.2 a0_0 p136 q136
               cases e136
               replace p136 := eq_true p136
               replace q136 := eq_true q136
               refine hK.out _ _ (bc6 BK132) (fun hHeld => ?_)
               clear hK K
               refine nz ?_
               refine pz 3 8 ?_
               refine oz 4 9 fun K hK => ?_
               refine event_step rfl (by go_simp; exact ⟨rfl, rfl⟩) ?_
               refine hK.out _ _ (bc6 BK132) (fun hHeld => ?_)
               clear hK K
               refine nz ?_
               refine pz 5 3 ?_
               refine done_ (by kernel_rfl) ?_
               obtain ⟨_, _, _, _, _, _, _, _, _, _, _, _⟩ := zc6 BK132
               try go_wp2_with (first | ((with_reducible refine gate_callee (f := 33) rfl ?_); refine gl 12 Tryz.func33 #[.int .i64 a0_1] ?_; (with_reducible refine (spec_l1Dec.calls k a0_1 t137 _ A5.out).mono ?_); rintro e w88 ⟨rfl, hb⟩; refine ⟨_, rfl, ?_⟩; replace HO135 := Aside0.mk (Kd.R_below (zU HO135) hb); replace BK132 := zb BK132 hb rfl; replace HB := zS hb; try clear hb; obtain ⟨_, _, _, _, _, _, _, _, _, _, _, _⟩ := zc6 BK132) | ((with_reducible refine gate_callee (f := 34) rfl ?_); refine gl 17 Tryz.func34 #[.int .i64 a0_0] ?_; (with_reducible refine (spec_l1Alu.calls a0_0 false _ A7.out).mono ?_); rintro e w' ⟨rfl, ⟨nd, rfl⟩⟩; refine ⟨_, rfl, ?_⟩) | ((with_reducible refine gate_callee (f := 36) rfl ?_); refine gl 31 Tryz.func36 #[.int .i64 a0_0] ?_; (with_reducible refine (spec_l1Jump.calls a0_0 false _ A21.out).mono ?_); rintro e w' ⟨rfl, ⟨nd, rfl⟩⟩; refine ⟨_, rfl, ?_⟩))
               (try (rw [drewN_self w88]; generalize hq_ : World.drewN w88 _ = w88; have n0_ : Aside0 (Kd.R Kd.string 9 w88 w.heap.size (fun _ => True) (.slice (some ad136) t133.length co86) t133) := ⟨by rw [← hq_]; exact (zU HO135)⟩; have n1_ : Aside0 (w88.heap[gb132]? = some (.cells #[.int .i64 a0_0, .int .i64 a0_1, .int .i64 a0_2, .int .i64 a0_3, .int .i64 a0_4, .int .i64 a0_5] 24 (0, 0))) := ⟨by rw [← hq_]; exact (by exact bq BK132.out)⟩; have n2_ : Aside0 (Below w.heap.size w w88) := ⟨by rw [← hq_]; exact zB⟩; clear HO135 BK132 HB hq_; have HO135 := n0_; have BK132 := n1_; have HB := n2_; clear n0_ n1_ n2_))
               replace HO135 := Aside0.mk (Kd.R_drew HO135.out)
               replace BK132 := Aside0.mk (blk_drew BK132.out)
               replace HB := Aside0.mk (below_drew1 HB.out)
               refine start_ (n := 20) (S := fun w' => w'.cell? ⟨gb132, 0, none⟩ = some (.int .i64 a0_0) ∧ w'.cell? ⟨gb132, 1, none⟩ = some (.int .i64 a0_1) ∧ w'.cell? ⟨gb132, 2, none⟩ = some (.int .i64 a0_2) ∧ w'.cell? ⟨gb132, 3, none⟩ = some (.int .i64 a0_3) ∧ w'.cell? ⟨gb132, 4, none⟩ = some (.int .i64 a0_4) ∧ w'.cell? ⟨gb132, 5, none⟩ = some (.int .i64 a0_5)) (ds := []) #[false, false, false, false, false, false, false, false, false, false, false, false, false, false, false, false, false, false, false, false] (by kernel_rfl) rfl rfl (bc6 BK132) (fun hHeld => ?_); refine with_tabW spec_l1Line.tab12 spec_l1Line.bits12 (fun HT_ HW_ => ?_)
               generalize w88.drew = w90 at HO135 BK132 HB hHeld ⊢
               refine pz 0 82 ?_
               refine pz 1 83 ?_
               refine pz 5 87 ?_
               refine pz 8 90 ?_
               refine pz 13 95 ?_
               refine pz 15 97 ?_
               refine tz 2 84 ?_
               refine tz 9 91 ?_
               refine tz 14 96 ?_
               refine tz 16 98 ?_
               refine oz 3 85 fun K hK => ?_
               refine gz Tryz.func33 #[.int .i64 a0_5] ?_
               with_reducible refine (spec_l1Dec.calls k a0_5 t147 _ A74.out).mono ?_
               rintro e w91 ⟨rfl, hb⟩
               refine ⟨_, rfl, ?_⟩
               replace HO135 := Aside0.mk (Kd.R_below (zU HO135) hb)
               replace BK132 := zb BK132 hb rfl
               replace HB := zS hb
               try clear hb
               refine hK.out _ _ (bc6 BK132) (fun hHeld => ?_)
               clear hK K
               refine nz ?_
               refine pz 4 86 ?_
               refine pz 6 88 ?_
               refine pz 7 89 ?_
               refine oz 10 92 fun K hK => ?_
               refine gz Tryz.func33 #[.int .i64 a0_3] ?_
               with_reducible refine (spec_l1Dec.calls k a0_3 t148 _ A78.out).mono ?_
               rintro e w92 ⟨rfl, hb⟩
               refine ⟨_, rfl, ?_⟩
               replace HO135 := Aside0.mk (Kd.R_below (zU HO135) hb)
               replace BK132 := zb BK132 hb rfl
               replace HB := zS hb
               try clear hb
               refine hK.out _ _ (bc6 BK132) (fun hHeld => ?_)
               clear hK K
               refine nz ?_
               refine pz 11 93 ?_
               refine pz 12 94 ?_
               refine oz 17 99 fun K hK => ?_
               refine gz Tryz.func35 #[.int .i64 a0_2, .int .i64 a0_4] ?_
               with_reducible refine (spec_l1Reg.calls k a0_2 a0_4 t149 _ A81.out).mono ?_
               rintro e w93 ⟨rfl, hb⟩
               refine ⟨_, rfl, ?_⟩
               replace HO135 := Aside0.mk (Kd.R_below (zU HO135) hb)
               replace BK132 := zb BK132 hb rfl
               replace HB := zS hb
               try clear hb
               refine hK.out _ _ (bc6 BK132) (fun hHeld => ?_)
               clear hK K
               refine nz ?_
               refine pz 18 100 ?_
               refine pz 19 2 ?_
               refine done_ (done_of HT_.out (by kernel_rfl)) ?_
               try go_wp2
               go_ret
               exact ⟨zR, zB⟩
              ·exact absurd H (nN c82)
             ·exact absurd H (nN c80)
            ·exact absurd H (nN c79)
           ·exact absurd H (nN c77)
          ·exact absurd H (nN c76)
         ·exact absurd H (nN c75)
        ·rw [if_neg c73] at H
         have c73b0 : (a0_0 == 18) = false := beq_eq_false_iff_ne.mpr c73
         have c73b1 : (a0_0 != 18) = true := bne_iff_ne.mpr c73
         by_cases c94 : a0_0 = 19
         ·rw [if_pos c94] at H
          have c94b0 : (a0_0 == 19) = true := beq_iff_eq.mpr c94
          have c94b1 : (a0_0 != 19) = false := bne_eq_false_iff_eq.mpr c94
          clear c94
          by_cases c95 : (rdOf ByteArray.empty t133 a0_0).size + 1 ≤ 9223372036854775807
          ·rw [if_pos c95] at H
           have c95b0 := eq_true c95
           have c95b1 : decide ((rdOf ByteArray.empty t133 a0_0).size + 1 ≤ 9223372036854775807) = true := decide_eq_true c95
           try have c95b2 : (9223372036854775807 < (rdOf ByteArray.empty t133 a0_0).size + 1) = False := eq_false (Nat.not_lt.2 c95)
           try (have c95b3 := c95; simp only [ByteArray.size_append, bs1, bs2] at c95b3; have c95b4 := eq_false (Nat.not_lt.2 c95b3); clear c95b3)
           replace H := oA H
           obtain ⟨t150, A96, H⟩ := H
           try dsimp only at H
           by_cases c97 : 0 ≤ a0_4
           ·rw [if_pos c97] at H
            have c97b0 : decide (0 ≤ a0_4) = true := decide_eq_true c97
            clear c97
            by_cases c98 : a0_4 < (t150.length : Int)
            ·rw [if_pos c98] at H
             have c98b0 : decide (a0_4 < (t150.length : Int)) = true := decide_eq_true c98
             clear c98
             by_cases c99 : ((rdOf ByteArray.empty t133 a0_0) ++ (⟨#[32]⟩ : ByteArray)).size + (rdOf ByteArray.empty t150 a0_4).size ≤ 9223372036854775807
             ·rw [if_pos c99] at H
              have c99b0 := eq_true c99
              have c99b1 : decide (((rdOf ByteArray.empty t133 a0_0) ++ (⟨#[32]⟩ : ByteArray)).size + (rdOf ByteArray.empty t150 a0_4).size ≤ 9223372036854775807) = true := decide_eq_true c99
              try have c99b2 : (9223372036854775807 < ((rdOf ByteArray.empty t133 a0_0) ++ (⟨#[32]⟩ : ByteArray)).size + (rdOf ByteArray.empty t150 a0_4).size) = False := eq_false (Nat.not_lt.2 c99)
              try (have c99b3 := c99; simp only [ByteArray.size_append, bs1, bs2] at c99b3; have c99b4 := eq_false (Nat.not_lt.2 c99b3); clear c99b3)
              obtain rfl := Option.some.inj H
              go_enter Tryz.func14, Tryz.ntmps14
              try go_wp2_with (first | ((with_reducible refine gate_dst (N := 1) rfl ?_); refine be 1 #[.int .i64 a0_0, .int .i64 a0_1, .int .i64 a0_2, .int .i64 a0_3, .int .i64 a0_4, .int .i64 a0_5] 24 ?_; intro gb132 hg w100 hbox hb; have BK132 := Aside0.mk hbox; have GW132 := zW hg; replace HB := zS hb; have GE132 := GW132; clear hb hbox hg))
              replace BK132 := Aside0.mk (blk_drew BK132.out)
              replace HB := Aside0.mk (below_drew1 HB.out)
              refine start_ (n := 6) (S := fun w' => w'.cell? ⟨gb132, 0, none⟩ = some (.int .i64 a0_0) ∧ w'.cell? ⟨gb132, 1, none⟩ = some (.int .i64 a0_1) ∧ w'.cell? ⟨gb132, 2, none⟩ = some (.int .i64 a0_2) ∧ w'.cell? ⟨gb132, 3, none⟩ = some (.int .i64 a0_3) ∧ w'.cell? ⟨gb132, 4, none⟩ = some (.int .i64 a0_4) ∧ w'.cell? ⟨gb132, 5, none⟩ = some (.int .i64 a0_5)) (ds := []) #[false, false, false, false, false, false] (by kernel_rfl) rfl rfl (bc6 BK132) (fun hHeld => ?_)
              generalize w100.drew = w101 at BK132 HB hHeld ⊢
              refine pz 1 6 ?_
              refine tz 2 7 ?_
              refine oz 0 5 fun K hK => ?_
              refine gz Tryz.func32 #[] ?_
              with_reducible refine (spec_l1Words.calls  t133 _ A2.out).mono ?_
              rintro e w102 ⟨v134, rfl, ho0, hb⟩
              refine ⟨_, rfl, ?_⟩
              have HO135 := Aside0.mk (Kd.R_lower ho0 (below_size zB))
              replace BK132 := zb BK132 hb rfl
              replace HB := zS hb
              (try clear hb)
              (try clear hb2)
              (try clear hk)
              (try clear hi)
              (try clear ho0)
              obtain ⟨Ao103, co103, eo103⟩ := Kd.R_slice HO135.out
              (first | subst eo103 | (injection eo103 with f1_ f2_ f3_; have f4_ := f1_.symm; have f5_ := f3_.symm; clear f1_ f2_ f3_; subst f4_; subst f5_))
              have p136 : 0 ≤ (a0_0 : Int) := of_decide_eq_true (by first | (with_reducible assumption) | assumption)
              have q136 : a0_0 < (t133.length : Int) := of_decide_eq_true (by first | (with_reducible assumption) | assumption)
              obtain ⟨ad136, e136, hx136_0⟩ := Kd.at_string (Kd.R_reads' HO135.out).2.2 a0_0 p136 q136
              cases e136
              replace p136 := eq_true p136
              replace q136 := eq_true q136
              refine hK.out _ _ (bc6 BK132) (fun hHeld => ?_)
              clear hK K
              refine nz ?_
              refine pz 3 8 ?_
              refine oz 4 9 fun K hK => ?_
              refine event_step rfl (by go_simp; exact ⟨rfl, rfl⟩) ?_
              refine hK.out _ _ (bc6 BK132) (fun hHeld => ?_)
              clear hK K
              refine nz ?_
              refine pz 5 3 ?_
              refine done_ (by kernel_rfl) ?_
              obtain ⟨_, _, _, _, _, _, _, _, _, _, _, _⟩ := zc6 BK132
              try go_wp2_with (first | ((with_reducible refine gate_callee (f := 33) rfl ?_); refine gl 12 Tryz.func33 #[.int .i64 a0_1] ?_; (with_reducible refine (spec_l1Dec.calls k a0_1 t137 _ A5.out).mono ?_); rintro e w105 ⟨rfl, hb⟩; refine ⟨_, rfl, ?_⟩; replace HO135 := Aside0.mk (Kd.R_below (zU HO135) hb); replace BK132 := zb BK132 hb rfl; replace HB := zS hb; try clear hb; obtain ⟨_, _, _, _, _, _, _, _, _, _, _, _⟩ := zc6 BK132) | ((with_reducible refine gate_callee (f := 34) rfl ?_); refine gl 17 Tryz.func34 #[.int .i64 a0_0] ?_; (with_reducible refine (spec_l1Alu.calls a0_0 false _ A7.out).mono ?_); rintro e w' ⟨rfl, ⟨nd, rfl⟩⟩; refine ⟨_, rfl, ?_⟩) | ((with_reducible refine gate_callee (f := 36) rfl ?_); refine gl 31 Tryz.func36 #[.int .i64 a0_0] ?_; (with_reducible refine (spec_l1Jump.calls a0_0 false _ A21.out).mono ?_); rintro e w' ⟨rfl, ⟨nd, rfl⟩⟩; refine ⟨_, rfl, ?_⟩))
              (try (rw [drewN_self w105]; generalize hq_ : World.drewN w105 _ = w105; have n0_ : Aside0 (Kd.R Kd.string 9 w105 w.heap.size (fun _ => True) (.slice (some ad136) t133.length co103) t133) := ⟨by rw [← hq_]; exact (zU HO135)⟩; have n1_ : Aside0 (w105.heap[gb132]? = some (.cells #[.int .i64 a0_0, .int .i64 a0_1, .int .i64 a0_2, .int .i64 a0_3, .int .i64 a0_4, .int .i64 a0_5] 24 (0, 0))) := ⟨by rw [← hq_]; exact (by exact bq BK132.out)⟩; have n2_ : Aside0 (Below w.heap.size w w105) := ⟨by rw [← hq_]; exact zB⟩; clear HO135 BK132 HB hq_; have HO135 := n0_; have BK132 := n1_; have HB := n2_; clear n0_ n1_ n2_))
              replace HO135 := Aside0.mk (Kd.R_drew HO135.out)
              replace BK132 := Aside0.mk (blk_drew BK132.out)
              replace HB := Aside0.mk (below_drew1 HB.out)
              refine start_ (n := 9) (S := fun w' => w'.cell? ⟨gb132, 0, none⟩ = some (.int .i64 a0_0) ∧ w'.cell? ⟨gb132, 1, none⟩ = some (.int .i64 a0_1) ∧ w'.cell? ⟨gb132, 2, none⟩ = some (.int .i64 a0_2) ∧ w'.cell? ⟨gb132, 3, none⟩ = some (.int .i64 a0_3) ∧ w'.cell? ⟨gb132, 4, none⟩ = some (.int .i64 a0_4) ∧ w'.cell? ⟨gb132, 5, none⟩ = some (.int .i64 a0_5)) (ds := []) #[false, false, false, false, false, false, false, false, false] (by kernel_rfl) rfl rfl (bc6 BK132) (fun hHeld => ?_); refine with_tabW spec_l1Line.tab14 spec_l1Line.bits14 (fun HT_ HW_ => ?_)
              generalize w105.drew = w107 at HO135 BK132 HB hHeld ⊢
              refine pz 0 105 ?_
              refine pz 1 106 ?_
              refine pz 3 108 ?_
              refine tz 4 109 ?_
              refine oz 2 107 fun K hK => ?_
              refine gz Tryz.func37 #[] ?_
              with_reducible refine (spec_l1Calls.calls  t150 _ A96.out).mono ?_
              rintro e w108 ⟨v151, rfl, ho0, hb⟩
              refine ⟨_, rfl, ?_⟩
              have HO152 := Aside0.mk (Kd.R_lower (Kd.R_new' ho0 (Kd.R_lt (zU HO135))) (below_size zB))
              replace HO135 := Aside0.mk (Kd.R_elder' (zU HO135) (Kd.R_base ho0) hb)
              replace BK132 := zb BK132 hb rfl
              replace HB := zS hb
              (try clear hb)
              (try clear hb2)
              (try clear hk)
              (try clear hi)
              (try clear ho0)
              obtain ⟨Ao109, co109, eo109⟩ := Kd.R_slice HO152.out
              (first | subst eo109 | (injection eo109 with f1_ f2_ f3_; have f4_ := f1_.symm; have f5_ := f3_.symm; clear f1_ f2_ f3_; subst f4_; subst f5_))
              have p153 : 0 ≤ (a0_4 : Int) := of_decide_eq_true (by first | (with_reducible assumption) | assumption)
              have q153 : a0_4 < (t150.length : Int) := of_decide_eq_true (by first | (with_reducible assumption) | assumption)
              obtain ⟨ad153, e153, hx153_0⟩ := Kd.at_string (Kd.R_reads' HO152.out).2.2 a0_4 p153 q153
              cases e153
              replace p153 := eq_true p153
              replace q153 := eq_true q153
              refine hK.out _ _ (bc6 BK132) (fun hHeld => ?_)
              clear hK K
              refine nz ?_
              refine pz 5 110 ?_
              refine oz 6 111 fun K hK => ?_
              refine event_step rfl (by go_simp; exact ⟨rfl, rfl⟩) ?_
              refine hK.out _ _ (bc6 BK132) (fun hHeld => ?_)
              clear hK K
              refine nz ?_
              refine pz 7 112 ?_
              refine pz 8 2 ?_
              refine done_ (done_of HT_.out (by kernel_rfl)) ?_
              try go_wp2
              go_ret
              exact ⟨zR, zB⟩
             ·exact absurd H (nN c99)
            ·exact absurd H (nN c98)
           ·exact absurd H (nN c97)
          ·exact absurd H (nN c95)
         ·rw [if_neg c94] at H
          have c94b0 : (a0_0 == 19) = false := beq_eq_false_iff_ne.mpr c94
          have c94b1 : (a0_0 != 19) = true := bne_iff_ne.mpr c94
          obtain rfl := Option.some.inj H
          go_enter Tryz.func14, Tryz.ntmps14
          try go_wp2_with (first | ((with_reducible refine gate_dst (N := 1) rfl ?_); refine be 1 #[.int .i64 a0_0, .int .i64 a0_1, .int .i64 a0_2, .int .i64 a0_3, .int .i64 a0_4, .int .i64 a0_5] 24 ?_; intro gb132 hg w110 hbox hb; have BK132 := Aside0.mk hbox; have GW132 := zW hg; replace HB := zS hb; have GE132 := GW132; clear hb hbox hg))
          replace BK132 := Aside0.mk (blk_drew BK132.out)
          replace HB := Aside0.mk (below_drew1 HB.out)
          refine start_ (n := 6) (S := fun w' => w'.cell? ⟨gb132, 0, none⟩ = some (.int .i64 a0_0) ∧ w'.cell? ⟨gb132, 1, none⟩ = some (.int .i64 a0_1) ∧ w'.cell? ⟨gb132, 2, none⟩ = some (.int .i64 a0_2) ∧ w'.cell? ⟨gb132, 3, none⟩ = some (.int .i64 a0_3) ∧ w'.cell? ⟨gb132, 4, none⟩ = some (.int .i64 a0_4) ∧ w'.cell? ⟨gb132, 5, none⟩ = some (.int .i64 a0_5)) (ds := []) #[false, false, false, false, false, false] (by kernel_rfl) rfl rfl (bc6 BK132) (fun hHeld => ?_)
          generalize w110.drew = w111 at BK132 HB hHeld ⊢
          refine pz 1 6 ?_
          refine tz 2 7 ?_
          refine oz 0 5 fun K hK => ?_
          refine gz Tryz.func32 #[] ?_
          with_reducible refine (spec_l1Words.calls  t133 _ A2.out).mono ?_
          rintro e w112 ⟨v134, rfl, ho0, hb⟩
          refine ⟨_, rfl, ?_⟩
          have HO135 := Aside0.mk (Kd.R_lower ho0 (below_size zB))
          replace BK132 := zb BK132 hb rfl
          replace HB := zS hb
          (try clear hb)
          (try clear hb2)
          (try clear hk)
          (try clear hi)
          (try clear ho0)
          obtain ⟨Ao113, co113, eo113⟩ := Kd.R_slice HO135.out
          (first | subst eo113 | (injection eo113 with f1_ f2_ f3_; have f4_ := f1_.symm; have f5_ := f3_.symm; clear f1_ f2_ f3_; subst f4_; subst f5_))
          have p136 : 0 ≤ (a0_0 : Int) := of_decide_eq_true (by first | (with_reducible assumption) | assumption)
          have q136 : a0_0 < (t133.length : Int) := of_decide_eq_true (by first | (with_reducible assumption) | assumption)
          obtain ⟨ad136, e136, hx136_0⟩ := Kd.at_string (Kd.R_reads' HO135.out).2.2 a0_0 p136 q136
          cases e136
          replace p136 := eq_true p136
          replace q136 := eq_true q136
          refine hK.out _ _ (bc6 BK132) (fun hHeld => ?_)
          clear hK K
          refine nz ?_
          refine pz 3 8 ?_
          refine oz 4 9 fun K hK => ?_
          refine event_step rfl (by go_simp; exact ⟨rfl, rfl⟩) ?_
          refine hK.out _ _ (bc6 BK132) (fun hHeld => ?_)
          clear hK K
          refine nz ?_
          refine pz 5 3 ?_
          refine done_ (by kernel_rfl) ?_
          obtain ⟨_, _, _, _, _, _, _, _, _, _, _, _⟩ := zc6 BK132
          try go_wp2_with (first | ((with_reducible refine gate_callee (f := 33) rfl ?_); refine gl 12 Tryz.func33 #[.int .i64 a0_1] ?_; (with_reducible refine (spec_l1Dec.calls k a0_1 t137 _ A5.out).mono ?_); rintro e w115 ⟨rfl, hb⟩; refine ⟨_, rfl, ?_⟩; replace HO135 := Aside0.mk (Kd.R_below (zU HO135) hb); replace BK132 := zb BK132 hb rfl; replace HB := zS hb; try clear hb; obtain ⟨_, _, _, _, _, _, _, _, _, _, _, _⟩ := zc6 BK132) | ((with_reducible refine gate_callee (f := 34) rfl ?_); refine gl 17 Tryz.func34 #[.int .i64 a0_0] ?_; (with_reducible refine (spec_l1Alu.calls a0_0 false _ A7.out).mono ?_); rintro e w' ⟨rfl, ⟨nd, rfl⟩⟩; refine ⟨_, rfl, ?_⟩) | ((with_reducible refine gate_callee (f := 36) rfl ?_); refine gl 31 Tryz.func36 #[.int .i64 a0_0] ?_; (with_reducible refine (spec_l1Jump.calls a0_0 false _ A21.out).mono ?_); rintro e w' ⟨rfl, ⟨nd, rfl⟩⟩; refine ⟨_, rfl, ?_⟩))
          go_ret
          exact ⟨zR, zB⟩
   ·exact absurd H (nN c6)
  ·exact absurd H (nN c4)
 ·exact absurd H (nN c3)
end Go.Proofs.YtllmbooicobmkaaGreatDoor.Q
