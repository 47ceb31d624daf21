/- The machine's side of this seat's laws: Go functions as Lean functions, and their contracts. By a program of this work over the kit's print. -/
import Derived.Test.YtllmbooicobmkaaDoorQ0
import Derived.Test.YtllmbooicobmkaaDoorQ2
import Derived.Test.YtllmbooicobmkaaDoorQ5
namespace Go.Proofs.YtllmbooicobmkaaDoor.Q
open Go.RowKit Go.Proofs.YtllmbooicobmkaaDoorW.PrintWords Go.Proofs.YtllmbooicobmkaaDoorW.PrintLast Go.Proofs.YtllmbooicobmkaaDoorW.PrintMore
attribute [local go_sem] max2_int min2_int max_two min_two max_three min_three max_four min_four Go.Proofs.YtllmbooicobmkaaDoorN.not_i64 Go.Proofs.YtllmbooicobmkaaDoorN.isSome_setCell   -- for this text's walks alone
set_option linter.unusedVariables false
set_option linter.unusedSimpArgs false

theorem bs1 (a : UInt8) : (ByteArray.mk #[a]).size = 1 := rfl
theorem bs2 (a b : UInt8) : (ByteArray.mk #[a, b]).size = 2 := rfl
/-! ### spec_l1Line: function 14 -/
def spec_l1Line.f (k : Nat) (a0_0 : Int) (a0_1 : Int) (a0_2 : Int) (a0_3 : Int) (a0_4 : Int) (a0_5 : Int) : Option (ByteArray) := (spec_l1Words.f).bind fun t195 => (if 0 ≤ a0_0 then (if a0_0 < (t195.length : Int) then ((spec_l1Dec.f k a0_1).bind fun t199 => (if 2 + t199.size ≤ 9223372036854775807 then ((spec_l1Alu.f a0_0).bind fun t200 => (if t200 = true then (if (rdOf ByteArray.empty t195 a0_0).size + ((⟨#[32, 114]⟩ : ByteArray) ++ t199).size ≤ 9223372036854775807 then (if ((rdOf ByteArray.empty t195 a0_0) ++ ((⟨#[32, 114]⟩ : ByteArray) ++ t199)).size + 1 ≤ 9223372036854775807 then ((spec_l1Reg.f k a0_2 a0_4).bind fun t201 => (if (((rdOf ByteArray.empty t195 a0_0) ++ ((⟨#[32, 114]⟩ : ByteArray) ++ t199)) ++ (⟨#[32]⟩ : ByteArray)).size + t201.size ≤ 9223372036854775807 then (some ((((rdOf ByteArray.empty t195 a0_0) ++ ((⟨#[32, 114]⟩ : ByteArray) ++ t199)) ++ (⟨#[32]⟩ : ByteArray)) ++ t201)) else (none))) else (none)) else (none)) else ((spec_l1Jump.f a0_0).bind fun t202 => (if t202 = true then (if (rdOf ByteArray.empty t195 a0_0).size + ((⟨#[32, 114]⟩ : ByteArray) ++ t199).size ≤ 9223372036854775807 then (if ((rdOf ByteArray.empty t195 a0_0) ++ ((⟨#[32, 114]⟩ : ByteArray) ++ t199)).size + 1 ≤ 9223372036854775807 then ((spec_l1Reg.f k a0_2 a0_4).bind fun t203 => (if (((rdOf ByteArray.empty t195 a0_0) ++ ((⟨#[32, 114]⟩ : ByteArray) ++ t199)) ++ (⟨#[32]⟩ : ByteArray)).size + t203.size ≤ 9223372036854775807 then (if ((((rdOf ByteArray.empty t195 a0_0) ++ ((⟨#[32, 114]⟩ : ByteArray) ++ t199)) ++ (⟨#[32]⟩ : ByteArray)) ++ t203).size + 1 ≤ 9223372036854775807 then ((spec_l1Dec.f k a0_3).bind fun t204 => (if (((((rdOf ByteArray.empty t195 a0_0) ++ ((⟨#[32, 114]⟩ : ByteArray) ++ t199)) ++ (⟨#[32]⟩ : ByteArray)) ++ t203) ++ (⟨#[32]⟩ : ByteArray)).size + t204.size ≤ 9223372036854775807 then (some ((((((rdOf ByteArray.empty t195 a0_0) ++ ((⟨#[32, 114]⟩ : ByteArray) ++ t199)) ++ (⟨#[32]⟩ : ByteArray)) ++ t203) ++ (⟨#[32]⟩ : ByteArray)) ++ t204)) else (none))) else (none)) else (none))) else (none)) else (none)) else (if a0_0 = 16 then (if (rdOf ByteArray.empty t195 a0_0).size + 1 ≤ 9223372036854775807 then ((spec_l1Dec.f k a0_3).bind fun t205 => (if ((rdOf ByteArray.empty t195 a0_0) ++ (⟨#[32]⟩ : ByteArray)).size + t205.size ≤ 9223372036854775807 then (some (((rdOf ByteArray.empty t195 a0_0) ++ (⟨#[32]⟩ : ByteArray)) ++ t205)) else (none))) else (none)) else (if a0_0 = 17 then ((spec_l1Dec.f k a0_5).bind fun t206 => (if (rdOf ByteArray.empty t195 a0_0).size + t206.size ≤ 9223372036854775807 then (if ((rdOf ByteArray.empty t195 a0_0) ++ t206).size + ((⟨#[32, 114]⟩ : ByteArray) ++ t199).size ≤ 9223372036854775807 then (if (((rdOf ByteArray.empty t195 a0_0) ++ t206) ++ ((⟨#[32, 114]⟩ : ByteArray) ++ t199)).size + 2 ≤ 9223372036854775807 then ((spec_l1Dec.f k a0_2).bind fun t207 => (if ((((rdOf ByteArray.empty t195 a0_0) ++ t206) ++ ((⟨#[32, 114]⟩ : ByteArray) ++ t199)) ++ (⟨#[32, 114]⟩ : ByteArray)).size + t207.size ≤ 9223372036854775807 then (if (((((rdOf ByteArray.empty t195 a0_0) ++ t206) ++ ((⟨#[32, 114]⟩ : ByteArray) ++ t199)) ++ (⟨#[32, 114]⟩ : ByteArray)) ++ t207).size + 1 ≤ 9223372036854775807 then ((spec_l1Dec.f k a0_3).bind fun t208 => (if ((((((rdOf ByteArray.empty t195 a0_0) ++ t206) ++ ((⟨#[32, 114]⟩ : ByteArray) ++ t199)) ++ (⟨#[32, 114]⟩ : ByteArray)) ++ t207) ++ (⟨#[32]⟩ : ByteArray)).size + t208.size ≤ 9223372036854775807 then (some (((((((rdOf ByteArray.empty t195 a0_0) ++ t206) ++ ((⟨#[32, 114]⟩ : ByteArray) ++ t199)) ++ (⟨#[32, 114]⟩ : ByteArray)) ++ t207) ++ (⟨#[32]⟩ : ByteArray)) ++ t208)) else (none))) else (none)) else (none))) else (none)) else (none)) else (none))) else (if a0_0 = 18 then ((spec_l1Dec.f k a0_5).bind fun t209 => (if (rdOf ByteArray.empty t195 a0_0).size + t209.size ≤ 9223372036854775807 then (if ((rdOf ByteArray.empty t195 a0_0) ++ t209).size + ((⟨#[32, 114]⟩ : ByteArray) ++ t199).size ≤ 9223372036854775807 then (if (((rdOf ByteArray.empty t195 a0_0) ++ t209) ++ ((⟨#[32, 114]⟩ : ByteArray) ++ t199)).size + 1 ≤ 9223372036854775807 then ((spec_l1Dec.f k a0_3).bind fun t210 => (if ((((rdOf ByteArray.empty t195 a0_0) ++ t209) ++ ((⟨#[32, 114]⟩ : ByteArray) ++ t199)) ++ (⟨#[32]⟩ : ByteArray)).size + t210.size ≤ 9223372036854775807 then (if (((((rdOf ByteArray.empty t195 a0_0) ++ t209) ++ ((⟨#[32, 114]⟩ : ByteArray) ++ t199)) ++ (⟨#[32]⟩ : ByteArray)) ++ t210).size + 1 ≤ 9223372036854775807 then ((spec_l1Reg.f k a0_2 a0_4).bind fun t211 => (if ((((((rdOf ByteArray.empty t195 a0_0) ++ t209) ++ ((⟨#[32, 114]⟩ : ByteArray) ++ t199)) ++ (⟨#[32]⟩ : ByteArray)) ++ t210) ++ (⟨#[32]⟩ : ByteArray)).size + t211.size ≤ 9223372036854775807 then (some (((((((rdOf ByteArray.empty t195 a0_0) ++ t209) ++ ((⟨#[32, 114]⟩ : ByteArray) ++ t199)) ++ (⟨#[32]⟩ : ByteArray)) ++ t210) ++ (⟨#[32]⟩ : ByteArray)) ++ t211)) else (none))) else (none)) else (none))) else (none)) else (none)) else (none))) else (if a0_0 = 19 then (if (rdOf ByteArray.empty t195 a0_0).size + 1 ≤ 9223372036854775807 then ((spec_l1Calls.f).bind fun t212 => (if 0 ≤ a0_4 then (if a0_4 < (t212.length : Int) then (if ((rdOf ByteArray.empty t195 a0_0) ++ (⟨#[32]⟩ : ByteArray)).size + (rdOf ByteArray.empty t212 a0_4).size ≤ 9223372036854775807 then (some (((rdOf ByteArray.empty t195 a0_0) ++ (⟨#[32]⟩ : ByteArray)) ++ (rdOf ByteArray.empty t212 a0_4))) else (none)) else (none)) else (none))) else (none)) else (some (rdOf ByteArray.empty t195 a0_0)))))))))) else (none))) else (none)) else (none))

def spec_l1Line.T6 : Bool × List (List Nat × List Nat) := (true, [([], []), ([], []), ([0, 1], [0, 1]), ([2], [2]), ([], []), ([4], [4]), ([], []), ([6], [6]), ([5, 7], [5, 7]), ([3, 8], [3, 8]), ([9], [9]), ([], []), ([11], [11]), ([12, 8], [12]), ([10, 13], [10, 13]), ([14, 13, 0, 1, 2, 3, 4, 5, 6, 7, 8, 9, 10, 11, 12, 13, 14], [14])])
def spec_l1Line.B6 : List Nat := [0, 0, 3, 7, 0, 16, 0, 64, 240, 511, 1023, 0, 2048, 6640, 16383, 32767]
theorem spec_l1Line.tab6 : rtab .any (opsOf Tryd.f14 6) = spec_l1Line.T6 := by kernel_rfl
theorem spec_l1Line.bits6 : waitsOk spec_l1Line.T6.2 spec_l1Line.B6 = true := by kernel_rfl
def spec_l1Line.T10 : Bool × List (List Nat × List Nat) := (true, [([], []), ([], []), ([1], [1]), ([2], [2]), ([0, 3], [0, 3]), ([], []), ([4, 5], [4, 5]), ([6], [6]), ([], []), ([8], [8]), ([9, 3], [9]), ([7, 10], [7, 10]), ([11], [11]), ([], []), ([13], [13]), ([14, 10], [14]), ([12, 15], [12, 15]), ([16, 15, 0, 1, 2, 3, 4, 5, 6, 7, 8, 9, 10, 11, 12, 13, 14, 15, 16], [16])])
def spec_l1Line.B10 : List Nat := [0, 0, 2, 6, 15, 0, 63, 127, 0, 256, 782, 2047, 4095, 0, 8192, 26382, 65535, 131071]
theorem spec_l1Line.tab10 : rtab .any (opsOf Tryd.f14 10) = spec_l1Line.T10 := by kernel_rfl
theorem spec_l1Line.bits10 : waitsOk spec_l1Line.T10.2 spec_l1Line.B10 = true := by kernel_rfl
def spec_l1Line.T12 : Bool × List (List Nat × List Nat) := (true, [([], []), ([], []), ([1], [1]), ([2], [2]), ([0, 3], [0, 3]), ([], []), ([4, 5], [4, 5]), ([6], [6]), ([], []), ([8], [8]), ([9, 3], [9]), ([7, 10], [7, 10]), ([11], [11]), ([], []), ([13], [13]), ([], []), ([15], [15]), ([14, 16, 10], [14, 16]), ([12, 17], [12, 17]), ([18, 17, 0, 1, 2, 3, 4, 5, 6, 7, 8, 9, 10, 11, 12, 13, 14, 15, 16, 17, 18], [18])])
def spec_l1Line.B12 : List Nat := [0, 0, 2, 6, 15, 0, 63, 127, 0, 256, 782, 2047, 4095, 0, 8192, 0, 32768, 124686, 262143, 524287]
theorem spec_l1Line.tab12 : rtab .any (opsOf Tryd.f14 12) = spec_l1Line.T12 := by kernel_rfl
theorem spec_l1Line.bits12 : waitsOk spec_l1Line.T12.2 spec_l1Line.B12 = true := by kernel_rfl
def spec_l1Line.T14 : Bool × List (List Nat × List Nat) := (true, [([], []), ([0], [0]), ([], []), ([], []), ([3], [3]), ([2, 4], [2, 4]), ([5], [5]), ([1, 6], [1, 6]), ([7, 2, 0, 1, 2, 3, 4, 5, 6, 7], [7])])
def spec_l1Line.B14 : List Nat := [0, 1, 0, 0, 8, 28, 60, 127, 255]
theorem spec_l1Line.tab14 : rtab .any (opsOf Tryd.f14 14) = spec_l1Line.T14 := by kernel_rfl
theorem spec_l1Line.bits14 : waitsOk spec_l1Line.T14.2 spec_l1Line.B14 = true := by kernel_rfl
set_option maxHeartbeats 8000000 in
set_option maxRecDepth 100000 in
theorem spec_l1Line.calls (k : Nat) (a0_0 : Int) (a0_1 : Int) (a0_2 : Int) (a0_3 : Int) (a0_4 : Int) (a0_5 : Int) (r : ByteArray) (w : World) (h : spec_l1Line.f k a0_0 a0_1 a0_2 a0_3 a0_4 a0_5 = some r) :
  Calls Tryd.prog 14 #[.agg #[.int .i64 a0_0, .int .i64 a0_1, .int .i64 a0_2, .int .i64 a0_3, .int .i64 a0_4, .int .i64 a0_5]] w fun e w' => e = .returned (.string r) ∧ Below w.heap.size w w' := by
 have hu23 := Tryd.underlying23
 have HB := Aside0.mk (Below.refl w.heap.size w)
 have H : ((spec_l1Words.f).bind fun t195 => (if 0 ≤ a0_0 then (if a0_0 < (t195.length : Int) then ((spec_l1Dec.f k a0_1).bind fun t199 => (if 2 + t199.size ≤ 9223372036854775807 then ((spec_l1Alu.f a0_0).bind fun t200 => (if t200 = true then (if (rdOf ByteArray.empty t195 a0_0).size + ((⟨#[32, 114]⟩ : ByteArray) ++ t199).size ≤ 9223372036854775807 then (if ((rdOf ByteArray.empty t195 a0_0) ++ ((⟨#[32, 114]⟩ : ByteArray) ++ t199)).size + 1 ≤ 9223372036854775807 then ((spec_l1Reg.f k a0_2 a0_4).bind fun t201 => (if (((rdOf ByteArray.empty t195 a0_0) ++ ((⟨#[32, 114]⟩ : ByteArray) ++ t199)) ++ (⟨#[32]⟩ : ByteArray)).size + t201.size ≤ 9223372036854775807 then (some ((((rdOf ByteArray.empty t195 a0_0) ++ ((⟨#[32, 114]⟩ : ByteArray) ++ t199)) ++ (⟨#[32]⟩ : ByteArray)) ++ t201)) else (none))) else (none)) else (none)) else ((spec_l1Jump.f a0_0).bind fun t202 => (if t202 = true then (if (rdOf ByteArray.empty t195 a0_0).size + ((⟨#[32, 114]⟩ : ByteArray) ++ t199).size ≤ 9223372036854775807 then (if ((rdOf ByteArray.empty t195 a0_0) ++ ((⟨#[32, 114]⟩ : ByteArray) ++ t199)).size + 1 ≤ 9223372036854775807 then ((spec_l1Reg.f k a0_2 a0_4).bind fun t203 => (if (((rdOf ByteArray.empty t195 a0_0) ++ ((⟨#[32, 114]⟩ : ByteArray) ++ t199)) ++ (⟨#[32]⟩ : ByteArray)).size + t203.size ≤ 9223372036854775807 then (if ((((rdOf ByteArray.empty t195 a0_0) ++ ((⟨#[32, 114]⟩ : ByteArray) ++ t199)) ++ (⟨#[32]⟩ : ByteArray)) ++ t203).size + 1 ≤ 9223372036854775807 then ((spec_l1Dec.f k a0_3).bind fun t204 => (if (((((rdOf ByteArray.empty t195 a0_0) ++ ((⟨#[32, 114]⟩ : ByteArray) ++ t199)) ++ (⟨#[32]⟩ : ByteArray)) ++ t203) ++ (⟨#[32]⟩ : ByteArray)).size + t204.size ≤ 9223372036854775807 then (some ((((((rdOf ByteArray.empty t195 a0_0) ++ ((⟨#[32, 114]⟩ : ByteArray) ++ t199)) ++ (⟨#[32]⟩ : ByteArray)) ++ t203) ++ (⟨#[32]⟩ : ByteArray)) ++ t204)) else (none))) else (none)) else (none))) else (none)) else (none)) else (if a0_0 = 16 then (if (rdOf ByteArray.empty t195 a0_0).size + 1 ≤ 9223372036854775807 then ((spec_l1Dec.f k a0_3).bind fun t205 => (if ((rdOf ByteArray.empty t195 a0_0) ++ (⟨#[32]⟩ : ByteArray)).size + t205.size ≤ 9223372036854775807 then (some (((rdOf ByteArray.empty t195 a0_0) ++ (⟨#[32]⟩ : ByteArray)) ++ t205)) else (none))) else (none)) else (if a0_0 = 17 then ((spec_l1Dec.f k a0_5).bind fun t206 => (if (rdOf ByteArray.empty t195 a0_0).size + t206.size ≤ 9223372036854775807 then (if ((rdOf ByteArray.empty t195 a0_0) ++ t206).size + ((⟨#[32, 114]⟩ : ByteArray) ++ t199).size ≤ 9223372036854775807 then (if (((rdOf ByteArray.empty t195 a0_0) ++ t206) ++ ((⟨#[32, 114]⟩ : ByteArray) ++ t199)).size + 2 ≤ 9223372036854775807 then ((spec_l1Dec.f k a0_2).bind fun t207 => (if ((((rdOf ByteArray.empty t195 a0_0) ++ t206) ++ ((⟨#[32, 114]⟩ : ByteArray) ++ t199)) ++ (⟨#[32, 114]⟩ : ByteArray)).size + t207.size ≤ 9223372036854775807 then (if (((((rdOf ByteArray.empty t195 a0_0) ++ t206) ++ ((⟨#[32, 114]⟩ : ByteArray) ++ t199)) ++ (⟨#[32, 114]⟩ : ByteArray)) ++ t207).size + 1 ≤ 9223372036854775807 then ((spec_l1Dec.f k a0_3).bind fun t208 => (if ((((((rdOf ByteArray.empty t195 a0_0) ++ t206) ++ ((⟨#[32, 114]⟩ : ByteArray) ++ t199)) ++ (⟨#[32, 114]⟩ : ByteArray)) ++ t207) ++ (⟨#[32]⟩ : ByteArray)).size + t208.size ≤ 9223372036854775807 then (some (((((((rdOf ByteArray.empty t195 a0_0) ++ t206) ++ ((⟨#[32, 114]⟩ : ByteArray) ++ t199)) ++ (⟨#[32, 114]⟩ : ByteArray)) ++ t207) ++ (⟨#[32]⟩ : ByteArray)) ++ t208)) else (none))) else (none)) else (none))) else (none)) else (none)) else (none))) else (if a0_0 = 18 then ((spec_l1Dec.f k a0_5).bind fun t209 => (if (rdOf ByteArray.empty t195 a0_0).size + t209.size ≤ 9223372036854775807 then (if ((rdOf ByteArray.empty t195 a0_0) ++ t209).size + ((⟨#[32, 114]⟩ : ByteArray) ++ t199).size ≤ 9223372036854775807 then (if (((rdOf ByteArray.empty t195 a0_0) ++ t209) ++ ((⟨#[32, 114]⟩ : ByteArray) ++ t199)).size + 1 ≤ 9223372036854775807 then ((spec_l1Dec.f k a0_3).bind fun t210 => (if ((((rdOf ByteArray.empty t195 a0_0) ++ t209) ++ ((⟨#[32, 114]⟩ : ByteArray) ++ t199)) ++ (⟨#[32]⟩ : ByteArray)).size + t210.size ≤ 9223372036854775807 then (if (((((rdOf ByteArray.empty t195 a0_0) ++ t209) ++ ((⟨#[32, 114]⟩ : ByteArray) ++ t199)) ++ (⟨#[32]⟩ : ByteArray)) ++ t210).size + 1 ≤ 9223372036854775807 then ((spec_l1Reg.f k a0_2 a0_4).bind fun t211 => (if ((((((rdOf ByteArray.empty t195 a0_0) ++ t209) ++ ((⟨#[32, 114]⟩ : ByteArray) ++ t199)) ++ (⟨#[32]⟩ : ByteArray)) ++ t210) ++ (⟨#[32]⟩ : ByteArray)).size + t211.size ≤ 9223372036854775807 then (some (((((((rdOf ByteArray.empty t195 a0_0) ++ t209) ++ ((⟨#[32, 114]⟩ : ByteArray) ++ t199)) ++ (⟨#[32]⟩ : ByteArray)) ++ t210) ++ (⟨#[32]⟩ : ByteArray)) ++ t211)) else (none))) else (none)) else (none))) else (none)) else (none)) else (none))) else (if a0_0 = 19 then (if (rdOf ByteArray.empty t195 a0_0).size + 1 ≤ 9223372036854775807 then ((spec_l1Calls.f).bind fun t212 => (if 0 ≤ a0_4 then (if a0_4 < (t212.length : Int) then (if ((rdOf ByteArray.empty t195 a0_0) ++ (⟨#[32]⟩ : ByteArray)).size + (rdOf ByteArray.empty t212 a0_4).size ≤ 9223372036854775807 then (some (((rdOf ByteArray.empty t195 a0_0) ++ (⟨#[32]⟩ : ByteArray)) ++ (rdOf ByteArray.empty t212 a0_4))) else (none)) else (none)) else (none))) else (none)) else (some (rdOf ByteArray.empty t195 a0_0)))))))))) else (none))) else (none)) else (none))) = some r := h
 clear h
 replace H := Option.bind_eq_some_iff.mp H
 obtain ⟨t195, A20, H⟩ := H
 try dsimp only at H
 have A2 := Aside0.mk A20
 clear A20
 by_cases c3 : 0 ≤ a0_0
 ·rw [if_pos c3] at H
  have c3b0 : decide (0 ≤ a0_0) = true := decide_eq_true c3
  clear c3
  by_cases c4 : a0_0 < (t195.length : Int)
  ·rw [if_pos c4] at H
   have c4b0 : decide (a0_0 < (t195.length : Int)) = true := decide_eq_true c4
   clear c4
   replace H := Option.bind_eq_some_iff.mp H
   obtain ⟨t199, A50, H⟩ := H
   try dsimp only at H
   have A5 := Aside0.mk A50
   clear A50
   by_cases c6 : 2 + t199.size ≤ 9223372036854775807
   ·rw [if_pos c6] at H
    have c6b0 := eq_true c6
    have c6b1 : decide (2 + t199.size ≤ 9223372036854775807) = true := decide_eq_true c6
    try have c6b2 : (9223372036854775807 < 2 + t199.size) = False := eq_false (Nat.not_lt.2 c6)
    try (have c6b3 := c6; simp only [ByteArray.size_append, bs1, bs2] at c6b3; have c6b4 := eq_false (Nat.not_lt.2 c6b3); clear c6b3)
    replace H := Option.bind_eq_some_iff.mp H
    obtain ⟨t200, A70, H⟩ := H
    try dsimp only at H
    have A7 := Aside0.mk A70
    clear A70
    by_cases c8 : t200 = true
    ·subst c8
     rw [if_pos rfl] at H
     by_cases c9 : (rdOf ByteArray.empty t195 a0_0).size + ((⟨#[32, 114]⟩ : ByteArray) ++ t199).size ≤ 9223372036854775807
     ·rw [if_pos c9] at H
      have c9b0 := eq_true c9
      have c9b1 : decide ((rdOf ByteArray.empty t195 a0_0).size + ((⟨#[32, 114]⟩ : ByteArray) ++ t199).size ≤ 9223372036854775807) = true := decide_eq_true c9
      try have c9b2 : (9223372036854775807 < (rdOf ByteArray.empty t195 a0_0).size + ((⟨#[32, 114]⟩ : ByteArray) ++ t199).size) = False := eq_false (Nat.not_lt.2 c9)
      try (have c9b3 := c9; simp only [ByteArray.size_append, bs1, bs2] at c9b3; have c9b4 := eq_false (Nat.not_lt.2 c9b3); clear c9b3)
      by_cases c10 : ((rdOf ByteArray.empty t195 a0_0) ++ ((⟨#[32, 114]⟩ : ByteArray) ++ t199)).size + 1 ≤ 9223372036854775807
      ·rw [if_pos c10] at H
       have c10b0 := eq_true c10
       have c10b1 : decide (((rdOf ByteArray.empty t195 a0_0) ++ ((⟨#[32, 114]⟩ : ByteArray) ++ t199)).size + 1 ≤ 9223372036854775807) = true := decide_eq_true c10
       try have c10b2 : (9223372036854775807 < ((rdOf ByteArray.empty t195 a0_0) ++ ((⟨#[32, 114]⟩ : ByteArray) ++ t199)).size + 1) = False := eq_false (Nat.not_lt.2 c10)
       try (have c10b3 := c10; simp only [ByteArray.size_append, bs1, bs2] at c10b3; have c10b4 := eq_false (Nat.not_lt.2 c10b3); clear c10b3)
       replace H := Option.bind_eq_some_iff.mp H
       obtain ⟨t201, A110, H⟩ := H
       try dsimp only at H
       have A11 := Aside0.mk A110
       clear A110
       by_cases c12 : (((rdOf ByteArray.empty t195 a0_0) ++ ((⟨#[32, 114]⟩ : ByteArray) ++ t199)) ++ (⟨#[32]⟩ : ByteArray)).size + t201.size ≤ 9223372036854775807
       ·rw [if_pos c12] at H
        have c12b0 := eq_true c12
        have c12b1 : decide ((((rdOf ByteArray.empty t195 a0_0) ++ ((⟨#[32, 114]⟩ : ByteArray) ++ t199)) ++ (⟨#[32]⟩ : ByteArray)).size + t201.size ≤ 9223372036854775807) = true := decide_eq_true c12
        try have c12b2 : (9223372036854775807 < (((rdOf ByteArray.empty t195 a0_0) ++ ((⟨#[32, 114]⟩ : ByteArray) ++ t199)) ++ (⟨#[32]⟩ : ByteArray)).size + t201.size) = False := eq_false (Nat.not_lt.2 c12)
        try (have c12b3 := c12; simp only [ByteArray.size_append, bs1, bs2] at c12b3; have c12b4 := eq_false (Nat.not_lt.2 c12b3); clear c12b3)
        obtain rfl := Option.some.inj H
        go_enter Tryd.func14, Tryd.ntmps14
        try go_wp2_with (first | ((with_reducible refine gate_dst (N := 1) rfl ?_); refine be 1 #[.int .i64 a0_0, .int .i64 a0_1, .int .i64 a0_2, .int .i64 a0_3, .int .i64 a0_4, .int .i64 a0_5] 23 ?_; intro gb194 hg w13 hbox hb; have BK194 := Aside0.mk hbox; have GW194 := zW hg; replace HB := zS hb; have GE194 := GW194; clear hb hbox hg))
        replace BK194 := Aside0.mk (blk_drew BK194.out)
        replace HB := Aside0.mk (below_drew1 HB.out)
        refine start_ (n := 6) (S := fun w' => w'.cell? ⟨gb194, 0, none⟩ = some (.int .i64 a0_0) ∧ w'.cell? ⟨gb194, 1, none⟩ = some (.int .i64 a0_1) ∧ w'.cell? ⟨gb194, 2, none⟩ = some (.int .i64 a0_2) ∧ w'.cell? ⟨gb194, 3, none⟩ = some (.int .i64 a0_3) ∧ w'.cell? ⟨gb194, 4, none⟩ = some (.int .i64 a0_4) ∧ w'.cell? ⟨gb194, 5, none⟩ = some (.int .i64 a0_5)) (ds := []) #[false, false, false, false, false, false] (by kernel_rfl) rfl rfl ⟨(blk_cell BK194.out 0).trans rfl, (blk_cell BK194.out 1).trans rfl, (blk_cell BK194.out 2).trans rfl, (blk_cell BK194.out 3).trans rfl, (blk_cell BK194.out 4).trans rfl, (blk_cell BK194.out 5).trans rfl⟩ (fun hHeld => ?_)
        generalize w13.drew = w14 at BK194 HB hHeld ⊢
        refine pz 1 6 ?_
        refine tz 2 7 ?_
        refine oz 0 5 fun K hK => ?_
        refine gz Tryd.func21 #[] ?_
        with_reducible refine (spec_l1Words.calls  t195 _ A2.out).mono ?_
        rintro e w15 ⟨v196, rfl, ho0, hb⟩
        refine ⟨_, rfl, ?_⟩
        have HO197 := Aside0.mk (Kd.R_lower ho0 (below_size zB))
        replace BK194 := zb BK194 hb rfl
        replace HB := zS hb
        (try clear hb)
        (try clear hb2)
        (try clear hk)
        (try clear hi)
        (try clear ho0)
        obtain ⟨Ao16, co16, eo16⟩ := Kd.R_slice HO197.out
        (first | subst eo16 | (injection eo16 with f1_ f2_ f3_; have f4_ := f1_.symm; have f5_ := f3_.symm; clear f1_ f2_ f3_; subst f4_; subst f5_))
        have p198 : 0 ≤ (a0_0 : Int) := of_decide_eq_true (by first | (with_reducible assumption) | assumption)
        have q198 : a0_0 < (t195.length : Int) := of_decide_eq_true (by first | (with_reducible assumption) | assumption)
        obtain ⟨ad198, e198, hx198_0⟩ := Kd.at_string (Kd.R_reads' HO197.out).2.2 a0_0 p198 q198
        cases e198
        replace p198 := eq_true p198
        replace q198 := eq_true q198
        refine hK.out _ _ ⟨(blk_cell BK194.out 0).trans rfl, (blk_cell BK194.out 1).trans rfl, (blk_cell BK194.out 2).trans rfl, (blk_cell BK194.out 3).trans rfl, (blk_cell BK194.out 4).trans rfl, (blk_cell BK194.out 5).trans rfl⟩ (fun hHeld => ?_)
        clear hK K
        refine nz ?_
        refine pz 3 8 ?_
        refine oz 4 9 fun K hK => ?_
        refine event_step rfl (by go_simp; exact ⟨rfl, rfl⟩) ?_
        refine hK.out _ _ ⟨(blk_cell BK194.out 0).trans rfl, (blk_cell BK194.out 1).trans rfl, (blk_cell BK194.out 2).trans rfl, (blk_cell BK194.out 3).trans rfl, (blk_cell BK194.out 4).trans rfl, (blk_cell BK194.out 5).trans rfl⟩ (fun hHeld => ?_)
        clear hK K
        refine nz ?_
        refine pz 5 3 ?_
        refine done_ (by kernel_rfl) ?_
        obtain ⟨hcz17_0, hcz17_1, hcz17_2, hcz17_3, hcz17_4, hcz17_5, hfz17_0, hfz17_1, hfz17_2, hfz17_3, hfz17_4, hfz17_5⟩ := zc6 BK194
        try go_wp2_with (first | ((with_reducible refine gate_callee (f := 22) rfl ?_); refine gl 12 Tryd.func22 #[.int .i64 a0_1] ?_; (with_reducible refine (spec_l1Dec.calls k a0_1 t199 _ A5.out).mono ?_); rintro e w18 ⟨rfl, hb⟩; refine ⟨_, rfl, ?_⟩; replace HO197 := Aside0.mk (Kd.R_below (by (with_reducible repeat (first | apply Kd.R_alloc | apply Kd.R_drewN | apply Kd.R_drew)); exact HO197.out) hb); replace BK194 := zb BK194 hb rfl; replace HB := zS hb; try clear hb; obtain ⟨hcz19_0, hcz19_1, hcz19_2, hcz19_3, hcz19_4, hcz19_5, hfz19_0, hfz19_1, hfz19_2, hfz19_3, hfz19_4, hfz19_5⟩ := zc6 BK194) | ((with_reducible refine gate_callee (f := 23) rfl ?_); refine gl 17 Tryd.func23 #[.int .i64 a0_0] ?_; (with_reducible refine (spec_l1Alu.calls a0_0 true _ A7.out).mono ?_); rintro e w' ⟨rfl, ⟨nd, rfl⟩⟩; refine ⟨_, rfl, ?_⟩) | ((with_reducible refine gate_callee (f := 30) rfl ?_); refine gl 26 Tryd.func30 #[.int .i64 a0_2, .int .i64 a0_4] ?_; (with_reducible refine (spec_l1Reg.calls k a0_2 a0_4 t201 _ A11.out).mono ?_); rintro e w20 ⟨rfl, hb⟩; refine ⟨_, rfl, ?_⟩; replace HO197 := Aside0.mk (Kd.R_below (by (with_reducible repeat (first | apply Kd.R_alloc | apply Kd.R_drewN | apply Kd.R_drew)); exact HO197.out) hb); replace BK194 := zb BK194 hb rfl; replace HB := zS hb; try clear hb))
        go_ret
        exact ⟨zR, zB⟩
       ·rw [if_neg c12] at H
        exact absurd H (by simp)
      ·rw [if_neg c10] at H
       exact absurd H (by simp)
     ·rw [if_neg c9] at H
      exact absurd H (by simp)
    ·replace c8 := Bool.eq_false_iff.mpr c8
     subst c8
     rw [if_neg (show ¬ (false = true) by decide)] at H
     replace H := Option.bind_eq_some_iff.mp H
     obtain ⟨t202, A210, H⟩ := H
     try dsimp only at H
     have A21 := Aside0.mk A210
     clear A210
     by_cases c22 : t202 = true
     ·subst c22
      rw [if_pos rfl] at H
      by_cases c23 : (rdOf ByteArray.empty t195 a0_0).size + ((⟨#[32, 114]⟩ : ByteArray) ++ t199).size ≤ 9223372036854775807
      ·rw [if_pos c23] at H
       have c23b0 := eq_true c23
       have c23b1 : decide ((rdOf ByteArray.empty t195 a0_0).size + ((⟨#[32, 114]⟩ : ByteArray) ++ t199).size ≤ 9223372036854775807) = true := decide_eq_true c23
       try have c23b2 : (9223372036854775807 < (rdOf ByteArray.empty t195 a0_0).size + ((⟨#[32, 114]⟩ : ByteArray) ++ t199).size) = False := eq_false (Nat.not_lt.2 c23)
       try (have c23b3 := c23; simp only [ByteArray.size_append, bs1, bs2] at c23b3; have c23b4 := eq_false (Nat.not_lt.2 c23b3); clear c23b3)
       by_cases c24 : ((rdOf ByteArray.empty t195 a0_0) ++ ((⟨#[32, 114]⟩ : ByteArray) ++ t199)).size + 1 ≤ 9223372036854775807
       ·rw [if_pos c24] at H
        have c24b0 := eq_true c24
        have c24b1 : decide (((rdOf ByteArray.empty t195 a0_0) ++ ((⟨#[32, 114]⟩ : ByteArray) ++ t199)).size + 1 ≤ 9223372036854775807) = true := decide_eq_true c24
        try have c24b2 : (9223372036854775807 < ((rdOf ByteArray.empty t195 a0_0) ++ ((⟨#[32, 114]⟩ : ByteArray) ++ t199)).size + 1) = False := eq_false (Nat.not_lt.2 c24)
        try (have c24b3 := c24; simp only [ByteArray.size_append, bs1, bs2] at c24b3; have c24b4 := eq_false (Nat.not_lt.2 c24b3); clear c24b3)
        replace H := Option.bind_eq_some_iff.mp H
        obtain ⟨t203, A250, H⟩ := H
        try dsimp only at H
        have A25 := Aside0.mk A250
        clear A250
        by_cases c26 : (((rdOf ByteArray.empty t195 a0_0) ++ ((⟨#[32, 114]⟩ : ByteArray) ++ t199)) ++ (⟨#[32]⟩ : ByteArray)).size + t203.size ≤ 9223372036854775807
        ·rw [if_pos c26] at H
         have c26b0 := eq_true c26
         have c26b1 : decide ((((rdOf ByteArray.empty t195 a0_0) ++ ((⟨#[32, 114]⟩ : ByteArray) ++ t199)) ++ (⟨#[32]⟩ : ByteArray)).size + t203.size ≤ 9223372036854775807) = true := decide_eq_true c26
         try have c26b2 : (9223372036854775807 < (((rdOf ByteArray.empty t195 a0_0) ++ ((⟨#[32, 114]⟩ : ByteArray) ++ t199)) ++ (⟨#[32]⟩ : ByteArray)).size + t203.size) = False := eq_false (Nat.not_lt.2 c26)
         try (have c26b3 := c26; simp only [ByteArray.size_append, bs1, bs2] at c26b3; have c26b4 := eq_false (Nat.not_lt.2 c26b3); clear c26b3)
         by_cases c27 : ((((rdOf ByteArray.empty t195 a0_0) ++ ((⟨#[32, 114]⟩ : ByteArray) ++ t199)) ++ (⟨#[32]⟩ : ByteArray)) ++ t203).size + 1 ≤ 9223372036854775807
         ·rw [if_pos c27] at H
          have c27b0 := eq_true c27
          have c27b1 : decide (((((rdOf ByteArray.empty t195 a0_0) ++ ((⟨#[32, 114]⟩ : ByteArray) ++ t199)) ++ (⟨#[32]⟩ : ByteArray)) ++ t203).size + 1 ≤ 9223372036854775807) = true := decide_eq_true c27
          try have c27b2 : (9223372036854775807 < ((((rdOf ByteArray.empty t195 a0_0) ++ ((⟨#[32, 114]⟩ : ByteArray) ++ t199)) ++ (⟨#[32]⟩ : ByteArray)) ++ t203).size + 1) = False := eq_false (Nat.not_lt.2 c27)
          try (have c27b3 := c27; simp only [ByteArray.size_append, bs1, bs2] at c27b3; have c27b4 := eq_false (Nat.not_lt.2 c27b3); clear c27b3)
          replace H := Option.bind_eq_some_iff.mp H
          obtain ⟨t204, A280, H⟩ := H
          try dsimp only at H
          have A28 := Aside0.mk A280
          clear A280
          by_cases c29 : (((((rdOf ByteArray.empty t195 a0_0) ++ ((⟨#[32, 114]⟩ : ByteArray) ++ t199)) ++ (⟨#[32]⟩ : ByteArray)) ++ t203) ++ (⟨#[32]⟩ : ByteArray)).size + t204.size ≤ 9223372036854775807
          ·rw [if_pos c29] at H
           have c29b0 := eq_true c29
           have c29b1 : decide ((((((rdOf ByteArray.empty t195 a0_0) ++ ((⟨#[32, 114]⟩ : ByteArray) ++ t199)) ++ (⟨#[32]⟩ : ByteArray)) ++ t203) ++ (⟨#[32]⟩ : ByteArray)).size + t204.size ≤ 9223372036854775807) = true := decide_eq_true c29
           try have c29b2 : (9223372036854775807 < (((((rdOf ByteArray.empty t195 a0_0) ++ ((⟨#[32, 114]⟩ : ByteArray) ++ t199)) ++ (⟨#[32]⟩ : ByteArray)) ++ t203) ++ (⟨#[32]⟩ : ByteArray)).size + t204.size) = False := eq_false (Nat.not_lt.2 c29)
           try (have c29b3 := c29; simp only [ByteArray.size_append, bs1, bs2] at c29b3; have c29b4 := eq_false (Nat.not_lt.2 c29b3); clear c29b3)
           obtain rfl := Option.some.inj H
           go_enter Tryd.func14, Tryd.ntmps14
           try go_wp2_with (first | ((with_reducible refine gate_dst (N := 1) rfl ?_); refine be 1 #[.int .i64 a0_0, .int .i64 a0_1, .int .i64 a0_2, .int .i64 a0_3, .int .i64 a0_4, .int .i64 a0_5] 23 ?_; intro gb194 hg w30 hbox hb; have BK194 := Aside0.mk hbox; have GW194 := zW hg; replace HB := zS hb; have GE194 := GW194; clear hb hbox hg))
           replace BK194 := Aside0.mk (blk_drew BK194.out)
           replace HB := Aside0.mk (below_drew1 HB.out)
           refine start_ (n := 6) (S := fun w' => w'.cell? ⟨gb194, 0, none⟩ = some (.int .i64 a0_0) ∧ w'.cell? ⟨gb194, 1, none⟩ = some (.int .i64 a0_1) ∧ w'.cell? ⟨gb194, 2, none⟩ = some (.int .i64 a0_2) ∧ w'.cell? ⟨gb194, 3, none⟩ = some (.int .i64 a0_3) ∧ w'.cell? ⟨gb194, 4, none⟩ = some (.int .i64 a0_4) ∧ w'.cell? ⟨gb194, 5, none⟩ = some (.int .i64 a0_5)) (ds := []) #[false, false, false, false, false, false] (by kernel_rfl) rfl rfl ⟨(blk_cell BK194.out 0).trans rfl, (blk_cell BK194.out 1).trans rfl, (blk_cell BK194.out 2).trans rfl, (blk_cell BK194.out 3).trans rfl, (blk_cell BK194.out 4).trans rfl, (blk_cell BK194.out 5).trans rfl⟩ (fun hHeld => ?_)
           generalize w30.drew = w31 at BK194 HB hHeld ⊢
           refine pz 1 6 ?_
           refine tz 2 7 ?_
           refine oz 0 5 fun K hK => ?_
           refine gz Tryd.func21 #[] ?_
           with_reducible refine (spec_l1Words.calls  t195 _ A2.out).mono ?_
           rintro e w32 ⟨v196, rfl, ho0, hb⟩
           refine ⟨_, rfl, ?_⟩
           have HO197 := Aside0.mk (Kd.R_lower ho0 (below_size zB))
           replace BK194 := zb BK194 hb rfl
           replace HB := zS hb
           (try clear hb)
           (try clear hb2)
           (try clear hk)
           (try clear hi)
           (try clear ho0)
           obtain ⟨Ao33, co33, eo33⟩ := Kd.R_slice HO197.out
           (first | subst eo33 | (injection eo33 with f1_ f2_ f3_; have f4_ := f1_.symm; have f5_ := f3_.symm; clear f1_ f2_ f3_; subst f4_; subst f5_))
           have p198 : 0 ≤ (a0_0 : Int) := of_decide_eq_true (by first | (with_reducible assumption) | assumption)
           have q198 : a0_0 < (t195.length : Int) := of_decide_eq_true (by first | (with_reducible assumption) | assumption)
           obtain ⟨ad198, e198, hx198_0⟩ := Kd.at_string (Kd.R_reads' HO197.out).2.2 a0_0 p198 q198
           cases e198
           replace p198 := eq_true p198
           replace q198 := eq_true q198
           refine hK.out _ _ ⟨(blk_cell BK194.out 0).trans rfl, (blk_cell BK194.out 1).trans rfl, (blk_cell BK194.out 2).trans rfl, (blk_cell BK194.out 3).trans rfl, (blk_cell BK194.out 4).trans rfl, (blk_cell BK194.out 5).trans rfl⟩ (fun hHeld => ?_)
           clear hK K
           refine nz ?_
           refine pz 3 8 ?_
           refine oz 4 9 fun K hK => ?_
           refine event_step rfl (by go_simp; exact ⟨rfl, rfl⟩) ?_
           refine hK.out _ _ ⟨(blk_cell BK194.out 0).trans rfl, (blk_cell BK194.out 1).trans rfl, (blk_cell BK194.out 2).trans rfl, (blk_cell BK194.out 3).trans rfl, (blk_cell BK194.out 4).trans rfl, (blk_cell BK194.out 5).trans rfl⟩ (fun hHeld => ?_)
           clear hK K
           refine nz ?_
           refine pz 5 3 ?_
           refine done_ (by kernel_rfl) ?_
           obtain ⟨hcz34_0, hcz34_1, hcz34_2, hcz34_3, hcz34_4, hcz34_5, hfz34_0, hfz34_1, hfz34_2, hfz34_3, hfz34_4, hfz34_5⟩ := zc6 BK194
           try go_wp2_with (first | ((with_reducible refine gate_callee (f := 22) rfl ?_); refine gl 12 Tryd.func22 #[.int .i64 a0_1] ?_; (with_reducible refine (spec_l1Dec.calls k a0_1 t199 _ A5.out).mono ?_); rintro e w35 ⟨rfl, hb⟩; refine ⟨_, rfl, ?_⟩; replace HO197 := Aside0.mk (Kd.R_below (by (with_reducible repeat (first | apply Kd.R_alloc | apply Kd.R_drewN | apply Kd.R_drew)); exact HO197.out) hb); replace BK194 := zb BK194 hb rfl; replace HB := zS hb; try clear hb; obtain ⟨hcz36_0, hcz36_1, hcz36_2, hcz36_3, hcz36_4, hcz36_5, hfz36_0, hfz36_1, hfz36_2, hfz36_3, hfz36_4, hfz36_5⟩ := zc6 BK194) | ((with_reducible refine gate_callee (f := 23) rfl ?_); refine gl 17 Tryd.func23 #[.int .i64 a0_0] ?_; (with_reducible refine (spec_l1Alu.calls a0_0 false _ A7.out).mono ?_); rintro e w' ⟨rfl, ⟨nd, rfl⟩⟩; refine ⟨_, rfl, ?_⟩) | ((with_reducible refine gate_callee (f := 24) rfl ?_); refine gl 31 Tryd.func24 #[.int .i64 a0_0] ?_; (with_reducible refine (spec_l1Jump.calls a0_0 true _ A21.out).mono ?_); rintro e w' ⟨rfl, ⟨nd, rfl⟩⟩; refine ⟨_, rfl, ?_⟩))
           (try (rw [drewN_self w35]; generalize hq_ : World.drewN w35 _ = w35; have n0_ : Aside0 (Kd.R Kd.string 9 w35 w.heap.size (fun _ => True) (.slice (some ad198) t195.length co33) t195) := ⟨by rw [← hq_]; exact (by (with_reducible repeat (first | apply Kd.R_alloc | apply Kd.R_drewN | apply Kd.R_drew)); exact HO197.out)⟩; have n1_ : Aside0 (w35.heap[gb194]? = some (.cells #[.int .i64 a0_0, .int .i64 a0_1, .int .i64 a0_2, .int .i64 a0_3, .int .i64 a0_4, .int .i64 a0_5] 23 (0, 0))) := ⟨by rw [← hq_]; exact (by exact bq BK194.out)⟩; have n2_ : Aside0 (Below w.heap.size w w35) := ⟨by rw [← hq_]; exact zB⟩; clear HO197 BK194 HB hq_; have HO197 := n0_; have BK194 := n1_; have HB := n2_; clear n0_ n1_ n2_))
           replace HO197 := Aside0.mk (Kd.R_drew HO197.out)
           replace BK194 := Aside0.mk (blk_drew BK194.out)
           replace HB := Aside0.mk (below_drew1 HB.out)
           refine start_ (n := 16) (S := fun w' => w'.cell? ⟨gb194, 0, none⟩ = some (.int .i64 a0_0) ∧ w'.cell? ⟨gb194, 1, none⟩ = some (.int .i64 a0_1) ∧ w'.cell? ⟨gb194, 2, none⟩ = some (.int .i64 a0_2) ∧ w'.cell? ⟨gb194, 3, none⟩ = some (.int .i64 a0_3) ∧ w'.cell? ⟨gb194, 4, none⟩ = some (.int .i64 a0_4) ∧ w'.cell? ⟨gb194, 5, none⟩ = some (.int .i64 a0_5)) (ds := []) #[false, false, false, false, false, false, false, false, false, false, false, false, false, false, false, false] (by kernel_rfl) rfl rfl ⟨(blk_cell BK194.out 0).trans rfl, (blk_cell BK194.out 1).trans rfl, (blk_cell BK194.out 2).trans rfl, (blk_cell BK194.out 3).trans rfl, (blk_cell BK194.out 4).trans rfl, (blk_cell BK194.out 5).trans rfl⟩ (fun hHeld => ?_); refine with_tabW spec_l1Line.tab6 spec_l1Line.bits6 (fun HT_ HW_ => ?_)
           generalize w35.drew = w37 at HO197 BK194 HB hHeld ⊢
           refine pz 0 32 ?_
           refine pz 1 33 ?_
           refine pz 2 34 ?_
           refine pz 3 35 ?_
           refine pz 4 36 ?_
           refine pz 6 38 ?_
           refine pz 11 43 ?_
           refine tz 5 37 ?_
           refine tz 7 39 ?_
           refine tz 12 44 ?_
           refine oz 8 40 fun K hK => ?_
           refine gz Tryd.func30 #[.int .i64 a0_2, .int .i64 a0_4] ?_
           with_reducible refine (spec_l1Reg.calls k a0_2 a0_4 t203 _ A25.out).mono ?_
           rintro e w38 ⟨rfl, hb⟩
           refine ⟨_, rfl, ?_⟩
           replace HO197 := Aside0.mk (Kd.R_below (by (with_reducible repeat (first | apply Kd.R_alloc | apply Kd.R_drewN | apply Kd.R_drew)); exact HO197.out) hb)
           replace BK194 := zb BK194 hb rfl
           replace HB := zS hb
           try clear hb
           refine hK.out _ _ ⟨(blk_cell BK194.out 0).trans rfl, (blk_cell BK194.out 1).trans rfl, (blk_cell BK194.out 2).trans rfl, (blk_cell BK194.out 3).trans rfl, (blk_cell BK194.out 4).trans rfl, (blk_cell BK194.out 5).trans rfl⟩ (fun hHeld => ?_)
           clear hK K
           refine nz ?_
           refine pz 9 41 ?_
           refine pz 10 42 ?_
           refine oz 13 45 fun K hK => ?_
           refine gz Tryd.func22 #[.int .i64 a0_3] ?_
           with_reducible refine (spec_l1Dec.calls k a0_3 t204 _ A28.out).mono ?_
           rintro e w39 ⟨rfl, hb⟩
           refine ⟨_, rfl, ?_⟩
           replace HO197 := Aside0.mk (Kd.R_below (by (with_reducible repeat (first | apply Kd.R_alloc | apply Kd.R_drewN | apply Kd.R_drew)); exact HO197.out) hb)
           replace BK194 := zb BK194 hb rfl
           replace HB := zS hb
           try clear hb
           refine hK.out _ _ ⟨(blk_cell BK194.out 0).trans rfl, (blk_cell BK194.out 1).trans rfl, (blk_cell BK194.out 2).trans rfl, (blk_cell BK194.out 3).trans rfl, (blk_cell BK194.out 4).trans rfl, (blk_cell BK194.out 5).trans rfl⟩ (fun hHeld => ?_)
           clear hK K
           refine nz ?_
           refine pz 14 46 ?_
           refine pz 15 2 ?_
           refine done_ (done_of HT_.out (by kernel_rfl)) ?_
           try go_wp2
           go_ret
           exact ⟨zR, zB⟩
          ·rw [if_neg c29] at H
           exact absurd H (by simp)
         ·rw [if_neg c27] at H
          exact absurd H (by simp)
        ·rw [if_neg c26] at H
         exact absurd H (by simp)
       ·rw [if_neg c24] at H
        exact absurd H (by simp)
      ·rw [if_neg c23] at H
       exact absurd H (by simp)
     ·replace c22 := Bool.eq_false_iff.mpr c22
      subst c22
      rw [if_neg (show ¬ (false = true) by decide)] at H
      by_cases c40 : a0_0 = 16
      ·rw [if_pos c40] at H
       have c40b0 : (a0_0 == 16) = true := beq_iff_eq.mpr c40
       have c40b1 : (a0_0 != 16) = false := bne_eq_false_iff_eq.mpr c40
       clear c40
       by_cases c41 : (rdOf ByteArray.empty t195 a0_0).size + 1 ≤ 9223372036854775807
       ·rw [if_pos c41] at H
        have c41b0 := eq_true c41
        have c41b1 : decide ((rdOf ByteArray.empty t195 a0_0).size + 1 ≤ 9223372036854775807) = true := decide_eq_true c41
        try have c41b2 : (9223372036854775807 < (rdOf ByteArray.empty t195 a0_0).size + 1) = False := eq_false (Nat.not_lt.2 c41)
        try (have c41b3 := c41; simp only [ByteArray.size_append, bs1, bs2] at c41b3; have c41b4 := eq_false (Nat.not_lt.2 c41b3); clear c41b3)
        replace H := Option.bind_eq_some_iff.mp H
        obtain ⟨t205, A420, H⟩ := H
        try dsimp only at H
        have A42 := Aside0.mk A420
        clear A420
        by_cases c43 : ((rdOf ByteArray.empty t195 a0_0) ++ (⟨#[32]⟩ : ByteArray)).size + t205.size ≤ 9223372036854775807
        ·rw [if_pos c43] at H
         have c43b0 := eq_true c43
         have c43b1 : decide (((rdOf ByteArray.empty t195 a0_0) ++ (⟨#[32]⟩ : ByteArray)).size + t205.size ≤ 9223372036854775807) = true := decide_eq_true c43
         try have c43b2 : (9223372036854775807 < ((rdOf ByteArray.empty t195 a0_0) ++ (⟨#[32]⟩ : ByteArray)).size + t205.size) = False := eq_false (Nat.not_lt.2 c43)
         try (have c43b3 := c43; simp only [ByteArray.size_append, bs1, bs2] at c43b3; have c43b4 := eq_false (Nat.not_lt.2 c43b3); clear c43b3)
         obtain rfl := Option.some.inj H
         go_enter Tryd.func14, Tryd.ntmps14
         try go_wp2_with (first | ((with_reducible refine gate_dst (N := 1) rfl ?_); refine be 1 #[.int .i64 a0_0, .int .i64 a0_1, .int .i64 a0_2, .int .i64 a0_3, .int .i64 a0_4, .int .i64 a0_5] 23 ?_; intro gb194 hg w44 hbox hb; have BK194 := Aside0.mk hbox; have GW194 := zW hg; replace HB := zS hb; have GE194 := GW194; clear hb hbox hg))
         replace BK194 := Aside0.mk (blk_drew BK194.out)
         replace HB := Aside0.mk (below_drew1 HB.out)
         refine start_ (n := 6) (S := fun w' => w'.cell? ⟨gb194, 0, none⟩ = some (.int .i64 a0_0) ∧ w'.cell? ⟨gb194, 1, none⟩ = some (.int .i64 a0_1) ∧ w'.cell? ⟨gb194, 2, none⟩ = some (.int .i64 a0_2) ∧ w'.cell? ⟨gb194, 3, none⟩ = some (.int .i64 a0_3) ∧ w'.cell? ⟨gb194, 4, none⟩ = some (.int .i64 a0_4) ∧ w'.cell? ⟨gb194, 5, none⟩ = some (.int .i64 a0_5)) (ds := []) #[false, false, false, false, false, false] (by kernel_rfl) rfl rfl ⟨(blk_cell BK194.out 0).trans rfl, (blk_cell BK194.out 1).trans rfl, (blk_cell BK194.out 2).trans rfl, (blk_cell BK194.out 3).trans rfl, (blk_cell BK194.out 4).trans rfl, (blk_cell BK194.out 5).trans rfl⟩ (fun hHeld => ?_)
         generalize w44.drew = w45 at BK194 HB hHeld ⊢
         refine pz 1 6 ?_
         refine tz 2 7 ?_
         refine oz 0 5 fun K hK => ?_
         refine gz Tryd.func21 #[] ?_
         with_reducible refine (spec_l1Words.calls  t195 _ A2.out).mono ?_
         rintro e w46 ⟨v196, rfl, ho0, hb⟩
         refine ⟨_, rfl, ?_⟩
         have HO197 := Aside0.mk (Kd.R_lower ho0 (below_size zB))
         replace BK194 := zb BK194 hb rfl
         replace HB := zS hb
         (try clear hb)
         (try clear hb2)
         (try clear hk)
         (try clear hi)
         (try clear ho0)
         obtain ⟨Ao47, co47, eo47⟩ := Kd.R_slice HO197.out
         (first | subst eo47 | (injection eo47 with f1_ f2_ f3_; have f4_ := f1_.symm; have f5_ := f3_.symm; clear f1_ f2_ f3_; subst f4_; subst f5_))
         have p198 : 0 ≤ (a0_0 : Int) := of_decide_eq_true (by first | (with_reducible assumption) | assumption)
         have q198 : a0_0 < (t195.length : Int) := of_decide_eq_true (by first | (with_reducible assumption) | assumption)
         obtain ⟨ad198, e198, hx198_0⟩ := Kd.at_string (Kd.R_reads' HO197.out).2.2 a0_0 p198 q198
         cases e198
         replace p198 := eq_true p198
         replace q198 := eq_true q198
         refine hK.out _ _ ⟨(blk_cell BK194.out 0).trans rfl, (blk_cell BK194.out 1).trans rfl, (blk_cell BK194.out 2).trans rfl, (blk_cell BK194.out 3).trans rfl, (blk_cell BK194.out 4).trans rfl, (blk_cell BK194.out 5).trans rfl⟩ (fun hHeld => ?_)
         clear hK K
         refine nz ?_
         refine pz 3 8 ?_
         refine oz 4 9 fun K hK => ?_
         refine event_step rfl (by go_simp; exact ⟨rfl, rfl⟩) ?_
         refine hK.out _ _ ⟨(blk_cell BK194.out 0).trans rfl, (blk_cell BK194.out 1).trans rfl, (blk_cell BK194.out 2).trans rfl, (blk_cell BK194.out 3).trans rfl, (blk_cell BK194.out 4).trans rfl, (blk_cell BK194.out 5).trans rfl⟩ (fun hHeld => ?_)
         clear hK K
         refine nz ?_
         refine pz 5 3 ?_
         refine done_ (by kernel_rfl) ?_
         obtain ⟨hcz48_0, hcz48_1, hcz48_2, hcz48_3, hcz48_4, hcz48_5, hfz48_0, hfz48_1, hfz48_2, hfz48_3, hfz48_4, hfz48_5⟩ := zc6 BK194
         try go_wp2_with (first | ((with_reducible refine gate_callee (f := 22) rfl ?_); refine gl 12 Tryd.func22 #[.int .i64 a0_1] ?_; (with_reducible refine (spec_l1Dec.calls k a0_1 t199 _ A5.out).mono ?_); rintro e w49 ⟨rfl, hb⟩; refine ⟨_, rfl, ?_⟩; replace HO197 := Aside0.mk (Kd.R_below (by (with_reducible repeat (first | apply Kd.R_alloc | apply Kd.R_drewN | apply Kd.R_drew)); exact HO197.out) hb); replace BK194 := zb BK194 hb rfl; replace HB := zS hb; try clear hb; obtain ⟨hcz50_0, hcz50_1, hcz50_2, hcz50_3, hcz50_4, hcz50_5, hfz50_0, hfz50_1, hfz50_2, hfz50_3, hfz50_4, hfz50_5⟩ := zc6 BK194) | ((with_reducible refine gate_callee (f := 23) rfl ?_); refine gl 17 Tryd.func23 #[.int .i64 a0_0] ?_; (with_reducible refine (spec_l1Alu.calls a0_0 false _ A7.out).mono ?_); rintro e w' ⟨rfl, ⟨nd, rfl⟩⟩; refine ⟨_, rfl, ?_⟩) | ((with_reducible refine gate_callee (f := 24) rfl ?_); refine gl 31 Tryd.func24 #[.int .i64 a0_0] ?_; (with_reducible refine (spec_l1Jump.calls a0_0 false _ A21.out).mono ?_); rintro e w' ⟨rfl, ⟨nd, rfl⟩⟩; refine ⟨_, rfl, ?_⟩) | ((with_reducible refine gate_callee (f := 22) rfl ?_); refine gl 55 Tryd.func22 #[.int .i64 a0_3] ?_; (with_reducible refine (spec_l1Dec.calls k a0_3 t205 _ A42.out).mono ?_); rintro e w51 ⟨rfl, hb⟩; refine ⟨_, rfl, ?_⟩; replace HO197 := Aside0.mk (Kd.R_below (by (with_reducible repeat (first | apply Kd.R_alloc | apply Kd.R_drewN | apply Kd.R_drew)); exact HO197.out) hb); replace BK194 := zb BK194 hb rfl; replace HB := zS hb; try clear hb))
         go_ret
         exact ⟨zR, zB⟩
        ·rw [if_neg c43] at H
         exact absurd H (by simp)
       ·rw [if_neg c41] at H
        exact absurd H (by simp)
      ·rw [if_neg c40] at H
       have c40b0 : (a0_0 == 16) = false := beq_eq_false_iff_ne.mpr c40
       have c40b1 : (a0_0 != 16) = true := bne_iff_ne.mpr c40
       by_cases c52 : a0_0 = 17
       ·rw [if_pos c52] at H
        have c52b0 : (a0_0 == 17) = true := beq_iff_eq.mpr c52
        have c52b1 : (a0_0 != 17) = false := bne_eq_false_iff_eq.mpr c52
        clear c52
        replace H := Option.bind_eq_some_iff.mp H
        obtain ⟨t206, A530, H⟩ := H
        try dsimp only at H
        have A53 := Aside0.mk A530
        clear A530
        by_cases c54 : (rdOf ByteArray.empty t195 a0_0).size + t206.size ≤ 9223372036854775807
        ·rw [if_pos c54] at H
         have c54b0 := eq_true c54
         have c54b1 : decide ((rdOf ByteArray.empty t195 a0_0).size + t206.size ≤ 9223372036854775807) = true := decide_eq_true c54
         try have c54b2 : (9223372036854775807 < (rdOf ByteArray.empty t195 a0_0).size + t206.size) = False := eq_false (Nat.not_lt.2 c54)
         try (have c54b3 := c54; simp only [ByteArray.size_append, bs1, bs2] at c54b3; have c54b4 := eq_false (Nat.not_lt.2 c54b3); clear c54b3)
         by_cases c55 : ((rdOf ByteArray.empty t195 a0_0) ++ t206).size + ((⟨#[32, 114]⟩ : ByteArray) ++ t199).size ≤ 9223372036854775807
         ·rw [if_pos c55] at H
          have c55b0 := eq_true c55
          have c55b1 : decide (((rdOf ByteArray.empty t195 a0_0) ++ t206).size + ((⟨#[32, 114]⟩ : ByteArray) ++ t199).size ≤ 9223372036854775807) = true := decide_eq_true c55
          try have c55b2 : (9223372036854775807 < ((rdOf ByteArray.empty t195 a0_0) ++ t206).size + ((⟨#[32, 114]⟩ : ByteArray) ++ t199).size) = False := eq_false (Nat.not_lt.2 c55)
          try (have c55b3 := c55; simp only [ByteArray.size_append, bs1, bs2] at c55b3; have c55b4 := eq_false (Nat.not_lt.2 c55b3); clear c55b3)
          by_cases c56 : (((rdOf ByteArray.empty t195 a0_0) ++ t206) ++ ((⟨#[32, 114]⟩ : ByteArray) ++ t199)).size + 2 ≤ 9223372036854775807
          ·rw [if_pos c56] at H
           have c56b0 := eq_true c56
           have c56b1 : decide ((((rdOf ByteArray.empty t195 a0_0) ++ t206) ++ ((⟨#[32, 114]⟩ : ByteArray) ++ t199)).size + 2 ≤ 9223372036854775807) = true := decide_eq_true c56
           try have c56b2 : (9223372036854775807 < (((rdOf ByteArray.empty t195 a0_0) ++ t206) ++ ((⟨#[32, 114]⟩ : ByteArray) ++ t199)).size + 2) = False := eq_false (Nat.not_lt.2 c56)
           try (have c56b3 := c56; simp only [ByteArray.size_append, bs1, bs2] at c56b3; have c56b4 := eq_false (Nat.not_lt.2 c56b3); clear c56b3)
           replace H := Option.bind_eq_some_iff.mp H
           obtain ⟨t207, A570, H⟩ := H
           try dsimp only at H
           have A57 := Aside0.mk A570
           clear A570
           by_cases c58 : ((((rdOf ByteArray.empty t195 a0_0) ++ t206) ++ ((⟨#[32, 114]⟩ : ByteArray) ++ t199)) ++ (⟨#[32, 114]⟩ : ByteArray)).size + t207.size ≤ 9223372036854775807
           ·rw [if_pos c58] at H
            have c58b0 := eq_true c58
            have c58b1 : decide (((((rdOf ByteArray.empty t195 a0_0) ++ t206) ++ ((⟨#[32, 114]⟩ : ByteArray) ++ t199)) ++ (⟨#[32, 114]⟩ : ByteArray)).size + t207.size ≤ 9223372036854775807) = true := decide_eq_true c58
            try have c58b2 : (9223372036854775807 < ((((rdOf ByteArray.empty t195 a0_0) ++ t206) ++ ((⟨#[32, 114]⟩ : ByteArray) ++ t199)) ++ (⟨#[32, 114]⟩ : ByteArray)).size + t207.size) = False := eq_false (Nat.not_lt.2 c58)
            try (have c58b3 := c58; simp only [ByteArray.size_append, bs1, bs2] at c58b3; have c58b4 := eq_false (Nat.not_lt.2 c58b3); clear c58b3)
            by_cases c59 : (((((rdOf ByteArray.empty t195 a0_0) ++ t206) ++ ((⟨#[32, 114]⟩ : ByteArray) ++ t199)) ++ (⟨#[32, 114]⟩ : ByteArray)) ++ t207).size + 1 ≤ 9223372036854775807
            ·rw [if_pos c59] at H
             have c59b0 := eq_true c59
             have c59b1 : decide ((((((rdOf ByteArray.empty t195 a0_0) ++ t206) ++ ((⟨#[32, 114]⟩ : ByteArray) ++ t199)) ++ (⟨#[32, 114]⟩ : ByteArray)) ++ t207).size + 1 ≤ 9223372036854775807) = true := decide_eq_true c59
             try have c59b2 : (9223372036854775807 < (((((rdOf ByteArray.empty t195 a0_0) ++ t206) ++ ((⟨#[32, 114]⟩ : ByteArray) ++ t199)) ++ (⟨#[32, 114]⟩ : ByteArray)) ++ t207).size + 1) = False := eq_false (Nat.not_lt.2 c59)
             try (have c59b3 := c59; simp only [ByteArray.size_append, bs1, bs2] at c59b3; have c59b4 := eq_false (Nat.not_lt.2 c59b3); clear c59b3)
             replace H := Option.bind_eq_some_iff.mp H
             obtain ⟨t208, A600, H⟩ := H
             try dsimp only at H
             have A60 := Aside0.mk A600
             clear A600
             by_cases c61 : ((((((rdOf ByteArray.empty t195 a0_0) ++ t206) ++ ((⟨#[32, 114]⟩ : ByteArray) ++ t199)) ++ (⟨#[32, 114]⟩ : ByteArray)) ++ t207) ++ (⟨#[32]⟩ : ByteArray)).size + t208.size ≤ 9223372036854775807
             ·rw [if_pos c61] at H
              have c61b0 := eq_true c61
              have c61b1 : decide (((((((rdOf ByteArray.empty t195 a0_0) ++ t206) ++ ((⟨#[32, 114]⟩ : ByteArray) ++ t199)) ++ (⟨#[32, 114]⟩ : ByteArray)) ++ t207) ++ (⟨#[32]⟩ : ByteArray)).size + t208.size ≤ 9223372036854775807) = true := decide_eq_true c61
              try have c61b2 : (9223372036854775807 < ((((((rdOf ByteArray.empty t195 a0_0) ++ t206) ++ ((⟨#[32, 114]⟩ : ByteArray) ++ t199)) ++ (⟨#[32, 114]⟩ : ByteArray)) ++ t207) ++ (⟨#[32]⟩ : ByteArray)).size + t208.size) = False := eq_false (Nat.not_lt.2 c61)
              try (have c61b3 := c61; simp only [ByteArray.size_append, bs1, bs2] at c61b3; have c61b4 := eq_false (Nat.not_lt.2 c61b3); clear c61b3)
              obtain rfl := Option.some.inj H
              go_enter Tryd.func14, Tryd.ntmps14
              try go_wp2_with (first | ((with_reducible refine gate_dst (N := 1) rfl ?_); refine be 1 #[.int .i64 a0_0, .int .i64 a0_1, .int .i64 a0_2, .int .i64 a0_3, .int .i64 a0_4, .int .i64 a0_5] 23 ?_; intro gb194 hg w62 hbox hb; have BK194 := Aside0.mk hbox; have GW194 := zW hg; replace HB := zS hb; have GE194 := GW194; clear hb hbox hg))
              replace BK194 := Aside0.mk (blk_drew BK194.out)
              replace HB := Aside0.mk (below_drew1 HB.out)
              refine start_ (n := 6) (S := fun w' => w'.cell? ⟨gb194, 0, none⟩ = some (.int .i64 a0_0) ∧ w'.cell? ⟨gb194, 1, none⟩ = some (.int .i64 a0_1) ∧ w'.cell? ⟨gb194, 2, none⟩ = some (.int .i64 a0_2) ∧ w'.cell? ⟨gb194, 3, none⟩ = some (.int .i64 a0_3) ∧ w'.cell? ⟨gb194, 4, none⟩ = some (.int .i64 a0_4) ∧ w'.cell? ⟨gb194, 5, none⟩ = some (.int .i64 a0_5)) (ds := []) #[false, false, false, false, false, false] (by kernel_rfl) rfl rfl ⟨(blk_cell BK194.out 0).trans rfl, (blk_cell BK194.out 1).trans rfl, (blk_cell BK194.out 2).trans rfl, (blk_cell BK194.out 3).trans rfl, (blk_cell BK194.out 4).trans rfl, (blk_cell BK194.out 5).trans rfl⟩ (fun hHeld => ?_)
              generalize w62.drew = w63 at BK194 HB hHeld ⊢
              refine pz 1 6 ?_
              refine tz 2 7 ?_
              refine oz 0 5 fun K hK => ?_
              refine gz Tryd.func21 #[] ?_
              with_reducible refine (spec_l1Words.calls  t195 _ A2.out).mono ?_
              rintro e w64 ⟨v196, rfl, ho0, hb⟩
              refine ⟨_, rfl, ?_⟩
              have HO197 := Aside0.mk (Kd.R_lower ho0 (below_size zB))
              replace BK194 := zb BK194 hb rfl
              replace HB := zS hb
              (try clear hb)
              (try clear hb2)
              (try clear hk)
              (try clear hi)
              (try clear ho0)
              obtain ⟨Ao65, co65, eo65⟩ := Kd.R_slice HO197.out
              (first | subst eo65 | (injection eo65 with f1_ f2_ f3_; have f4_ := f1_.symm; have f5_ := f3_.symm; clear f1_ f2_ f3_; subst f4_; subst f5_))
              have p198 : 0 ≤ (a0_0 : Int) := of_decide_eq_true (by first | (with_reducible assumption) | assumption)
              have q198 : a0_0 < (t195.length : Int) := of_decide_eq_true (by first | (with_reducible assumption) | assumption)
              obtain ⟨ad198, e198, hx198_0⟩ := Kd.at_string (Kd.R_reads' HO197.out).2.2 a0_0 p198 q198
              cases e198
              replace p198 := eq_true p198
              replace q198 := eq_true q198
              refine hK.out _ _ ⟨(blk_cell BK194.out 0).trans rfl, (blk_cell BK194.out 1).trans rfl, (blk_cell BK194.out 2).trans rfl, (blk_cell BK194.out 3).trans rfl, (blk_cell BK194.out 4).trans rfl, (blk_cell BK194.out 5).trans rfl⟩ (fun hHeld => ?_)
              clear hK K
              refine nz ?_
              refine pz 3 8 ?_
              refine oz 4 9 fun K hK => ?_
              refine event_step rfl (by go_simp; exact ⟨rfl, rfl⟩) ?_
              refine hK.out _ _ ⟨(blk_cell BK194.out 0).trans rfl, (blk_cell BK194.out 1).trans rfl, (blk_cell BK194.out 2).trans rfl, (blk_cell BK194.out 3).trans rfl, (blk_cell BK194.out 4).trans rfl, (blk_cell BK194.out 5).trans rfl⟩ (fun hHeld => ?_)
              clear hK K
              refine nz ?_
              refine pz 5 3 ?_
              refine done_ (by kernel_rfl) ?_
              obtain ⟨hcz66_0, hcz66_1, hcz66_2, hcz66_3, hcz66_4, hcz66_5, hfz66_0, hfz66_1, hfz66_2, hfz66_3, hfz66_4, hfz66_5⟩ := zc6 BK194
              try go_wp2_with (first | ((with_reducible refine gate_callee (f := 22) rfl ?_); refine gl 12 Tryd.func22 #[.int .i64 a0_1] ?_; (with_reducible refine (spec_l1Dec.calls k a0_1 t199 _ A5.out).mono ?_); rintro e w67 ⟨rfl, hb⟩; refine ⟨_, rfl, ?_⟩; replace HO197 := Aside0.mk (Kd.R_below (by (with_reducible repeat (first | apply Kd.R_alloc | apply Kd.R_drewN | apply Kd.R_drew)); exact HO197.out) hb); replace BK194 := zb BK194 hb rfl; replace HB := zS hb; try clear hb; obtain ⟨hcz68_0, hcz68_1, hcz68_2, hcz68_3, hcz68_4, hcz68_5, hfz68_0, hfz68_1, hfz68_2, hfz68_3, hfz68_4, hfz68_5⟩ := zc6 BK194) | ((with_reducible refine gate_callee (f := 23) rfl ?_); refine gl 17 Tryd.func23 #[.int .i64 a0_0] ?_; (with_reducible refine (spec_l1Alu.calls a0_0 false _ A7.out).mono ?_); rintro e w' ⟨rfl, ⟨nd, rfl⟩⟩; refine ⟨_, rfl, ?_⟩) | ((with_reducible refine gate_callee (f := 24) rfl ?_); refine gl 31 Tryd.func24 #[.int .i64 a0_0] ?_; (with_reducible refine (spec_l1Jump.calls a0_0 false _ A21.out).mono ?_); rintro e w' ⟨rfl, ⟨nd, rfl⟩⟩; refine ⟨_, rfl, ?_⟩))
              (try (rw [drewN_self w67]; generalize hq_ : World.drewN w67 _ = w67; have n0_ : Aside0 (Kd.R Kd.string 9 w67 w.heap.size (fun _ => True) (.slice (some ad198) t195.length co65) t195) := ⟨by rw [← hq_]; exact (by (with_reducible repeat (first | apply Kd.R_alloc | apply Kd.R_drewN | apply Kd.R_drew)); exact HO197.out)⟩; have n1_ : Aside0 (w67.heap[gb194]? = some (.cells #[.int .i64 a0_0, .int .i64 a0_1, .int .i64 a0_2, .int .i64 a0_3, .int .i64 a0_4, .int .i64 a0_5] 23 (0, 0))) := ⟨by rw [← hq_]; exact (by exact bq BK194.out)⟩; have n2_ : Aside0 (Below w.heap.size w w67) := ⟨by rw [← hq_]; exact zB⟩; clear HO197 BK194 HB hq_; have HO197 := n0_; have BK194 := n1_; have HB := n2_; clear n0_ n1_ n2_))
              replace HO197 := Aside0.mk (Kd.R_drew HO197.out)
              replace BK194 := Aside0.mk (blk_drew BK194.out)
              replace HB := Aside0.mk (below_drew1 HB.out)
              refine start_ (n := 18) (S := fun w' => w'.cell? ⟨gb194, 0, none⟩ = some (.int .i64 a0_0) ∧ w'.cell? ⟨gb194, 1, none⟩ = some (.int .i64 a0_1) ∧ w'.cell? ⟨gb194, 2, none⟩ = some (.int .i64 a0_2) ∧ w'.cell? ⟨gb194, 3, none⟩ = some (.int .i64 a0_3) ∧ w'.cell? ⟨gb194, 4, none⟩ = some (.int .i64 a0_4) ∧ w'.cell? ⟨gb194, 5, none⟩ = some (.int .i64 a0_5)) (ds := []) #[false, false, false, false, false, false, false, false, false, false, false, false, false, false, false, false, false, false] (by kernel_rfl) rfl rfl ⟨(blk_cell BK194.out 0).trans rfl, (blk_cell BK194.out 1).trans rfl, (blk_cell BK194.out 2).trans rfl, (blk_cell BK194.out 3).trans rfl, (blk_cell BK194.out 4).trans rfl, (blk_cell BK194.out 5).trans rfl⟩ (fun hHeld => ?_); refine with_tabW spec_l1Line.tab10 spec_l1Line.bits10 (fun HT_ HW_ => ?_)
              generalize w67.drew = w69 at HO197 BK194 HB hHeld ⊢
              refine pz 0 61 ?_
              refine pz 1 62 ?_
              refine pz 5 66 ?_
              refine pz 8 69 ?_
              refine pz 13 74 ?_
              refine tz 2 63 ?_
              refine tz 9 70 ?_
              refine tz 14 75 ?_
              refine oz 3 64 fun K hK => ?_
              refine gz Tryd.func22 #[.int .i64 a0_5] ?_
              with_reducible refine (spec_l1Dec.calls k a0_5 t206 _ A53.out).mono ?_
              rintro e w70 ⟨rfl, hb⟩
              refine ⟨_, rfl, ?_⟩
              replace HO197 := Aside0.mk (Kd.R_below (by (with_reducible repeat (first | apply Kd.R_alloc | apply Kd.R_drewN | apply Kd.R_drew)); exact HO197.out) hb)
              replace BK194 := zb BK194 hb rfl
              replace HB := zS hb
              try clear hb
              refine hK.out _ _ ⟨(blk_cell BK194.out 0).trans rfl, (blk_cell BK194.out 1).trans rfl, (blk_cell BK194.out 2).trans rfl, (blk_cell BK194.out 3).trans rfl, (blk_cell BK194.out 4).trans rfl, (blk_cell BK194.out 5).trans rfl⟩ (fun hHeld => ?_)
              clear hK K
              refine nz ?_
              refine pz 4 65 ?_
              refine pz 6 67 ?_
              refine pz 7 68 ?_
              refine oz 10 71 fun K hK => ?_
              refine gz Tryd.func22 #[.int .i64 a0_2] ?_
              with_reducible refine (spec_l1Dec.calls k a0_2 t207 _ A57.out).mono ?_
              rintro e w71 ⟨rfl, hb⟩
              refine ⟨_, rfl, ?_⟩
              replace HO197 := Aside0.mk (Kd.R_below (by (with_reducible repeat (first | apply Kd.R_alloc | apply Kd.R_drewN | apply Kd.R_drew)); exact HO197.out) hb)
              replace BK194 := zb BK194 hb rfl
              replace HB := zS hb
              try clear hb
              refine hK.out _ _ ⟨(blk_cell BK194.out 0).trans rfl, (blk_cell BK194.out 1).trans rfl, (blk_cell BK194.out 2).trans rfl, (blk_cell BK194.out 3).trans rfl, (blk_cell BK194.out 4).trans rfl, (blk_cell BK194.out 5).trans rfl⟩ (fun hHeld => ?_)
              clear hK K
              refine nz ?_
              refine pz 11 72 ?_
              refine pz 12 73 ?_
              refine oz 15 76 fun K hK => ?_
              refine gz Tryd.func22 #[.int .i64 a0_3] ?_
              with_reducible refine (spec_l1Dec.calls k a0_3 t208 _ A60.out).mono ?_
              rintro e w72 ⟨rfl, hb⟩
              refine ⟨_, rfl, ?_⟩
              replace HO197 := Aside0.mk (Kd.R_below (by (with_reducible repeat (first | apply Kd.R_alloc | apply Kd.R_drewN | apply Kd.R_drew)); exact HO197.out) hb)
              replace BK194 := zb BK194 hb rfl
              replace HB := zS hb
              try clear hb
              refine hK.out _ _ ⟨(blk_cell BK194.out 0).trans rfl, (blk_cell BK194.out 1).trans rfl, (blk_cell BK194.out 2).trans rfl, (blk_cell BK194.out 3).trans rfl, (blk_cell BK194.out 4).trans rfl, (blk_cell BK194.out 5).trans rfl⟩ (fun hHeld => ?_)
              clear hK K
              refine nz ?_
              refine pz 16 77 ?_
              refine pz 17 2 ?_
              refine done_ (done_of HT_.out (by kernel_rfl)) ?_
              try go_wp2
              go_ret
              exact ⟨zR, zB⟩
             ·rw [if_neg c61] at H
              exact absurd H (by simp)
            ·rw [if_neg c59] at H
             exact absurd H (by simp)
           ·rw [if_neg c58] at H
            exact absurd H (by simp)
          ·rw [if_neg c56] at H
           exact absurd H (by simp)
         ·rw [if_neg c55] at H
          exact absurd H (by simp)
        ·rw [if_neg c54] at H
         exact absurd H (by simp)
       ·rw [if_neg c52] at H
        have c52b0 : (a0_0 == 17) = false := beq_eq_false_iff_ne.mpr c52
        have c52b1 : (a0_0 != 17) = true := bne_iff_ne.mpr c52
        by_cases c73 : a0_0 = 18
        ·rw [if_pos c73] at H
         have c73b0 : (a0_0 == 18) = true := beq_iff_eq.mpr c73
         have c73b1 : (a0_0 != 18) = false := bne_eq_false_iff_eq.mpr c73
         clear c73
         replace H := Option.bind_eq_some_iff.mp H
         obtain ⟨t209, A740, H⟩ := H
         try dsimp only at H
         have A74 := Aside0.mk A740
         clear A740
         by_cases c75 : (rdOf ByteArray.empty t195 a0_0).size + t209.size ≤ 9223372036854775807
         ·rw [if_pos c75] at H
          have c75b0 := eq_true c75
          have c75b1 : decide ((rdOf ByteArray.empty t195 a0_0).size + t209.size ≤ 9223372036854775807) = true := decide_eq_true c75
          try have c75b2 : (9223372036854775807 < (rdOf ByteArray.empty t195 a0_0).size + t209.size) = False := eq_false (Nat.not_lt.2 c75)
          try (have c75b3 := c75; simp only [ByteArray.size_append, bs1, bs2] at c75b3; have c75b4 := eq_false (Nat.not_lt.2 c75b3); clear c75b3)
          by_cases c76 : ((rdOf ByteArray.empty t195 a0_0) ++ t209).size + ((⟨#[32, 114]⟩ : ByteArray) ++ t199).size ≤ 9223372036854775807
          ·rw [if_pos c76] at H
           have c76b0 := eq_true c76
           have c76b1 : decide (((rdOf ByteArray.empty t195 a0_0) ++ t209).size + ((⟨#[32, 114]⟩ : ByteArray) ++ t199).size ≤ 9223372036854775807) = true := decide_eq_true c76
           try have c76b2 : (9223372036854775807 < ((rdOf ByteArray.empty t195 a0_0) ++ t209).size + ((⟨#[32, 114]⟩ : ByteArray) ++ t199).size) = False := eq_false (Nat.not_lt.2 c76)
           try (have c76b3 := c76; simp only [ByteArray.size_append, bs1, bs2] at c76b3; have c76b4 := eq_false (Nat.not_lt.2 c76b3); clear c76b3)
           by_cases c77 : (((rdOf ByteArray.empty t195 a0_0) ++ t209) ++ ((⟨#[32, 114]⟩ : ByteArray) ++ t199)).size + 1 ≤ 9223372036854775807
           ·rw [if_pos c77] at H
            have c77b0 := eq_true c77
            have c77b1 : decide ((((rdOf ByteArray.empty t195 a0_0) ++ t209) ++ ((⟨#[32, 114]⟩ : ByteArray) ++ t199)).size + 1 ≤ 9223372036854775807) = true := decide_eq_true c77
            try have c77b2 : (9223372036854775807 < (((rdOf ByteArray.empty t195 a0_0) ++ t209) ++ ((⟨#[32, 114]⟩ : ByteArray) ++ t199)).size + 1) = False := eq_false (Nat.not_lt.2 c77)
            try (have c77b3 := c77; simp only [ByteArray.size_append, bs1, bs2] at c77b3; have c77b4 := eq_false (Nat.not_lt.2 c77b3); clear c77b3)
            replace H := Option.bind_eq_some_iff.mp H
            obtain ⟨t210, A780, H⟩ := H
            try dsimp only at H
            have A78 := Aside0.mk A780
            clear A780
            by_cases c79 : ((((rdOf ByteArray.empty t195 a0_0) ++ t209) ++ ((⟨#[32, 114]⟩ : ByteArray) ++ t199)) ++ (⟨#[32]⟩ : ByteArray)).size + t210.size ≤ 9223372036854775807
            ·rw [if_pos c79] at H
             have c79b0 := eq_true c79
             have c79b1 : decide (((((rdOf ByteArray.empty t195 a0_0) ++ t209) ++ ((⟨#[32, 114]⟩ : ByteArray) ++ t199)) ++ (⟨#[32]⟩ : ByteArray)).size + t210.size ≤ 9223372036854775807) = true := decide_eq_true c79
             try have c79b2 : (9223372036854775807 < ((((rdOf ByteArray.empty t195 a0_0) ++ t209) ++ ((⟨#[32, 114]⟩ : ByteArray) ++ t199)) ++ (⟨#[32]⟩ : ByteArray)).size + t210.size) = False := eq_false (Nat.not_lt.2 c79)
             try (have c79b3 := c79; simp only [ByteArray.size_append, bs1, bs2] at c79b3; have c79b4 := eq_false (Nat.not_lt.2 c79b3); clear c79b3)
             by_cases c80 : (((((rdOf ByteArray.empty t195 a0_0) ++ t209) ++ ((⟨#[32, 114]⟩ : ByteArray) ++ t199)) ++ (⟨#[32]⟩ : ByteArray)) ++ t210).size + 1 ≤ 9223372036854775807
             ·rw [if_pos c80] at H
              have c80b0 := eq_true c80
              have c80b1 : decide ((((((rdOf ByteArray.empty t195 a0_0) ++ t209) ++ ((⟨#[32, 114]⟩ : ByteArray) ++ t199)) ++ (⟨#[32]⟩ : ByteArray)) ++ t210).size + 1 ≤ 9223372036854775807) = true := decide_eq_true c80
              try have c80b2 : (9223372036854775807 < (((((rdOf ByteArray.empty t195 a0_0) ++ t209) ++ ((⟨#[32, 114]⟩ : ByteArray) ++ t199)) ++ (⟨#[32]⟩ : ByteArray)) ++ t210).size + 1) = False := eq_false (Nat.not_lt.2 c80)
              try (have c80b3 := c80; simp only [ByteArray.size_append, bs1, bs2] at c80b3; have c80b4 := eq_false (Nat.not_lt.2 c80b3); clear c80b3)
              replace H := Option.bind_eq_some_iff.mp H
              obtain ⟨t211, A810, H⟩ := H
              try dsimp only at H
              have A81 := Aside0.mk A810
              clear A810
              by_cases c82 : ((((((rdOf ByteArray.empty t195 a0_0) ++ t209) ++ ((⟨#[32, 114]⟩ : ByteArray) ++ t199)) ++ (⟨#[32]⟩ : ByteArray)) ++ t210) ++ (⟨#[32]⟩ : ByteArray)).size + t211.size ≤ 9223372036854775807
              ·rw [if_pos c82] at H
               have c82b0 := eq_true c82
               have c82b1 : decide (((((((rdOf ByteArray.empty t195 a0_0) ++ t209) ++ ((⟨#[32, 114]⟩ : ByteArray) ++ t199)) ++ (⟨#[32]⟩ : ByteArray)) ++ t210) ++ (⟨#[32]⟩ : ByteArray)).size + t211.size ≤ 9223372036854775807) = true := decide_eq_true c82
               try have c82b2 : (9223372036854775807 < ((((((rdOf ByteArray.empty t195 a0_0) ++ t209) ++ ((⟨#[32, 114]⟩ : ByteArray) ++ t199)) ++ (⟨#[32]⟩ : ByteArray)) ++ t210) ++ (⟨#[32]⟩ : ByteArray)).size + t211.size) = False := eq_false (Nat.not_lt.2 c82)
               try (have c82b3 := c82; simp only [ByteArray.size_append, bs1, bs2] at c82b3; have c82b4 := eq_false (Nat.not_lt.2 c82b3); clear c82b3)
               obtain rfl := Option.some.inj H
               go_enter Tryd.func14, Tryd.ntmps14
               try go_wp2_with (first | ((with_reducible refine gate_dst (N := 1) rfl ?_); refine be 1 #[.int .i64 a0_0, .int .i64 a0_1, .int .i64 a0_2, .int .i64 a0_3, .int .i64 a0_4, .int .i64 a0_5] 23 ?_; intro gb194 hg w83 hbox hb; have BK194 := Aside0.mk hbox; have GW194 := zW hg; replace HB := zS hb; have GE194 := GW194; clear hb hbox hg))
               replace BK194 := Aside0.mk (blk_drew BK194.out)
               replace HB := Aside0.mk (below_drew1 HB.out)
               refine start_ (n := 6) (S := fun w' => w'.cell? ⟨gb194, 0, none⟩ = some (.int .i64 a0_0) ∧ w'.cell? ⟨gb194, 1, none⟩ = some (.int .i64 a0_1) ∧ w'.cell? ⟨gb194, 2, none⟩ = some (.int .i64 a0_2) ∧ w'.cell? ⟨gb194, 3, none⟩ = some (.int .i64 a0_3) ∧ w'.cell? ⟨gb194, 4, none⟩ = some (.int .i64 a0_4) ∧ w'.cell? ⟨gb194, 5, none⟩ = some (.int .i64 a0_5)) (ds := []) #[false, false, false, false, false, false] (by kernel_rfl) rfl rfl ⟨(blk_cell BK194.out 0).trans rfl, (blk_cell BK194.out 1).trans rfl, (blk_cell BK194.out 2).trans rfl, (blk_cell BK194.out 3).trans rfl, (blk_cell BK194.out 4).trans rfl, (blk_cell BK194.out 5).trans rfl⟩ (fun hHeld => ?_)
               generalize w83.drew = w84 at BK194 HB hHeld ⊢
               refine pz 1 6 ?_
               refine tz 2 7 ?_
               refine oz 0 5 fun K hK => ?_
               refine gz Tryd.func21 #[] ?_
               with_reducible refine (spec_l1Words.calls  t195 _ A2.out).mono ?_
               rintro e w85 ⟨v196, rfl, ho0, hb⟩
               refine ⟨_, rfl, ?_⟩
               have HO197 := Aside0.mk (Kd.R_lower ho0 (below_size zB))
               replace BK194 := zb BK194 hb rfl
               replace HB := zS hb
               (try clear hb)
               (try clear hb2)
               (try clear hk)
               (try clear hi)
               (try clear ho0)
               obtain ⟨Ao86, co86, eo86⟩ := Kd.R_slice HO197.out
               (first | subst eo86 | (injection eo86 with f1_ f2_ f3_; have f4_ := f1_.symm; have f5_ := f3_.symm; clear f1_ f2_ f3_; subst f4_; subst f5_))
               have p198 : 0 ≤ (a0_0 : Int) := of_decide_eq_true (by first | (with_reducible assumption) | assumption)
               have q198 : a0_0 < (t195.length : Int) := of_decide_eq_true (by first | (with_reducible assumption) | assumption)
               obtain ⟨ad198, e198, hx198_0⟩ := Kd.at_string (Kd.R_reads' HO197.out).2.2 a0_0 p198 q198
               cases e198
               replace p198 := eq_true p198
               replace q198 := eq_true q198
               refine hK.out _ _ ⟨(blk_cell BK194.out 0).trans rfl, (blk_cell BK194.out 1).trans rfl, (blk_cell BK194.out 2).trans rfl, (blk_cell BK194.out 3).trans rfl, (blk_cell BK194.out 4).trans rfl, (blk_cell BK194.out 5).trans rfl⟩ (fun hHeld => ?_)
               clear hK K
               refine nz ?_
               refine pz 3 8 ?_
               refine oz 4 9 fun K hK => ?_
               refine event_step rfl (by go_simp; exact ⟨rfl, rfl⟩) ?_
               refine hK.out _ _ ⟨(blk_cell BK194.out 0).trans rfl, (blk_cell BK194.out 1).trans rfl, (blk_cell BK194.out 2).trans rfl, (blk_cell BK194.out 3).trans rfl, (blk_cell BK194.out 4).trans rfl, (blk_cell BK194.out 5).trans rfl⟩ (fun hHeld => ?_)
               clear hK K
               refine nz ?_
               refine pz 5 3 ?_
               refine done_ (by kernel_rfl) ?_
               obtain ⟨hcz87_0, hcz87_1, hcz87_2, hcz87_3, hcz87_4, hcz87_5, hfz87_0, hfz87_1, hfz87_2, hfz87_3, hfz87_4, hfz87_5⟩ := zc6 BK194
               try go_wp2_with (first | ((with_reducible refine gate_callee (f := 22) rfl ?_); refine gl 12 Tryd.func22 #[.int .i64 a0_1] ?_; (with_reducible refine (spec_l1Dec.calls k a0_1 t199 _ A5.out).mono ?_); rintro e w88 ⟨rfl, hb⟩; refine ⟨_, rfl, ?_⟩; replace HO197 := Aside0.mk (Kd.R_below (by (with_reducible repeat (first | apply Kd.R_alloc | apply Kd.R_drewN | apply Kd.R_drew)); exact HO197.out) hb); replace BK194 := zb BK194 hb rfl; replace HB := zS hb; try clear hb; obtain ⟨hcz89_0, hcz89_1, hcz89_2, hcz89_3, hcz89_4, hcz89_5, hfz89_0, hfz89_1, hfz89_2, hfz89_3, hfz89_4, hfz89_5⟩ := zc6 BK194) | ((with_reducible refine gate_callee (f := 23) rfl ?_); refine gl 17 Tryd.func23 #[.int .i64 a0_0] ?_; (with_reducible refine (spec_l1Alu.calls a0_0 false _ A7.out).mono ?_); rintro e w' ⟨rfl, ⟨nd, rfl⟩⟩; refine ⟨_, rfl, ?_⟩) | ((with_reducible refine gate_callee (f := 24) rfl ?_); refine gl 31 Tryd.func24 #[.int .i64 a0_0] ?_; (with_reducible refine (spec_l1Jump.calls a0_0 false _ A21.out).mono ?_); rintro e w' ⟨rfl, ⟨nd, rfl⟩⟩; refine ⟨_, rfl, ?_⟩))
               (try (rw [drewN_self w88]; generalize hq_ : World.drewN w88 _ = w88; have n0_ : Aside0 (Kd.R Kd.string 9 w88 w.heap.size (fun _ => True) (.slice (some ad198) t195.length co86) t195) := ⟨by rw [← hq_]; exact (by (with_reducible repeat (first | apply Kd.R_alloc | apply Kd.R_drewN | apply Kd.R_drew)); exact HO197.out)⟩; have n1_ : Aside0 (w88.heap[gb194]? = some (.cells #[.int .i64 a0_0, .int .i64 a0_1, .int .i64 a0_2, .int .i64 a0_3, .int .i64 a0_4, .int .i64 a0_5] 23 (0, 0))) := ⟨by rw [← hq_]; exact (by exact bq BK194.out)⟩; have n2_ : Aside0 (Below w.heap.size w w88) := ⟨by rw [← hq_]; exact zB⟩; clear HO197 BK194 HB hq_; have HO197 := n0_; have BK194 := n1_; have HB := n2_; clear n0_ n1_ n2_))
               replace HO197 := Aside0.mk (Kd.R_drew HO197.out)
               replace BK194 := Aside0.mk (blk_drew BK194.out)
               replace HB := Aside0.mk (below_drew1 HB.out)
               refine start_ (n := 20) (S := fun w' => w'.cell? ⟨gb194, 0, none⟩ = some (.int .i64 a0_0) ∧ w'.cell? ⟨gb194, 1, none⟩ = some (.int .i64 a0_1) ∧ w'.cell? ⟨gb194, 2, none⟩ = some (.int .i64 a0_2) ∧ w'.cell? ⟨gb194, 3, none⟩ = some (.int .i64 a0_3) ∧ w'.cell? ⟨gb194, 4, none⟩ = some (.int .i64 a0_4) ∧ w'.cell? ⟨gb194, 5, none⟩ = some (.int .i64 a0_5)) (ds := []) #[false, false, false, false, false, false, false, false, false, false, false, false, false, false, false, false, false, false, false, false] (by kernel_rfl) rfl rfl ⟨(blk_cell BK194.out 0).trans rfl, (blk_cell BK194.out 1).trans rfl, (blk_cell BK194.out 2).trans rfl, (blk_cell BK194.out 3).trans rfl, (blk_cell BK194.out 4).trans rfl, (blk_cell BK194.out 5).trans rfl⟩ (fun hHeld => ?_); refine with_tabW spec_l1Line.tab12 spec_l1Line.bits12 (fun HT_ HW_ => ?_)
               generalize w88.drew = w90 at HO197 BK194 HB hHeld ⊢
               refine pz 0 82 ?_
               refine pz 1 83 ?_
               refine pz 5 87 ?_
               refine pz 8 90 ?_
               refine pz 13 95 ?_
               refine pz 15 97 ?_
               refine tz 2 84 ?_
               refine tz 9 91 ?_
               refine tz 14 96 ?_
               refine tz 16 98 ?_
               refine oz 3 85 fun K hK => ?_
               refine gz Tryd.func22 #[.int .i64 a0_5] ?_
               with_reducible refine (spec_l1Dec.calls k a0_5 t209 _ A74.out).mono ?_
               rintro e w91 ⟨rfl, hb⟩
               refine ⟨_, rfl, ?_⟩
               replace HO197 := Aside0.mk (Kd.R_below (by (with_reducible repeat (first | apply Kd.R_alloc | apply Kd.R_drewN | apply Kd.R_drew)); exact HO197.out) hb)
               replace BK194 := zb BK194 hb rfl
               replace HB := zS hb
               try clear hb
               refine hK.out _ _ ⟨(blk_cell BK194.out 0).trans rfl, (blk_cell BK194.out 1).trans rfl, (blk_cell BK194.out 2).trans rfl, (blk_cell BK194.out 3).trans rfl, (blk_cell BK194.out 4).trans rfl, (blk_cell BK194.out 5).trans rfl⟩ (fun hHeld => ?_)
               clear hK K
               refine nz ?_
               refine pz 4 86 ?_
               refine pz 6 88 ?_
               refine pz 7 89 ?_
               refine oz 10 92 fun K hK => ?_
               refine gz Tryd.func22 #[.int .i64 a0_3] ?_
               with_reducible refine (spec_l1Dec.calls k a0_3 t210 _ A78.out).mono ?_
               rintro e w92 ⟨rfl, hb⟩
               refine ⟨_, rfl, ?_⟩
               replace HO197 := Aside0.mk (Kd.R_below (by (with_reducible repeat (first | apply Kd.R_alloc | apply Kd.R_drewN | apply Kd.R_drew)); exact HO197.out) hb)
               replace BK194 := zb BK194 hb rfl
               replace HB := zS hb
               try clear hb
               refine hK.out _ _ ⟨(blk_cell BK194.out 0).trans rfl, (blk_cell BK194.out 1).trans rfl, (blk_cell BK194.out 2).trans rfl, (blk_cell BK194.out 3).trans rfl, (blk_cell BK194.out 4).trans rfl, (blk_cell BK194.out 5).trans rfl⟩ (fun hHeld => ?_)
               clear hK K
               refine nz ?_
               refine pz 11 93 ?_
               refine pz 12 94 ?_
               refine oz 17 99 fun K hK => ?_
               refine gz Tryd.func30 #[.int .i64 a0_2, .int .i64 a0_4] ?_
               with_reducible refine (spec_l1Reg.calls k a0_2 a0_4 t211 _ A81.out).mono ?_
               rintro e w93 ⟨rfl, hb⟩
               refine ⟨_, rfl, ?_⟩
               replace HO197 := Aside0.mk (Kd.R_below (by (with_reducible repeat (first | apply Kd.R_alloc | apply Kd.R_drewN | apply Kd.R_drew)); exact HO197.out) hb)
               replace BK194 := zb BK194 hb rfl
               replace HB := zS hb
               try clear hb
               refine hK.out _ _ ⟨(blk_cell BK194.out 0).trans rfl, (blk_cell BK194.out 1).trans rfl, (blk_cell BK194.out 2).trans rfl, (blk_cell BK194.out 3).trans rfl, (blk_cell BK194.out 4).trans rfl, (blk_cell BK194.out 5).trans rfl⟩ (fun hHeld => ?_)
               clear hK K
               refine nz ?_
               refine pz 18 100 ?_
               refine pz 19 2 ?_
               refine done_ (done_of HT_.out (by kernel_rfl)) ?_
               try go_wp2
               go_ret
               exact ⟨zR, zB⟩
              ·rw [if_neg c82] at H
               exact absurd H (by simp)
             ·rw [if_neg c80] at H
              exact absurd H (by simp)
            ·rw [if_neg c79] at H
             exact absurd H (by simp)
           ·rw [if_neg c77] at H
            exact absurd H (by simp)
          ·rw [if_neg c76] at H
           exact absurd H (by simp)
         ·rw [if_neg c75] at H
          exact absurd H (by simp)
        ·rw [if_neg c73] at H
         have c73b0 : (a0_0 == 18) = false := beq_eq_false_iff_ne.mpr c73
         have c73b1 : (a0_0 != 18) = true := bne_iff_ne.mpr c73
         by_cases c94 : a0_0 = 19
         ·rw [if_pos c94] at H
          have c94b0 : (a0_0 == 19) = true := beq_iff_eq.mpr c94
          have c94b1 : (a0_0 != 19) = false := bne_eq_false_iff_eq.mpr c94
          clear c94
          by_cases c95 : (rdOf ByteArray.empty t195 a0_0).size + 1 ≤ 9223372036854775807
          ·rw [if_pos c95] at H
           have c95b0 := eq_true c95
           have c95b1 : decide ((rdOf ByteArray.empty t195 a0_0).size + 1 ≤ 9223372036854775807) = true := decide_eq_true c95
           try have c95b2 : (9223372036854775807 < (rdOf ByteArray.empty t195 a0_0).size + 1) = False := eq_false (Nat.not_lt.2 c95)
           try (have c95b3 := c95; simp only [ByteArray.size_append, bs1, bs2] at c95b3; have c95b4 := eq_false (Nat.not_lt.2 c95b3); clear c95b3)
           replace H := Option.bind_eq_some_iff.mp H
           obtain ⟨t212, A960, H⟩ := H
           try dsimp only at H
           have A96 := Aside0.mk A960
           clear A960
           by_cases c97 : 0 ≤ a0_4
           ·rw [if_pos c97] at H
            have c97b0 : decide (0 ≤ a0_4) = true := decide_eq_true c97
            clear c97
            by_cases c98 : a0_4 < (t212.length : Int)
            ·rw [if_pos c98] at H
             have c98b0 : decide (a0_4 < (t212.length : Int)) = true := decide_eq_true c98
             clear c98
             by_cases c99 : ((rdOf ByteArray.empty t195 a0_0) ++ (⟨#[32]⟩ : ByteArray)).size + (rdOf ByteArray.empty t212 a0_4).size ≤ 9223372036854775807
             ·rw [if_pos c99] at H
              have c99b0 := eq_true c99
              have c99b1 : decide (((rdOf ByteArray.empty t195 a0_0) ++ (⟨#[32]⟩ : ByteArray)).size + (rdOf ByteArray.empty t212 a0_4).size ≤ 9223372036854775807) = true := decide_eq_true c99
              try have c99b2 : (9223372036854775807 < ((rdOf ByteArray.empty t195 a0_0) ++ (⟨#[32]⟩ : ByteArray)).size + (rdOf ByteArray.empty t212 a0_4).size) = False := eq_false (Nat.not_lt.2 c99)
              try (have c99b3 := c99; simp only [ByteArray.size_append, bs1, bs2] at c99b3; have c99b4 := eq_false (Nat.not_lt.2 c99b3); clear c99b3)
              obtain rfl := Option.some.inj H
              go_enter Tryd.func14, Tryd.ntmps14
              try go_wp2_with (first | ((with_reducible refine gate_dst (N := 1) rfl ?_); refine be 1 #[.int .i64 a0_0, .int .i64 a0_1, .int .i64 a0_2, .int .i64 a0_3, .int .i64 a0_4, .int .i64 a0_5] 23 ?_; intro gb194 hg w100 hbox hb; have BK194 := Aside0.mk hbox; have GW194 := zW hg; replace HB := zS hb; have GE194 := GW194; clear hb hbox hg))
              replace BK194 := Aside0.mk (blk_drew BK194.out)
              replace HB := Aside0.mk (below_drew1 HB.out)
              refine start_ (n := 6) (S := fun w' => w'.cell? ⟨gb194, 0, none⟩ = some (.int .i64 a0_0) ∧ w'.cell? ⟨gb194, 1, none⟩ = some (.int .i64 a0_1) ∧ w'.cell? ⟨gb194, 2, none⟩ = some (.int .i64 a0_2) ∧ w'.cell? ⟨gb194, 3, none⟩ = some (.int .i64 a0_3) ∧ w'.cell? ⟨gb194, 4, none⟩ = some (.int .i64 a0_4) ∧ w'.cell? ⟨gb194, 5, none⟩ = some (.int .i64 a0_5)) (ds := []) #[false, false, false, false, false, false] (by kernel_rfl) rfl rfl ⟨(blk_cell BK194.out 0).trans rfl, (blk_cell BK194.out 1).trans rfl, (blk_cell BK194.out 2).trans rfl, (blk_cell BK194.out 3).trans rfl, (blk_cell BK194.out 4).trans rfl, (blk_cell BK194.out 5).trans rfl⟩ (fun hHeld => ?_)
              generalize w100.drew = w101 at BK194 HB hHeld ⊢
              refine pz 1 6 ?_
              refine tz 2 7 ?_
              refine oz 0 5 fun K hK => ?_
              refine gz Tryd.func21 #[] ?_
              with_reducible refine (spec_l1Words.calls  t195 _ A2.out).mono ?_
              rintro e w102 ⟨v196, rfl, ho0, hb⟩
              refine ⟨_, rfl, ?_⟩
              have HO197 := Aside0.mk (Kd.R_lower ho0 (below_size zB))
              replace BK194 := zb BK194 hb rfl
              replace HB := zS hb
              (try clear hb)
              (try clear hb2)
              (try clear hk)
              (try clear hi)
              (try clear ho0)
              obtain ⟨Ao103, co103, eo103⟩ := Kd.R_slice HO197.out
              (first | subst eo103 | (injection eo103 with f1_ f2_ f3_; have f4_ := f1_.symm; have f5_ := f3_.symm; clear f1_ f2_ f3_; subst f4_; subst f5_))
              have p198 : 0 ≤ (a0_0 : Int) := of_decide_eq_true (by first | (with_reducible assumption) | assumption)
              have q198 : a0_0 < (t195.length : Int) := of_decide_eq_true (by first | (with_reducible assumption) | assumption)
              obtain ⟨ad198, e198, hx198_0⟩ := Kd.at_string (Kd.R_reads' HO197.out).2.2 a0_0 p198 q198
              cases e198
              replace p198 := eq_true p198
              replace q198 := eq_true q198
              refine hK.out _ _ ⟨(blk_cell BK194.out 0).trans rfl, (blk_cell BK194.out 1).trans rfl, (blk_cell BK194.out 2).trans rfl, (blk_cell BK194.out 3).trans rfl, (blk_cell BK194.out 4).trans rfl, (blk_cell BK194.out 5).trans rfl⟩ (fun hHeld => ?_)
              clear hK K
              refine nz ?_
              refine pz 3 8 ?_
              refine oz 4 9 fun K hK => ?_
              refine event_step rfl (by go_simp; exact ⟨rfl, rfl⟩) ?_
              refine hK.out _ _ ⟨(blk_cell BK194.out 0).trans rfl, (blk_cell BK194.out 1).trans rfl, (blk_cell BK194.out 2).trans rfl, (blk_cell BK194.out 3).trans rfl, (blk_cell BK194.out 4).trans rfl, (blk_cell BK194.out 5).trans rfl⟩ (fun hHeld => ?_)
              clear hK K
              refine nz ?_
              refine pz 5 3 ?_
              refine done_ (by kernel_rfl) ?_
              obtain ⟨hcz104_0, hcz104_1, hcz104_2, hcz104_3, hcz104_4, hcz104_5, hfz104_0, hfz104_1, hfz104_2, hfz104_3, hfz104_4, hfz104_5⟩ := zc6 BK194
              try go_wp2_with (first | ((with_reducible refine gate_callee (f := 22) rfl ?_); refine gl 12 Tryd.func22 #[.int .i64 a0_1] ?_; (with_reducible refine (spec_l1Dec.calls k a0_1 t199 _ A5.out).mono ?_); rintro e w105 ⟨rfl, hb⟩; refine ⟨_, rfl, ?_⟩; replace HO197 := Aside0.mk (Kd.R_below (by (with_reducible repeat (first | apply Kd.R_alloc | apply Kd.R_drewN | apply Kd.R_drew)); exact HO197.out) hb); replace BK194 := zb BK194 hb rfl; replace HB := zS hb; try clear hb; obtain ⟨hcz106_0, hcz106_1, hcz106_2, hcz106_3, hcz106_4, hcz106_5, hfz106_0, hfz106_1, hfz106_2, hfz106_3, hfz106_4, hfz106_5⟩ := zc6 BK194) | ((with_reducible refine gate_callee (f := 23) rfl ?_); refine gl 17 Tryd.func23 #[.int .i64 a0_0] ?_; (with_reducible refine (spec_l1Alu.calls a0_0 false _ A7.out).mono ?_); rintro e w' ⟨rfl, ⟨nd, rfl⟩⟩; refine ⟨_, rfl, ?_⟩) | ((with_reducible refine gate_callee (f := 24) rfl ?_); refine gl 31 Tryd.func24 #[.int .i64 a0_0] ?_; (with_reducible refine (spec_l1Jump.calls a0_0 false _ A21.out).mono ?_); rintro e w' ⟨rfl, ⟨nd, rfl⟩⟩; refine ⟨_, rfl, ?_⟩))
              (try (rw [drewN_self w105]; generalize hq_ : World.drewN w105 _ = w105; have n0_ : Aside0 (Kd.R Kd.string 9 w105 w.heap.size (fun _ => True) (.slice (some ad198) t195.length co103) t195) := ⟨by rw [← hq_]; exact (by (with_reducible repeat (first | apply Kd.R_alloc | apply Kd.R_drewN | apply Kd.R_drew)); exact HO197.out)⟩; have n1_ : Aside0 (w105.heap[gb194]? = some (.cells #[.int .i64 a0_0, .int .i64 a0_1, .int .i64 a0_2, .int .i64 a0_3, .int .i64 a0_4, .int .i64 a0_5] 23 (0, 0))) := ⟨by rw [← hq_]; exact (by exact bq BK194.out)⟩; have n2_ : Aside0 (Below w.heap.size w w105) := ⟨by rw [← hq_]; exact zB⟩; clear HO197 BK194 HB hq_; have HO197 := n0_; have BK194 := n1_; have HB := n2_; clear n0_ n1_ n2_))
              replace HO197 := Aside0.mk (Kd.R_drew HO197.out)
              replace BK194 := Aside0.mk (blk_drew BK194.out)
              replace HB := Aside0.mk (below_drew1 HB.out)
              refine start_ (n := 9) (S := fun w' => w'.cell? ⟨gb194, 0, none⟩ = some (.int .i64 a0_0) ∧ w'.cell? ⟨gb194, 1, none⟩ = some (.int .i64 a0_1) ∧ w'.cell? ⟨gb194, 2, none⟩ = some (.int .i64 a0_2) ∧ w'.cell? ⟨gb194, 3, none⟩ = some (.int .i64 a0_3) ∧ w'.cell? ⟨gb194, 4, none⟩ = some (.int .i64 a0_4) ∧ w'.cell? ⟨gb194, 5, none⟩ = some (.int .i64 a0_5)) (ds := []) #[false, false, false, false, false, false, false, false, false] (by kernel_rfl) rfl rfl ⟨(blk_cell BK194.out 0).trans rfl, (blk_cell BK194.out 1).trans rfl, (blk_cell BK194.out 2).trans rfl, (blk_cell BK194.out 3).trans rfl, (blk_cell BK194.out 4).trans rfl, (blk_cell BK194.out 5).trans rfl⟩ (fun hHeld => ?_); refine with_tabW spec_l1Line.tab14 spec_l1Line.bits14 (fun HT_ HW_ => ?_)
              generalize w105.drew = w107 at HO197 BK194 HB hHeld ⊢
              refine pz 0 105 ?_
              refine pz 1 106 ?_
              refine pz 3 108 ?_
              refine tz 4 109 ?_
              refine oz 2 107 fun K hK => ?_
              refine gz Tryd.func27 #[] ?_
              with_reducible refine (spec_l1Calls.calls  t212 _ A96.out).mono ?_
              rintro e w108 ⟨v213, rfl, ho0, hb⟩
              refine ⟨_, rfl, ?_⟩
              have HO214 := Aside0.mk (Kd.R_lower (Kd.R_new' ho0 (Kd.R_lt (by (with_reducible repeat (first | apply Kd.R_alloc | apply Kd.R_drewN | apply Kd.R_drew)); exact HO197.out))) (below_size zB))
              replace HO197 := Aside0.mk (Kd.R_elder' (by (with_reducible repeat (first | apply Kd.R_alloc | apply Kd.R_drewN | apply Kd.R_drew)); exact HO197.out) (Kd.R_base ho0) hb)
              replace BK194 := zb BK194 hb rfl
              replace HB := zS hb
              (try clear hb)
              (try clear hb2)
              (try clear hk)
              (try clear hi)
              (try clear ho0)
              obtain ⟨Ao109, co109, eo109⟩ := Kd.R_slice HO214.out
              (first | subst eo109 | (injection eo109 with f1_ f2_ f3_; have f4_ := f1_.symm; have f5_ := f3_.symm; clear f1_ f2_ f3_; subst f4_; subst f5_))
              have p215 : 0 ≤ (a0_4 : Int) := of_decide_eq_true (by first | (with_reducible assumption) | assumption)
              have q215 : a0_4 < (t212.length : Int) := of_decide_eq_true (by first | (with_reducible assumption) | assumption)
              obtain ⟨ad215, e215, hx215_0⟩ := Kd.at_string (Kd.R_reads' HO214.out).2.2 a0_4 p215 q215
              cases e215
              replace p215 := eq_true p215
              replace q215 := eq_true q215
              refine hK.out _ _ ⟨(blk_cell BK194.out 0).trans rfl, (blk_cell BK194.out 1).trans rfl, (blk_cell BK194.out 2).trans rfl, (blk_cell BK194.out 3).trans rfl, (blk_cell BK194.out 4).trans rfl, (blk_cell BK194.out 5).trans rfl⟩ (fun hHeld => ?_)
              clear hK K
              refine nz ?_
              refine pz 5 110 ?_
              refine oz 6 111 fun K hK => ?_
              refine event_step rfl (by go_simp; exact ⟨rfl, rfl⟩) ?_
              refine hK.out _ _ ⟨(blk_cell BK194.out 0).trans rfl, (blk_cell BK194.out 1).trans rfl, (blk_cell BK194.out 2).trans rfl, (blk_cell BK194.out 3).trans rfl, (blk_cell BK194.out 4).trans rfl, (blk_cell BK194.out 5).trans rfl⟩ (fun hHeld => ?_)
              clear hK K
              refine nz ?_
              refine pz 7 112 ?_
              refine pz 8 2 ?_
              refine done_ (done_of HT_.out (by kernel_rfl)) ?_
              try go_wp2
              go_ret
              exact ⟨zR, zB⟩
             ·rw [if_neg c99] at H
              exact absurd H (by simp)
            ·rw [if_neg c98] at H
             exact absurd H (by simp)
           ·rw [if_neg c97] at H
            exact absurd H (by simp)
          ·rw [if_neg c95] at H
           exact absurd H (by simp)
         ·rw [if_neg c94] at H
          have c94b0 : (a0_0 == 19) = false := beq_eq_false_iff_ne.mpr c94
          have c94b1 : (a0_0 != 19) = true := bne_iff_ne.mpr c94
          obtain rfl := Option.some.inj H
          go_enter Tryd.func14, Tryd.ntmps14
          try go_wp2_with (first | ((with_reducible refine gate_dst (N := 1) rfl ?_); refine be 1 #[.int .i64 a0_0, .int .i64 a0_1, .int .i64 a0_2, .int .i64 a0_3, .int .i64 a0_4, .int .i64 a0_5] 23 ?_; intro gb194 hg w110 hbox hb; have BK194 := Aside0.mk hbox; have GW194 := zW hg; replace HB := zS hb; have GE194 := GW194; clear hb hbox hg))
          replace BK194 := Aside0.mk (blk_drew BK194.out)
          replace HB := Aside0.mk (below_drew1 HB.out)
          refine start_ (n := 6) (S := fun w' => w'.cell? ⟨gb194, 0, none⟩ = some (.int .i64 a0_0) ∧ w'.cell? ⟨gb194, 1, none⟩ = some (.int .i64 a0_1) ∧ w'.cell? ⟨gb194, 2, none⟩ = some (.int .i64 a0_2) ∧ w'.cell? ⟨gb194, 3, none⟩ = some (.int .i64 a0_3) ∧ w'.cell? ⟨gb194, 4, none⟩ = some (.int .i64 a0_4) ∧ w'.cell? ⟨gb194, 5, none⟩ = some (.int .i64 a0_5)) (ds := []) #[false, false, false, false, false, false] (by kernel_rfl) rfl rfl ⟨(blk_cell BK194.out 0).trans rfl, (blk_cell BK194.out 1).trans rfl, (blk_cell BK194.out 2).trans rfl, (blk_cell BK194.out 3).trans rfl, (blk_cell BK194.out 4).trans rfl, (blk_cell BK194.out 5).trans rfl⟩ (fun hHeld => ?_)
          generalize w110.drew = w111 at BK194 HB hHeld ⊢
          refine pz 1 6 ?_
          refine tz 2 7 ?_
          refine oz 0 5 fun K hK => ?_
          refine gz Tryd.func21 #[] ?_
          with_reducible refine (spec_l1Words.calls  t195 _ A2.out).mono ?_
          rintro e w112 ⟨v196, rfl, ho0, hb⟩
          refine ⟨_, rfl, ?_⟩
          have HO197 := Aside0.mk (Kd.R_lower ho0 (below_size zB))
          replace BK194 := zb BK194 hb rfl
          replace HB := zS hb
          (try clear hb)
          (try clear hb2)
          (try clear hk)
          (try clear hi)
          (try clear ho0)
          obtain ⟨Ao113, co113, eo113⟩ := Kd.R_slice HO197.out
          (first | subst eo113 | (injection eo113 with f1_ f2_ f3_; have f4_ := f1_.symm; have f5_ := f3_.symm; clear f1_ f2_ f3_; subst f4_; subst f5_))
          have p198 : 0 ≤ (a0_0 : Int) := of_decide_eq_true (by first | (with_reducible assumption) | assumption)
          have q198 : a0_0 < (t195.length : Int) := of_decide_eq_true (by first | (with_reducible assumption) | assumption)
          obtain ⟨ad198, e198, hx198_0⟩ := Kd.at_string (Kd.R_reads' HO197.out).2.2 a0_0 p198 q198
          cases e198
          replace p198 := eq_true p198
          replace q198 := eq_true q198
          refine hK.out _ _ ⟨(blk_cell BK194.out 0).trans rfl, (blk_cell BK194.out 1).trans rfl, (blk_cell BK194.out 2).trans rfl, (blk_cell BK194.out 3).trans rfl, (blk_cell BK194.out 4).trans rfl, (blk_cell BK194.out 5).trans rfl⟩ (fun hHeld => ?_)
          clear hK K
          refine nz ?_
          refine pz 3 8 ?_
          refine oz 4 9 fun K hK => ?_
          refine event_step rfl (by go_simp; exact ⟨rfl, rfl⟩) ?_
          refine hK.out _ _ ⟨(blk_cell BK194.out 0).trans rfl, (blk_cell BK194.out 1).trans rfl, (blk_cell BK194.out 2).trans rfl, (blk_cell BK194.out 3).trans rfl, (blk_cell BK194.out 4).trans rfl, (blk_cell BK194.out 5).trans rfl⟩ (fun hHeld => ?_)
          clear hK K
          refine nz ?_
          refine pz 5 3 ?_
          refine done_ (by kernel_rfl) ?_
          obtain ⟨hcz114_0, hcz114_1, hcz114_2, hcz114_3, hcz114_4, hcz114_5, hfz114_0, hfz114_1, hfz114_2, hfz114_3, hfz114_4, hfz114_5⟩ := zc6 BK194
          try go_wp2_with (first | ((with_reducible refine gate_callee (f := 22) rfl ?_); refine gl 12 Tryd.func22 #[.int .i64 a0_1] ?_; (with_reducible refine (spec_l1Dec.calls k a0_1 t199 _ A5.out).mono ?_); rintro e w115 ⟨rfl, hb⟩; refine ⟨_, rfl, ?_⟩; replace HO197 := Aside0.mk (Kd.R_below (by (with_reducible repeat (first | apply Kd.R_alloc | apply Kd.R_drewN | apply Kd.R_drew)); exact HO197.out) hb); replace BK194 := zb BK194 hb rfl; replace HB := zS hb; try clear hb; obtain ⟨hcz116_0, hcz116_1, hcz116_2, hcz116_3, hcz116_4, hcz116_5, hfz116_0, hfz116_1, hfz116_2, hfz116_3, hfz116_4, hfz116_5⟩ := zc6 BK194) | ((with_reducible refine gate_callee (f := 23) rfl ?_); refine gl 17 Tryd.func23 #[.int .i64 a0_0] ?_; (with_reducible refine (spec_l1Alu.calls a0_0 false _ A7.out).mono ?_); rintro e w' ⟨rfl, ⟨nd, rfl⟩⟩; refine ⟨_, rfl, ?_⟩) | ((with_reducible refine gate_callee (f := 24) rfl ?_); refine gl 31 Tryd.func24 #[.int .i64 a0_0] ?_; (with_reducible refine (spec_l1Jump.calls a0_0 false _ A21.out).mono ?_); rintro e w' ⟨rfl, ⟨nd, rfl⟩⟩; refine ⟨_, rfl, ?_⟩))
          go_ret
          exact ⟨zR, zB⟩
   ·rw [if_neg c6] at H
    exact absurd H (by simp)
  ·rw [if_neg c4] at H
   exact absurd H (by simp)
 ·rw [if_neg c3] at H
  exact absurd H (by simp)

end Go.Proofs.YtllmbooicobmkaaDoor.Q
