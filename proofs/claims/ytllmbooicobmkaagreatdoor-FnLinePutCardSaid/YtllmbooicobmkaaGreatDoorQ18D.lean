/- The machine's side of this seat's laws: Go functions as Lean functions, and their contracts. By a program of this work over the kit's print. -/
import Derived.Test.YtllmbooicobmkaaGreatDoorQ0
import Derived.Test.YtllmbooicobmkaaGreatDoorQ13
import Derived.Test.YtllmbooicobmkaaGreatDoorQ14
import Derived.Test.YtllmbooicobmkaaGreatDoorQ15
import Derived.Test.YtllmbooicobmkaaGreatDoorQ17
namespace Go.Proofs.YtllmbooicobmkaaGreatDoor.Q
open Go.RowKit Go.Proofs.YtllmbooicobmkaaGreatDoorW.PrintWords Go.Proofs.YtllmbooicobmkaaGreatDoorW.PrintLast Go.Proofs.YtllmbooicobmkaaGreatDoorW.PrintMore
attribute [local go_sem] max2_int min2_int max_two min_two max_three min_three max_four min_four Go.Proofs.YtllmbooicobmkaaGreatDoorN.not_i64 Go.Proofs.YtllmbooicobmkaaGreatDoorN.isSome_setCell
set_option linter.unusedVariables false
set_option linter.unusedSimpArgs false
mutual
def impl_readIns.j0 : Nat → List ByteArray → ByteArray → Int → Int → Bool → Option (Int × Int × Int × Int × Int × Int × Bool)
 | 0, _, _, _, _, _ => none
 | k + 1, x0, x4, x5, x6, x33 => if x33 = true then (if 0 ≤ (wrap64 (x6 - 1)) then (if (wrap64 (x6 - 1)) < (x4.size : Int) then (if (wrap64 (x6 - 1)) ≤ (x4.size : Int) then (impl_readIns.j1 k x0 (x4.extract 0 ((wrap64 (x6 - 1)) : Int).toNat) (((bt x4 (wrap64 (x6 - 1))) - 48) % 256)) else (none)) else (none)) else (none)) else (impl_readIns.j1 k x0 x4 x5)
def impl_readIns.j1 : Nat → List ByteArray → ByteArray → Int → Option (Int × Int × Int × Int × Int × Int × Bool)
 | 0, _, _, _ => none
 | k + 1, x0, x4, x5 => (slices_Index_string_string.f k (impl_opWords.L) x4).bind fun t563 => ((impl_kind_reckons.f (mx t563 0)).bind fun t565 => (if t565 = true then (impl_readIns.j2 k x0 (mx t563 0) (mx t563 0) (x0.length : Int) ((x0.length : Int) == 3) (mx t563 0) 0 (-1) 0 0 x5) else (impl_readIns.j2 k x0 (mx t563 0) (mx t563 0) (x0.length : Int) false (mx t563 0) 0 (-1) 0 0 x5)))
def impl_readIns.j2 : Nat → List ByteArray → Int → Int → Int → Bool → Int → Int → Int → Int → Int → Int → Option (Int × Int × Int × Int × Int × Int × Bool)
 | 0, _, _, _, _, _, _, _, _, _, _, _ => none
 | k + 1, x0, x8, x10, x11, x55, x565000, x565001, x565002, x565003, x565004, x565005 => if x55 = true then (impl_readIns.j3 k x0 x8 x10 x11 x55 x565000 x565001 x565002 x565003 x565004 x565005) else ((impl_kind_asks.f x10).bind fun t566 => (if t566 = true then (impl_readIns.j3 k x0 x8 x10 x11 (x11 == 4) x565000 x565001 x565002 x565003 x565004 x565005) else (impl_readIns.j3 k x0 x8 x10 x11 false x565000 x565001 x565002 x565003 x565004 x565005)))
def impl_readIns.j3 : Nat → List ByteArray → Int → Int → Int → Bool → Int → Int → Int → Int → Int → Int → Option (Int × Int × Int × Int × Int × Int × Bool)
 | 0, _, _, _, _, _, _, _, _, _, _, _ => none
 | k + 1, x0, x8, x10, x11, x55, x565000, x565001, x565002, x565003, x565004, x565005 => if x55 = true then (if 1 < (x0.length : Int) then ((impl_readReg.f (rdOf ByteArray.empty x0 1)).bind fun t568 => (if 2 < (x0.length : Int) then ((impl_Ins_setValue.f x565000 t568 x565002 x565003 x565004 x565005 (rdOf ByteArray.empty x0 2)).bind fun bt570 => ((impl_kind_asks.f x10).bind fun t576 => (if t576 = true then (if 3 < (x0.length : Int) then ((impl_number.f (rdOf ByteArray.empty x0 3)).bind fun t578 => (some (bt570.1, bt570.2.1, bt570.2.2.1, t578, bt570.2.2.2.2.1, bt570.2.2.2.2.2, true))) else (none)) else (some (bt570.1, bt570.2.1, bt570.2.2.1, bt570.2.2.2.1, bt570.2.2.2.2.1, bt570.2.2.2.2.2, true))))) else (none))) else (none)) else (if x8 = 16 then (impl_readIns.j4 k x0 x8 x11 (x11 == 2) x565000 x565001 x565002 x565003 x565004 x565005) else (impl_readIns.j4 k x0 x8 x11 false x565000 x565001 x565002 x565003 x565004 x565005))
def impl_readIns.j4 : Nat → List ByteArray → Int → Int → Bool → Int → Int → Int → Int → Int → Int → Option (Int × Int × Int × Int × Int × Int × Bool)
 | 0, _, _, _, _, _, _, _, _, _, _ => none
 | k + 1, x0, x8, x11, x84, x565000, x565001, x565002, x565003, x565004, x565005 => if x84 = true then (if 1 < (x0.length : Int) then ((impl_number.f (rdOf ByteArray.empty x0 1)).bind fun t580 => (some (x565000, x565001, x565002, t580, x565004, x565005, true))) else (none)) else (if x8 = 17 then (impl_readIns.j5 k x0 x8 x11 (x11 == 4) x565000 x565001 x565002 x565003 x565004 x565005) else (impl_readIns.j5 k x0 x8 x11 false x565000 x565001 x565002 x565003 x565004 x565005))
def impl_readIns.j5 : Nat → List ByteArray → Int → Int → Bool → Int → Int → Int → Int → Int → Int → Option (Int × Int × Int × Int × Int × Int × Bool)
 | 0, _, _, _, _, _, _, _, _, _, _ => none
 | k + 1, x0, x8, x11, x96, x565000, x565001, x565002, x565003, x565004, x565005 => if x96 = true then (if 1 < (x0.length : Int) then ((impl_readReg.f (rdOf ByteArray.empty x0 1)).bind fun t582 => (if 2 < (x0.length : Int) then ((impl_readReg.f (rdOf ByteArray.empty x0 2)).bind fun t584 => (if 3 < (x0.length : Int) then ((impl_number.f (rdOf ByteArray.empty x0 3)).bind fun t586 => (some (x565000, t582, t584, t586, x565004, x565005, true))) else (none))) else (none))) else (none)) else (if x8 = 18 then (impl_readIns.j6 k x0 x8 x11 (x11 == 4) x565000 x565001 x565002 x565003 x565004 x565005) else (impl_readIns.j6 k x0 x8 x11 false x565000 x565001 x565002 x565003 x565004 x565005))
def impl_readIns.j6 : Nat → List ByteArray → Int → Int → Bool → Int → Int → Int → Int → Int → Int → Option (Int × Int × Int × Int × Int × Int × Bool)
 | 0, _, _, _, _, _, _, _, _, _, _ => none
 | k + 1, x0, x8, x11, x118, x565000, x565001, x565002, x565003, x565004, x565005 => if x118 = true then (if 1 < (x0.length : Int) then ((impl_readReg.f (rdOf ByteArray.empty x0 1)).bind fun t588 => (if 2 < (x0.length : Int) then ((impl_number.f (rdOf ByteArray.empty x0 2)).bind fun t590 => (if 3 < (x0.length : Int) then ((impl_Ins_setValue.f x565000 t588 x565002 t590 x565004 x565005 (rdOf ByteArray.empty x0 3)).bind fun bt592 => (some (bt592.1, bt592.2.1, bt592.2.2.1, bt592.2.2.2.1, bt592.2.2.2.2.1, bt592.2.2.2.2.2, true))) else (none))) else (none))) else (none)) else (if x8 = 19 then (impl_readIns.j7 k x0 x8 x11 (x11 == 2) x565000 x565001 x565002 x565003 x565004 x565005) else (impl_readIns.j7 k x0 x8 x11 false x565000 x565001 x565002 x565003 x565004 x565005))
def impl_readIns.j7 : Nat → List ByteArray → Int → Int → Bool → Int → Int → Int → Int → Int → Int → Option (Int × Int × Int × Int × Int × Int × Bool)
 | 0, _, _, _, _, _, _, _, _, _, _ => none
 | k + 1, x0, x8, x11, x139, x565000, x565001, x565002, x565003, x565004, x565005 => if x139 = true then (if 1 < (x0.length : Int) then ((slices_Index_string_string.f k (impl_callWords.L) (rdOf ByteArray.empty x0 1)).bind fun t602 => (some (x565000, x565001, x565002, x565003, mx t602 0, x565005, true))) else (none)) else (if x8 = 20 then (if x11 = 1 then (some (x565000, x565001, x565002, x565003, x565004, x565005, true)) else (some (0, 0, 0, 0, 0, 0, false))) else (some (0, 0, 0, 0, 0, 0, false)))
end
def impl_readIns.f (k : Nat) (l0 : List ByteArray) : Option (Int × Int × Int × Int × Int × Int × Bool) := if 0 < (l0.length : Int) then (if ((rdOf ByteArray.empty l0 0).size : Int) > 1 then (if 0 ≤ (wrap64 (((rdOf ByteArray.empty l0 0).size : Int) - 1)) then (if (wrap64 (((rdOf ByteArray.empty l0 0).size : Int) - 1)) < ((rdOf ByteArray.empty l0 0).size : Int) then (if (bt (rdOf ByteArray.empty l0 0) (wrap64 (((rdOf ByteArray.empty l0 0).size : Int) - 1))) ≥ 48 then (impl_readIns.j0 k l0 (rdOf ByteArray.empty l0 0) 0 ((rdOf ByteArray.empty l0 0).size : Int) (decide ((bt (rdOf ByteArray.empty l0 0) (wrap64 (((rdOf ByteArray.empty l0 0).size : Int) - 1))) ≤ 57))) else (impl_readIns.j0 k l0 (rdOf ByteArray.empty l0 0) 0 ((rdOf ByteArray.empty l0 0).size : Int) false)) else (none)) else (none)) else (impl_readIns.j0 k l0 (rdOf ByteArray.empty l0 0) 0 ((rdOf ByteArray.empty l0 0).size : Int) false)) else (none)
def impl_readIns.T21 : Bool × List (List Nat × List Nat) := (true, [([], []), ([0], [0]), ([1], [1]), ([2], [2]), ([], []), ([4], [4]), ([5], [5]), ([6, 3], [6]), ([], []), ([8], [8]), ([9], [9]), ([10, 7], [10]), ([0, 1, 2, 3, 6, 7, 10, 11], []), ([12, 3, 11, 0, 1, 2, 3, 6, 7, 10, 11], [3, 12]), ([0, 1, 2, 3, 4, 5, 6, 7, 10, 11, 12, 13], []), ([14, 7, 13, 0, 1, 2, 3, 4, 5, 6, 7, 10, 11, 12, 13], [7, 14]), ([0, 1, 2, 3, 4, 5, 6, 7, 8, 9, 10, 11, 12, 13, 14, 15], []), ([16, 11, 15, 0, 1, 2, 3, 4, 5, 6, 7, 8, 9, 10, 11, 12, 13, 14, 15], [11, 16])])
def impl_readIns.B21 : List Nat := [0, 1, 3, 7, 0, 16, 48, 127, 0, 256, 768, 2047, 4095, 8191, 16383, 32767, 65535, 131071]
theorem impl_readIns.tab21 : rtab .any (opsOf Tryz.f15 21) = impl_readIns.T21 := by kernel_rfl
theorem impl_readIns.bits21 : waitsOk impl_readIns.T21.2 impl_readIns.B21 = true := by kernel_rfl
def impl_readIns.T23 : Bool × List (List Nat × List Nat) := (true, [([], []), ([0], [0]), ([1], [1]), ([2], [2]), ([], []), ([4], [4]), ([5], [5]), ([6, 3], [6]), ([0, 1, 2, 3, 6, 7], []), ([8, 3, 7, 0, 1, 2, 3, 6, 7], [3, 8]), ([0, 1, 2, 3, 4, 5, 6, 7, 8, 9], []), ([10, 7, 9, 0, 1, 2, 3, 4, 5, 6, 7, 8, 9], [7, 10])])
def impl_readIns.B23 : List Nat := [0, 1, 3, 7, 0, 16, 48, 127, 255, 511, 1023, 2047]
theorem impl_readIns.tab23 : rtab .any (opsOf Tryz.f15 23) = impl_readIns.T23 := by kernel_rfl
theorem impl_readIns.bits23 : waitsOk impl_readIns.T23.2 impl_readIns.B23 = true := by kernel_rfl
def impl_readIns.T27 : Bool × List (List Nat × List Nat) := (true, [([], []), ([], []), ([1], [1]), ([2], [2]), ([0, 3], [0, 3]), ([4], [4]), ([0, 1, 2, 3, 4, 5], []), ([6, 5, 4, 0, 1, 2, 3, 4, 5], [5, 6])])
def impl_readIns.B27 : List Nat := [0, 0, 2, 6, 15, 31, 63, 127]
theorem impl_readIns.tab27 : rtab .any (opsOf Tryz.f15 27) = impl_readIns.T27 := by kernel_rfl
theorem impl_readIns.bits27 : waitsOk impl_readIns.T27.2 impl_readIns.B27 = true := by kernel_rfl
end Go.Proofs.YtllmbooicobmkaaGreatDoor.Q
