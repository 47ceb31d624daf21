/- The machine's side of this seat's laws: Go functions as Lean functions, and their contracts. By a program of this work over the kit's print. -/
import Derived.Test.YtllmbooicobmkaaGreatDoorQ0
import Derived.Test.YtllmbooicobmkaaGreatDoorQ13
import Derived.Test.YtllmbooicobmkaaGreatDoorQ14
import Derived.Test.YtllmbooicobmkaaGreatDoorQ15
namespace Go.Proofs.YtllmbooicobmkaaGreatDoor.Q
open Go.RowKit Go.Proofs.YtllmbooicobmkaaGreatDoorW.PrintWords Go.Proofs.YtllmbooicobmkaaGreatDoorW.PrintLast Go.Proofs.YtllmbooicobmkaaGreatDoorW.PrintMore
attribute [local go_sem] max2_int min2_int max_two min_two max_three min_three max_four min_four Go.Proofs.YtllmbooicobmkaaGreatDoorN.not_i64 Go.Proofs.YtllmbooicobmkaaGreatDoorN.isSome_setCell
set_option linter.unusedVariables false
set_option linter.unusedSimpArgs false
theorem dz16 {p : Prop} [Decidable p] (h : decide p = true := by first | (with_reducible assumption) | assumption) : p := of_decide_eq_true h
def impl_Ins_line.f (a0_0 a0_1 : Int) (a0_2 a0_3 : Int) (a0_4 a0_5 : Int) (a1 : ByteArray) : Option (ByteArray) := if 0 ≤ a0_0 then (if a0_0 < 21 then ((impl_kind_reckons.f a0_0).bind fun t528 => (if t528 = true then (if (rdOf ByteArray.empty impl_opWords.L a0_0).size + 1 ≤ 9223372036854775807 then ((impl_reg.f a0_1).bind fun t529 => (if ((rdOf ByteArray.empty impl_opWords.L a0_0) ++ (⟨#[32]⟩ : ByteArray)).size + t529.size ≤ 9223372036854775807 then (if (((rdOf ByteArray.empty impl_opWords.L a0_0) ++ (⟨#[32]⟩ : ByteArray)) ++ t529).size + 1 ≤ 9223372036854775807 then ((impl_Ins_value.f a0_0 a0_1 a0_2 a0_3 a0_4 a0_5).bind fun t530 => (if ((((rdOf ByteArray.empty impl_opWords.L a0_0) ++ (⟨#[32]⟩ : ByteArray)) ++ t529) ++ (⟨#[32]⟩ : ByteArray)).size + t530.size ≤ 9223372036854775807 then (some (((((rdOf ByteArray.empty impl_opWords.L a0_0) ++ (⟨#[32]⟩ : ByteArray)) ++ t529) ++ (⟨#[32]⟩ : ByteArray)) ++ t530)) else (none))) else (none)) else (none))) else (none)) else ((impl_kind_asks.f a0_0).bind fun t531 => (if t531 = true then (if (rdOf ByteArray.empty impl_opWords.L a0_0).size + 1 ≤ 9223372036854775807 then ((impl_reg.f a0_1).bind fun t532 => (if ((rdOf ByteArray.empty impl_opWords.L a0_0) ++ (⟨#[32]⟩ : ByteArray)).size + t532.size ≤ 9223372036854775807 then (if (((rdOf ByteArray.empty impl_opWords.L a0_0) ++ (⟨#[32]⟩ : ByteArray)) ++ t532).size + 1 ≤ 9223372036854775807 then ((impl_Ins_value.f a0_0 a0_1 a0_2 a0_3 a0_4 a0_5).bind fun t533 => (if ((((rdOf ByteArray.empty impl_opWords.L a0_0) ++ (⟨#[32]⟩ : ByteArray)) ++ t532) ++ (⟨#[32]⟩ : ByteArray)).size + t533.size ≤ 9223372036854775807 then (if (((((rdOf ByteArray.empty impl_opWords.L a0_0) ++ (⟨#[32]⟩ : ByteArray)) ++ t532) ++ (⟨#[32]⟩ : ByteArray)) ++ t533).size + 1 ≤ 9223372036854775807 then (if ((((((rdOf ByteArray.empty impl_opWords.L a0_0) ++ (⟨#[32]⟩ : ByteArray)) ++ t532) ++ (⟨#[32]⟩ : ByteArray)) ++ t533) ++ (⟨#[32]⟩ : ByteArray)).size + a1.size ≤ 9223372036854775807 then (some (((((((rdOf ByteArray.empty impl_opWords.L a0_0) ++ (⟨#[32]⟩ : ByteArray)) ++ t532) ++ (⟨#[32]⟩ : ByteArray)) ++ t533) ++ (⟨#[32]⟩ : ByteArray)) ++ a1)) else (none)) else (none)) else (none))) else (none)) else (none))) else (none)) else (if a0_0 = 16 then (if (rdOf ByteArray.empty impl_opWords.L a0_0).size + 1 ≤ 9223372036854775807 then (if ((rdOf ByteArray.empty impl_opWords.L a0_0) ++ (⟨#[32]⟩ : ByteArray)).size + a1.size ≤ 9223372036854775807 then (some (((rdOf ByteArray.empty impl_opWords.L a0_0) ++ (⟨#[32]⟩ : ByteArray)) ++ a1)) else (none)) else (none)) else (if a0_0 = 17 then ((strconv_Itoa.f a0_5).bind fun t534 => (if (rdOf ByteArray.empty impl_opWords.L a0_0).size + t534.size ≤ 9223372036854775807 then (if ((rdOf ByteArray.empty impl_opWords.L a0_0) ++ t534).size + 1 ≤ 9223372036854775807 then ((impl_reg.f a0_1).bind fun t535 => (if (((rdOf ByteArray.empty impl_opWords.L a0_0) ++ t534) ++ (⟨#[32]⟩ : ByteArray)).size + t535.size ≤ 9223372036854775807 then (if ((((rdOf ByteArray.empty impl_opWords.L a0_0) ++ t534) ++ (⟨#[32]⟩ : ByteArray)) ++ t535).size + 1 ≤ 9223372036854775807 then ((impl_reg.f a0_2).bind fun t536 => (if (((((rdOf ByteArray.empty impl_opWords.L a0_0) ++ t534) ++ (⟨#[32]⟩ : ByteArray)) ++ t535) ++ (⟨#[32]⟩ : ByteArray)).size + t536.size ≤ 9223372036854775807 then (if ((((((rdOf ByteArray.empty impl_opWords.L a0_0) ++ t534) ++ (⟨#[32]⟩ : ByteArray)) ++ t535) ++ (⟨#[32]⟩ : ByteArray)) ++ t536).size + 1 ≤ 9223372036854775807 then (if (((((((rdOf ByteArray.empty impl_opWords.L a0_0) ++ t534) ++ (⟨#[32]⟩ : ByteArray)) ++ t535) ++ (⟨#[32]⟩ : ByteArray)) ++ t536) ++ (⟨#[32]⟩ : ByteArray)).size + a1.size ≤ 9223372036854775807 then (some ((((((((rdOf ByteArray.empty impl_opWords.L a0_0) ++ t534) ++ (⟨#[32]⟩ : ByteArray)) ++ t535) ++ (⟨#[32]⟩ : ByteArray)) ++ t536) ++ (⟨#[32]⟩ : ByteArray)) ++ a1)) else (none)) else (none)) else (none))) else (none)) else (none))) else (none)) else (none))) else (if a0_0 = 18 then ((strconv_Itoa.f a0_5).bind fun t537 => (if (rdOf ByteArray.empty impl_opWords.L a0_0).size + t537.size ≤ 9223372036854775807 then (if ((rdOf ByteArray.empty impl_opWords.L a0_0) ++ t537).size + 1 ≤ 9223372036854775807 then ((impl_reg.f a0_1).bind fun t538 => (if (((rdOf ByteArray.empty impl_opWords.L a0_0) ++ t537) ++ (⟨#[32]⟩ : ByteArray)).size + t538.size ≤ 9223372036854775807 then (if ((((rdOf ByteArray.empty impl_opWords.L a0_0) ++ t537) ++ (⟨#[32]⟩ : ByteArray)) ++ t538).size + 1 ≤ 9223372036854775807 then (if (((((rdOf ByteArray.empty impl_opWords.L a0_0) ++ t537) ++ (⟨#[32]⟩ : ByteArray)) ++ t538) ++ (⟨#[32]⟩ : ByteArray)).size + a1.size ≤ 9223372036854775807 then (if ((((((rdOf ByteArray.empty impl_opWords.L a0_0) ++ t537) ++ (⟨#[32]⟩ : ByteArray)) ++ t538) ++ (⟨#[32]⟩ : ByteArray)) ++ a1).size + 1 ≤ 9223372036854775807 then ((impl_Ins_value.f a0_0 a0_1 a0_2 a0_3 a0_4 a0_5).bind fun t539 => (if (((((((rdOf ByteArray.empty impl_opWords.L a0_0) ++ t537) ++ (⟨#[32]⟩ : ByteArray)) ++ t538) ++ (⟨#[32]⟩ : ByteArray)) ++ a1) ++ (⟨#[32]⟩ : ByteArray)).size + t539.size ≤ 9223372036854775807 then (some ((((((((rdOf ByteArray.empty impl_opWords.L a0_0) ++ t537) ++ (⟨#[32]⟩ : ByteArray)) ++ t538) ++ (⟨#[32]⟩ : ByteArray)) ++ a1) ++ (⟨#[32]⟩ : ByteArray)) ++ t539)) else (none))) else (none)) else (none)) else (none)) else (none))) else (none)) else (none))) else (if a0_0 = 19 then (if (rdOf ByteArray.empty impl_opWords.L a0_0).size + 1 ≤ 9223372036854775807 then (if 0 ≤ a0_4 then (if a0_4 < 7 then (if ((rdOf ByteArray.empty impl_opWords.L a0_0) ++ (⟨#[32]⟩ : ByteArray)).size + (rdOf ByteArray.empty impl_callWords.L a0_4).size ≤ 9223372036854775807 then (some (((rdOf ByteArray.empty impl_opWords.L a0_0) ++ (⟨#[32]⟩ : ByteArray)) ++ (rdOf ByteArray.empty impl_callWords.L a0_4))) else (none)) else (none)) else (none)) else (none)) else (some (rdOf ByteArray.empty impl_opWords.L a0_0)))))))))) else (none)) else (none)
def impl_Ins_line.T4 : Bool × List (List Nat × List Nat) := (true, [([], []), ([0], [0]), ([], []), ([2], [2]), ([3], [3]), ([1, 4], [1, 4]), ([5], [5]), ([], []), ([7, 4], [7]), ([6, 8], [6, 8]), ([9, 8, 0, 1, 2, 3, 4, 5, 6, 7, 8, 9], [9])])
def impl_Ins_line.B4 : List Nat := [0, 1, 0, 4, 12, 31, 63, 0, 156, 511, 1023]
theorem impl_Ins_line.tab4 : rtab .any (opsOf Tryz.f11 4) = impl_Ins_line.T4 := by kernel_rfl
theorem impl_Ins_line.bits4 : waitsOk impl_Ins_line.T4.2 impl_Ins_line.B4 = true := by kernel_rfl
def impl_Ins_line.T6 : Bool × List (List Nat × List Nat) := (true, [([], []), ([0], [0]), ([], []), ([2], [2]), ([3], [3]), ([1, 4], [1, 4]), ([5], [5]), ([], []), ([7, 4], [7]), ([6, 8], [6, 8]), ([9], [9]), ([], []), ([10, 11], [10, 11]), ([12, 8, 0, 1, 2, 3, 4, 5, 6, 7, 8, 9, 10, 11, 12], [12])])
def impl_Ins_line.B6 : List Nat := [0, 1, 0, 4, 12, 31, 63, 0, 156, 511, 1023, 0, 4095, 8191]
theorem impl_Ins_line.tab6 : rtab .any (opsOf Tryz.f11 6) = impl_Ins_line.T6 := by kernel_rfl
theorem impl_Ins_line.bits6 : waitsOk impl_Ins_line.T6.2 impl_Ins_line.B6 = true := by kernel_rfl
def impl_Ins_line.T10 : Bool × List (List Nat × List Nat) := (true, [([], []), ([], []), ([1], [1]), ([2], [2]), ([0, 3], [0, 3]), ([4], [4]), ([], []), ([6], [6]), ([7, 3], [7]), ([5, 8], [5, 8]), ([9], [9]), ([], []), ([11], [11]), ([12, 8], [12]), ([10, 13], [10, 13]), ([14], [14]), ([], []), ([15, 16], [15, 16]), ([17, 13, 0, 1, 2, 3, 4, 5, 6, 7, 8, 9, 10, 11, 12, 13, 14, 15, 16, 17], [17])])
def impl_Ins_line.B10 : List Nat := [0, 0, 2, 6, 15, 31, 0, 64, 206, 511, 1023, 0, 2048, 6606, 16383, 32767, 0, 131071, 262143]
theorem impl_Ins_line.tab10 : rtab .any (opsOf Tryz.f11 10) = impl_Ins_line.T10 := by kernel_rfl
theorem impl_Ins_line.bits10 : waitsOk impl_Ins_line.T10.2 impl_Ins_line.B10 = true := by kernel_rfl
def impl_Ins_line.T12 : Bool × List (List Nat × List Nat) := (true, [([], []), ([], []), ([1], [1]), ([2], [2]), ([0, 3], [0, 3]), ([4], [4]), ([], []), ([6], [6]), ([7, 3], [7]), ([5, 8], [5, 8]), ([9], [9]), ([], []), ([10, 11], [10, 11]), ([12], [12]), ([], []), ([14, 8], [14]), ([13, 15], [13, 15]), ([16, 15, 0, 1, 2, 3, 4, 5, 6, 7, 8, 9, 10, 11, 12, 13, 14, 15, 16], [16])])
def impl_Ins_line.B12 : List Nat := [0, 0, 2, 6, 15, 31, 0, 64, 206, 511, 1023, 0, 4095, 8191, 0, 16846, 65535, 131071]
theorem impl_Ins_line.tab12 : rtab .any (opsOf Tryz.f11 12) = impl_Ins_line.T12 := by kernel_rfl
theorem impl_Ins_line.bits12 : waitsOk impl_Ins_line.T12.2 impl_Ins_line.B12 = true := by kernel_rfl
def impl_Ins_line.T14 : Bool × List (List Nat × List Nat) := (true, [([], []), ([0], [0]), ([], []), ([], []), ([3], [3]), ([2, 4], [2, 4]), ([1, 5], [1, 5]), ([6, 2, 0, 1, 2, 3, 4, 5, 6], [6])])
def impl_Ins_line.B14 : List Nat := [0, 1, 0, 0, 8, 28, 63, 127]
theorem impl_Ins_line.tab14 : rtab .any (opsOf Tryz.f11 14) = impl_Ins_line.T14 := by kernel_rfl
theorem impl_Ins_line.bits14 : waitsOk impl_Ins_line.T14.2 impl_Ins_line.B14 = true := by kernel_rfl
set_option maxHeartbeats 8000000 in
set_option maxRecDepth 100000 in
theorem impl_Ins_line.calls (a0_0 a0_1 : Int) (a0_2 a0_3 : Int) (a0_4 a0_5 : Int) (a1 r : ByteArray) (w : World) (h : impl_Ins_line.f a0_0 a0_1 a0_2 a0_3 a0_4 a0_5 a1 = some r) (zHT : Tryz.Tb w := by first | exact zHT | exact Tryz.tb_below zHT zB | exact Tryz.te_tb zHT | exact Tryz.tb_below (Tryz.te_tb zHT) zB) :
  Calls Tryz.prog 11 #[.agg #[.int .i64 a0_0, .int .i64 a0_1, .int .i64 a0_2, .int .i64 a0_3, .int .i64 a0_4, .int .i64 a0_5], .string a1] w fun e w' => e = .returned (.string r) ∧ Below w.heap.size w w' := by
 have hu24 := Tryz.underlying24
 have HB := Aside0.mk (Below.refl w.heap.size w)
 have H := h
 clear h
 unfold impl_Ins_line.f at H
 have AC_impl_opWords := Aside0.mk (show impl_opWords.f = some impl_opWords.L from rfl)
 by_cases c3 : 0 ≤ a0_0
 ·rw [if_pos c3] at H
  have c3b0 : decide (0 ≤ a0_0) = true := decide_eq_true c3
  clear c3
  by_cases c4 : a0_0 < 21
  ·rw [if_pos c4] at H
   have c4b0 : decide (a0_0 < 21) = true := decide_eq_true c4
   clear c4
   replace H := oA H
   obtain ⟨t528, A6, H⟩ := H
   try dsimp only at H
   by_cases c7 : t528 = true
   ·subst c7
    rw [if_pos rfl] at H
    by_cases c8 : (rdOf ByteArray.empty impl_opWords.L a0_0).size + 1 ≤ 9223372036854775807
    ·rw [if_pos c8] at H
     have c8b0 := eq_true c8
     have c8b1 : decide ((rdOf ByteArray.empty impl_opWords.L a0_0).size + 1 ≤ 9223372036854775807) = true := decide_eq_true c8
     try have c8b2 : (9223372036854775807 < (rdOf ByteArray.empty impl_opWords.L a0_0).size + 1) = False := eq_false (Nat.not_lt.2 c8)
     try (have c8b3 := c8; simp only [ByteArray.size_append, show ∀ a_ : UInt8, (ByteArray.mk #[a_]).size = 1 from fun _ => rfl] at c8b3; have c8b4 := eq_false (Nat.not_lt.2 c8b3); clear c8b3)
     replace H := oA H
     obtain ⟨t529, A9, H⟩ := H
     try dsimp only at H
     by_cases c10 : ((rdOf ByteArray.empty impl_opWords.L a0_0) ++ (⟨#[32]⟩ : ByteArray)).size + t529.size ≤ 9223372036854775807
     ·rw [if_pos c10] at H
      have c10b0 := eq_true c10
      have c10b1 : decide (((rdOf ByteArray.empty impl_opWords.L a0_0) ++ (⟨#[32]⟩ : ByteArray)).size + t529.size ≤ 9223372036854775807) = true := decide_eq_true c10
      try have c10b2 : (9223372036854775807 < ((rdOf ByteArray.empty impl_opWords.L a0_0) ++ (⟨#[32]⟩ : ByteArray)).size + t529.size) = False := eq_false (Nat.not_lt.2 c10)
      try (have c10b3 := c10; simp only [ByteArray.size_append, show ∀ a_ : UInt8, (ByteArray.mk #[a_]).size = 1 from fun _ => rfl] at c10b3; have c10b4 := eq_false (Nat.not_lt.2 c10b3); clear c10b3)
      by_cases c11 : (((rdOf ByteArray.empty impl_opWords.L a0_0) ++ (⟨#[32]⟩ : ByteArray)) ++ t529).size + 1 ≤ 9223372036854775807
      ·rw [if_pos c11] at H
       have c11b0 := eq_true c11
       have c11b1 : decide ((((rdOf ByteArray.empty impl_opWords.L a0_0) ++ (⟨#[32]⟩ : ByteArray)) ++ t529).size + 1 ≤ 9223372036854775807) = true := decide_eq_true c11
       try have c11b2 : (9223372036854775807 < (((rdOf ByteArray.empty impl_opWords.L a0_0) ++ (⟨#[32]⟩ : ByteArray)) ++ t529).size + 1) = False := eq_false (Nat.not_lt.2 c11)
       try (have c11b3 := c11; simp only [ByteArray.size_append, show ∀ a_ : UInt8, (ByteArray.mk #[a_]).size = 1 from fun _ => rfl] at c11b3; have c11b4 := eq_false (Nat.not_lt.2 c11b3); clear c11b3)
       replace H := oA H
       obtain ⟨t530, A12, H⟩ := H
       try dsimp only at H
       by_cases c13 : ((((rdOf ByteArray.empty impl_opWords.L a0_0) ++ (⟨#[32]⟩ : ByteArray)) ++ t529) ++ (⟨#[32]⟩ : ByteArray)).size + t530.size ≤ 9223372036854775807
       ·rw [if_pos c13] at H
        have c13b0 := eq_true c13
        have c13b1 : decide (((((rdOf ByteArray.empty impl_opWords.L a0_0) ++ (⟨#[32]⟩ : ByteArray)) ++ t529) ++ (⟨#[32]⟩ : ByteArray)).size + t530.size ≤ 9223372036854775807) = true := decide_eq_true c13
        try have c13b2 : (9223372036854775807 < ((((rdOf ByteArray.empty impl_opWords.L a0_0) ++ (⟨#[32]⟩ : ByteArray)) ++ t529) ++ (⟨#[32]⟩ : ByteArray)).size + t530.size) = False := eq_false (Nat.not_lt.2 c13)
        try (have c13b3 := c13; simp only [ByteArray.size_append, show ∀ a_ : UInt8, (ByteArray.mk #[a_]).size = 1 from fun _ => rfl] at c13b3; have c13b4 := eq_false (Nat.not_lt.2 c13b3); clear c13b3)
        obtain rfl := Option.some.inj H
        go_enter Tryz.func11, Tryz.ntmps11
        try go_wp2_with (first | ((with_reducible refine gate_dst (N := 2) rfl ?_); refine be 2 #[.int .i64 a0_0, .int .i64 a0_1, .int .i64 a0_2, .int .i64 a0_3, .int .i64 a0_4, .int .i64 a0_5] 24 ?_; intro gb527 hg w14 hbox hb; have BK527 := Aside0.mk hbox; have GW527 := zW hg; replace HB := zS hb; have GE527 := GW527; clear hb hbox hg))
        replace BK527 := Aside0.mk (blk_drew BK527.out)
        replace HB := Aside0.mk (below_drew1 HB.out)
        refine start_ (n := 5) (S := fun w' => w'.cell? ⟨gb527, 0, none⟩ = some (.int .i64 a0_0) ∧ w'.cell? ⟨gb527, 1, none⟩ = some (.int .i64 a0_1) ∧ w'.cell? ⟨gb527, 2, none⟩ = some (.int .i64 a0_2) ∧ w'.cell? ⟨gb527, 3, none⟩ = some (.int .i64 a0_3) ∧ w'.cell? ⟨gb527, 4, none⟩ = some (.int .i64 a0_4) ∧ w'.cell? ⟨gb527, 5, none⟩ = some (.int .i64 a0_5)) (ds := []) #[false, false, false, false, false] (by kernel_rfl) rfl rfl (bc6 BK527) (fun hHeld => ?_)
        generalize w14.drew = w15 at BK527 HB hHeld ⊢
        refine pz 1 8 ?_
        refine tz 2 9 ?_
        refine oz 0 7 fun K hK => ?_
        refine gz Tryz.func25 #[] ?_
        with_reducible refine (impl_opWords.calls  impl_opWords.L _ AC_impl_opWords.out).mono ?_
        rintro e w16 ⟨rfl, hb⟩
        refine ⟨_, rfl, ?_⟩
        replace BK527 := zb BK527 hb rfl
        replace HB := zS hb
        try clear hb
        have p5 : 0 ≤ (a0_0 : Int) := dz16
        have q5 : (a0_0 : Int) < 21 := dz16
        have hx5 := impl_opWords.idx a0_0 p5 q5
        clear p5 q5
        refine hK.out _ _ (bc6 BK527) (fun hHeld => ?_)
        clear hK K
        refine nz ?_
        refine tz 3 10 ?_
        refine pz 4 5 ?_
        refine done_ (by kernel_rfl) ?_
        obtain ⟨_, _, _, _, _, _, _, _, _, _, _, _⟩ := zc6 BK527
        try go_wp2_with (first | ((with_reducible refine gate_callee (f := 20) rfl ?_); refine gl 15 Tryz.func20 #[.int .i64 a0_0] ?_; (with_reducible refine (impl_kind_reckons.calls a0_0 true _ A6.out).mono ?_); rintro e w' ⟨rfl, ⟨nd, rfl⟩⟩; refine ⟨_, rfl, ?_⟩))
        (try (rw [drewN_self w16]; generalize hq_ : World.drewN w16 _ = w16; have n0_ : Aside0 (w16.heap[gb527]? = some (.cells #[.int .i64 a0_0, .int .i64 a0_1, .int .i64 a0_2, .int .i64 a0_3, .int .i64 a0_4, .int .i64 a0_5] 24 (0, 0))) := ⟨by rw [← hq_]; exact (by exact bq BK527.out)⟩; have n1_ : Aside0 (Below w.heap.size w w16) := ⟨by rw [← hq_]; exact zB⟩; clear BK527 HB hq_; have BK527 := n0_; have HB := n1_; clear n0_ n1_))
        replace BK527 := Aside0.mk (blk_drew BK527.out)
        replace HB := Aside0.mk (below_drew1 HB.out)
        refine start_ (n := 11) (S := fun w' => w'.cell? ⟨gb527, 0, none⟩ = some (.int .i64 a0_0) ∧ w'.cell? ⟨gb527, 1, none⟩ = some (.int .i64 a0_1) ∧ w'.cell? ⟨gb527, 2, none⟩ = some (.int .i64 a0_2) ∧ w'.cell? ⟨gb527, 3, none⟩ = some (.int .i64 a0_3) ∧ w'.cell? ⟨gb527, 4, none⟩ = some (.int .i64 a0_4) ∧ w'.cell? ⟨gb527, 5, none⟩ = some (.int .i64 a0_5)) (ds := []) #[false, false, false, false, false, false, false, false, false, false, false] (by kernel_rfl) rfl rfl (bc6 BK527) (fun hHeld => ?_); refine with_tabW impl_Ins_line.tab4 impl_Ins_line.bits4 (fun HT_ HW_ => ?_)
        generalize w16.drew = w18 at BK527 HB hHeld ⊢
        refine pz 0 16 ?_
        refine pz 1 17 ?_
        refine pz 2 18 ?_
        refine tz 3 19 ?_
        refine tz 7 23 ?_
        refine oz 4 20 fun K hK => ?_
        refine gz Tryz.func26 #[.int .i64 a0_1] ?_
        with_reducible refine (impl_reg.calls a0_1 t529 _ A9.out).mono ?_
        rintro e w19 ⟨rfl, hb⟩
        refine ⟨_, rfl, ?_⟩
        replace BK527 := zb BK527 hb rfl
        replace HB := zS hb
        try clear hb
        refine hK.out _ _ (bc6 BK527) (fun hHeld => ?_)
        clear hK K
        refine nz ?_
        refine pz 5 21 ?_
        refine pz 6 22 ?_
        refine oz 8 24 fun K hK => ?_
        refine gz Tryz.func27 #[.agg #[.int .i64 a0_0, .int .i64 a0_1, .int .i64 a0_2, .int .i64 a0_3, .int .i64 a0_4, .int .i64 a0_5]] ?_
        with_reducible refine (impl_Ins_value.calls a0_0 a0_1 a0_2 a0_3 a0_4 a0_5 t530 _ A12.out).mono ?_
        rintro e w20 ⟨rfl, hb⟩
        refine ⟨_, rfl, ?_⟩
        replace BK527 := zb BK527 hb rfl
        replace HB := zS hb
        try clear hb
        refine hK.out _ _ (bc6 BK527) (fun hHeld => ?_)
        clear hK K
        refine nz ?_
        refine pz 9 25 ?_
        refine pz 10 4 ?_
        refine done_ (done_of HT_.out (by kernel_rfl)) ?_
        try go_wp2
        go_ret
        exact ⟨zR, zB⟩
       ·exact absurd H (nN c13)
      ·exact absurd H (nN c11)
     ·exact absurd H (nN c10)
    ·exact absurd H (nN c8)
   ·replace c7 := Bool.eq_false_iff.mpr c7
    subst c7
    rw [if_neg (show ¬ (false = true) by decide)] at H
    replace H := oA H
    obtain ⟨t531, A21, H⟩ := H
    try dsimp only at H
    by_cases c22 : t531 = true
    ·subst c22
     rw [if_pos rfl] at H
     by_cases c23 : (rdOf ByteArray.empty impl_opWords.L a0_0).size + 1 ≤ 9223372036854775807
     ·rw [if_pos c23] at H
      have c23b0 := eq_true c23
      have c23b1 : decide ((rdOf ByteArray.empty impl_opWords.L a0_0).size + 1 ≤ 9223372036854775807) = true := decide_eq_true c23
      try have c23b2 : (9223372036854775807 < (rdOf ByteArray.empty impl_opWords.L a0_0).size + 1) = False := eq_false (Nat.not_lt.2 c23)
      try (have c23b3 := c23; simp only [ByteArray.size_append, show ∀ a_ : UInt8, (ByteArray.mk #[a_]).size = 1 from fun _ => rfl] at c23b3; have c23b4 := eq_false (Nat.not_lt.2 c23b3); clear c23b3)
      replace H := oA H
      obtain ⟨t532, A24, H⟩ := H
      try dsimp only at H
      by_cases c25 : ((rdOf ByteArray.empty impl_opWords.L a0_0) ++ (⟨#[32]⟩ : ByteArray)).size + t532.size ≤ 9223372036854775807
      ·rw [if_pos c25] at H
       have c25b0 := eq_true c25
       have c25b1 : decide (((rdOf ByteArray.empty impl_opWords.L a0_0) ++ (⟨#[32]⟩ : ByteArray)).size + t532.size ≤ 9223372036854775807) = true := decide_eq_true c25
       try have c25b2 : (9223372036854775807 < ((rdOf ByteArray.empty impl_opWords.L a0_0) ++ (⟨#[32]⟩ : ByteArray)).size + t532.size) = False := eq_false (Nat.not_lt.2 c25)
       try (have c25b3 := c25; simp only [ByteArray.size_append, show ∀ a_ : UInt8, (ByteArray.mk #[a_]).size = 1 from fun _ => rfl] at c25b3; have c25b4 := eq_false (Nat.not_lt.2 c25b3); clear c25b3)
       by_cases c26 : (((rdOf ByteArray.empty impl_opWords.L a0_0) ++ (⟨#[32]⟩ : ByteArray)) ++ t532).size + 1 ≤ 9223372036854775807
       ·rw [if_pos c26] at H
        have c26b0 := eq_true c26
        have c26b1 : decide ((((rdOf ByteArray.empty impl_opWords.L a0_0) ++ (⟨#[32]⟩ : ByteArray)) ++ t532).size + 1 ≤ 9223372036854775807) = true := decide_eq_true c26
        try have c26b2 : (9223372036854775807 < (((rdOf ByteArray.empty impl_opWords.L a0_0) ++ (⟨#[32]⟩ : ByteArray)) ++ t532).size + 1) = False := eq_false (Nat.not_lt.2 c26)
        try (have c26b3 := c26; simp only [ByteArray.size_append, show ∀ a_ : UInt8, (ByteArray.mk #[a_]).size = 1 from fun _ => rfl] at c26b3; have c26b4 := eq_false (Nat.not_lt.2 c26b3); clear c26b3)
        replace H := oA H
        obtain ⟨t533, A27, H⟩ := H
        try dsimp only at H
        by_cases c28 : ((((rdOf ByteArray.empty impl_opWords.L a0_0) ++ (⟨#[32]⟩ : ByteArray)) ++ t532) ++ (⟨#[32]⟩ : ByteArray)).size + t533.size ≤ 9223372036854775807
        ·rw [if_pos c28] at H
         have c28b0 := eq_true c28
         have c28b1 : decide (((((rdOf ByteArray.empty impl_opWords.L a0_0) ++ (⟨#[32]⟩ : ByteArray)) ++ t532) ++ (⟨#[32]⟩ : ByteArray)).size + t533.size ≤ 9223372036854775807) = true := decide_eq_true c28
         try have c28b2 : (9223372036854775807 < ((((rdOf ByteArray.empty impl_opWords.L a0_0) ++ (⟨#[32]⟩ : ByteArray)) ++ t532) ++ (⟨#[32]⟩ : ByteArray)).size + t533.size) = False := eq_false (Nat.not_lt.2 c28)
         try (have c28b3 := c28; simp only [ByteArray.size_append, show ∀ a_ : UInt8, (ByteArray.mk #[a_]).size = 1 from fun _ => rfl] at c28b3; have c28b4 := eq_false (Nat.not_lt.2 c28b3); clear c28b3)
         by_cases c29 : (((((rdOf ByteArray.empty impl_opWords.L a0_0) ++ (⟨#[32]⟩ : ByteArray)) ++ t532) ++ (⟨#[32]⟩ : ByteArray)) ++ t533).size + 1 ≤ 9223372036854775807
         ·rw [if_pos c29] at H
          have c29b0 := eq_true c29
          have c29b1 : decide ((((((rdOf ByteArray.empty impl_opWords.L a0_0) ++ (⟨#[32]⟩ : ByteArray)) ++ t532) ++ (⟨#[32]⟩ : ByteArray)) ++ t533).size + 1 ≤ 9223372036854775807) = true := decide_eq_true c29
          try have c29b2 : (9223372036854775807 < (((((rdOf ByteArray.empty impl_opWords.L a0_0) ++ (⟨#[32]⟩ : ByteArray)) ++ t532) ++ (⟨#[32]⟩ : ByteArray)) ++ t533).size + 1) = False := eq_false (Nat.not_lt.2 c29)
          try (have c29b3 := c29; simp only [ByteArray.size_append, show ∀ a_ : UInt8, (ByteArray.mk #[a_]).size = 1 from fun _ => rfl] at c29b3; have c29b4 := eq_false (Nat.not_lt.2 c29b3); clear c29b3)
          by_cases c30 : ((((((rdOf ByteArray.empty impl_opWords.L a0_0) ++ (⟨#[32]⟩ : ByteArray)) ++ t532) ++ (⟨#[32]⟩ : ByteArray)) ++ t533) ++ (⟨#[32]⟩ : ByteArray)).size + a1.size ≤ 9223372036854775807
          ·rw [if_pos c30] at H
           have c30b0 := eq_true c30
           have c30b1 : decide (((((((rdOf ByteArray.empty impl_opWords.L a0_0) ++ (⟨#[32]⟩ : ByteArray)) ++ t532) ++ (⟨#[32]⟩ : ByteArray)) ++ t533) ++ (⟨#[32]⟩ : ByteArray)).size + a1.size ≤ 9223372036854775807) = true := decide_eq_true c30
           try have c30b2 : (9223372036854775807 < ((((((rdOf ByteArray.empty impl_opWords.L a0_0) ++ (⟨#[32]⟩ : ByteArray)) ++ t532) ++ (⟨#[32]⟩ : ByteArray)) ++ t533) ++ (⟨#[32]⟩ : ByteArray)).size + a1.size) = False := eq_false (Nat.not_lt.2 c30)
           try (have c30b3 := c30; simp only [ByteArray.size_append, show ∀ a_ : UInt8, (ByteArray.mk #[a_]).size = 1 from fun _ => rfl] at c30b3; have c30b4 := eq_false (Nat.not_lt.2 c30b3); clear c30b3)
           obtain rfl := Option.some.inj H
           go_enter Tryz.func11, Tryz.ntmps11
           try go_wp2_with (first | ((with_reducible refine gate_dst (N := 2) rfl ?_); refine be 2 #[.int .i64 a0_0, .int .i64 a0_1, .int .i64 a0_2, .int .i64 a0_3, .int .i64 a0_4, .int .i64 a0_5] 24 ?_; intro gb527 hg w31 hbox hb; have BK527 := Aside0.mk hbox; have GW527 := zW hg; replace HB := zS hb; have GE527 := GW527; clear hb hbox hg))
           replace BK527 := Aside0.mk (blk_drew BK527.out)
           replace HB := Aside0.mk (below_drew1 HB.out)
           refine start_ (n := 5) (S := fun w' => w'.cell? ⟨gb527, 0, none⟩ = some (.int .i64 a0_0) ∧ w'.cell? ⟨gb527, 1, none⟩ = some (.int .i64 a0_1) ∧ w'.cell? ⟨gb527, 2, none⟩ = some (.int .i64 a0_2) ∧ w'.cell? ⟨gb527, 3, none⟩ = some (.int .i64 a0_3) ∧ w'.cell? ⟨gb527, 4, none⟩ = some (.int .i64 a0_4) ∧ w'.cell? ⟨gb527, 5, none⟩ = some (.int .i64 a0_5)) (ds := []) #[false, false, false, false, false] (by kernel_rfl) rfl rfl (bc6 BK527) (fun hHeld => ?_)
           generalize w31.drew = w32 at BK527 HB hHeld ⊢
           refine pz 1 8 ?_
           refine tz 2 9 ?_
           refine oz 0 7 fun K hK => ?_
           refine gz Tryz.func25 #[] ?_
           with_reducible refine (impl_opWords.calls  impl_opWords.L _ AC_impl_opWords.out).mono ?_
           rintro e w33 ⟨rfl, hb⟩
           refine ⟨_, rfl, ?_⟩
           replace BK527 := zb BK527 hb rfl
           replace HB := zS hb
           try clear hb
           have p5 : 0 ≤ (a0_0 : Int) := dz16
           have q5 : (a0_0 : Int) < 21 := dz16
           have hx5 := impl_opWords.idx a0_0 p5 q5
           clear p5 q5
           refine hK.out _ _ (bc6 BK527) (fun hHeld => ?_)
           clear hK K
           refine nz ?_
           refine tz 3 10 ?_
           refine pz 4 5 ?_
           refine done_ (by kernel_rfl) ?_
           obtain ⟨_, _, _, _, _, _, _, _, _, _, _, _⟩ := zc6 BK527
           try go_wp2_with (first | ((with_reducible refine gate_callee (f := 20) rfl ?_); refine gl 15 Tryz.func20 #[.int .i64 a0_0] ?_; (with_reducible refine (impl_kind_reckons.calls a0_0 false _ A6.out).mono ?_); rintro e w' ⟨rfl, ⟨nd, rfl⟩⟩; refine ⟨_, rfl, ?_⟩) | ((with_reducible refine gate_callee (f := 23) rfl ?_); refine gl 28 Tryz.func23 #[.int .i64 a0_0] ?_; (with_reducible refine (impl_kind_asks.calls a0_0 true _ A21.out).mono ?_); rintro e w' ⟨rfl, ⟨nd, rfl⟩⟩; refine ⟨_, rfl, ?_⟩))
           (try (rw [drewN_self w33]; generalize hq_ : World.drewN w33 _ = w33; have n0_ : Aside0 (w33.heap[gb527]? = some (.cells #[.int .i64 a0_0, .int .i64 a0_1, .int .i64 a0_2, .int .i64 a0_3, .int .i64 a0_4, .int .i64 a0_5] 24 (0, 0))) := ⟨by rw [← hq_]; exact (by exact bq BK527.out)⟩; have n1_ : Aside0 (Below w.heap.size w w33) := ⟨by rw [← hq_]; exact zB⟩; clear BK527 HB hq_; have BK527 := n0_; have HB := n1_; clear n0_ n1_))
           replace BK527 := Aside0.mk (blk_drew BK527.out)
           replace HB := Aside0.mk (below_drew1 HB.out)
           refine start_ (n := 14) (S := fun w' => w'.cell? ⟨gb527, 0, none⟩ = some (.int .i64 a0_0) ∧ w'.cell? ⟨gb527, 1, none⟩ = some (.int .i64 a0_1) ∧ w'.cell? ⟨gb527, 2, none⟩ = some (.int .i64 a0_2) ∧ w'.cell? ⟨gb527, 3, none⟩ = some (.int .i64 a0_3) ∧ w'.cell? ⟨gb527, 4, none⟩ = some (.int .i64 a0_4) ∧ w'.cell? ⟨gb527, 5, none⟩ = some (.int .i64 a0_5)) (ds := []) #[false, false, false, false, false, false, false, false, false, false, false, false, false, false] (by kernel_rfl) rfl rfl (bc6 BK527) (fun hHeld => ?_); refine with_tabW impl_Ins_line.tab6 impl_Ins_line.bits6 (fun HT_ HW_ => ?_)
           generalize w33.drew = w35 at BK527 HB hHeld ⊢
           refine pz 0 29 ?_
           refine pz 1 30 ?_
           refine pz 2 31 ?_
           refine pz 11 40 ?_
           refine tz 3 32 ?_
           refine tz 7 36 ?_
           refine oz 4 33 fun K hK => ?_
           refine gz Tryz.func26 #[.int .i64 a0_1] ?_
           with_reducible refine (impl_reg.calls a0_1 t532 _ A24.out).mono ?_
           rintro e w36 ⟨rfl, hb⟩
           refine ⟨_, rfl, ?_⟩
           replace BK527 := zb BK527 hb rfl
           replace HB := zS hb
           try clear hb
           refine hK.out _ _ (bc6 BK527) (fun hHeld => ?_)
           clear hK K
           refine nz ?_
           refine pz 5 34 ?_
           refine pz 6 35 ?_
           refine oz 8 37 fun K hK => ?_
           refine gz Tryz.func27 #[.agg #[.int .i64 a0_0, .int .i64 a0_1, .int .i64 a0_2, .int .i64 a0_3, .int .i64 a0_4, .int .i64 a0_5]] ?_
           with_reducible refine (impl_Ins_value.calls a0_0 a0_1 a0_2 a0_3 a0_4 a0_5 t533 _ A27.out).mono ?_
           rintro e w37 ⟨rfl, hb⟩
           refine ⟨_, rfl, ?_⟩
           replace BK527 := zb BK527 hb rfl
           replace HB := zS hb
           try clear hb
           refine hK.out _ _ (bc6 BK527) (fun hHeld => ?_)
           clear hK K
           refine nz ?_
           refine pz 9 38 ?_
           refine pz 10 39 ?_
           refine pz 12 41 ?_
           refine pz 13 4 ?_
           refine done_ (done_of HT_.out (by kernel_rfl)) ?_
           try go_wp2
           go_ret
           exact ⟨zR, zB⟩
          ·exact absurd H (nN c30)
         ·exact absurd H (nN c29)
        ·exact absurd H (nN c28)
       ·exact absurd H (nN c26)
      ·exact absurd H (nN c25)
     ·exact absurd H (nN c23)
    ·replace c22 := Bool.eq_false_iff.mpr c22
     subst c22
     rw [if_neg (show ¬ (false = true) by decide)] at H
     by_cases c38 : a0_0 = 16
     ·rw [if_pos c38] at H
      have c38b0 : (a0_0 == 16) = true := beq_iff_eq.mpr c38
      have c38b1 : (a0_0 != 16) = false := bne_eq_false_iff_eq.mpr c38
      clear c38
      by_cases c39 : (rdOf ByteArray.empty impl_opWords.L a0_0).size + 1 ≤ 9223372036854775807
      ·rw [if_pos c39] at H
       have c39b0 := eq_true c39
       have c39b1 : decide ((rdOf ByteArray.empty impl_opWords.L a0_0).size + 1 ≤ 9223372036854775807) = true := decide_eq_true c39
       try have c39b2 : (9223372036854775807 < (rdOf ByteArray.empty impl_opWords.L a0_0).size + 1) = False := eq_false (Nat.not_lt.2 c39)
       try (have c39b3 := c39; simp only [ByteArray.size_append, show ∀ a_ : UInt8, (ByteArray.mk #[a_]).size = 1 from fun _ => rfl] at c39b3; have c39b4 := eq_false (Nat.not_lt.2 c39b3); clear c39b3)
       by_cases c40 : ((rdOf ByteArray.empty impl_opWords.L a0_0) ++ (⟨#[32]⟩ : ByteArray)).size + a1.size ≤ 9223372036854775807
       ·rw [if_pos c40] at H
        have c40b0 := eq_true c40
        have c40b1 : decide (((rdOf ByteArray.empty impl_opWords.L a0_0) ++ (⟨#[32]⟩ : ByteArray)).size + a1.size ≤ 9223372036854775807) = true := decide_eq_true c40
        try have c40b2 : (9223372036854775807 < ((rdOf ByteArray.empty impl_opWords.L a0_0) ++ (⟨#[32]⟩ : ByteArray)).size + a1.size) = False := eq_false (Nat.not_lt.2 c40)
        try (have c40b3 := c40; simp only [ByteArray.size_append, show ∀ a_ : UInt8, (ByteArray.mk #[a_]).size = 1 from fun _ => rfl] at c40b3; have c40b4 := eq_false (Nat.not_lt.2 c40b3); clear c40b3)
        obtain rfl := Option.some.inj H
        go_enter Tryz.func11, Tryz.ntmps11
        try go_wp2_with (first | ((with_reducible refine gate_dst (N := 2) rfl ?_); refine be 2 #[.int .i64 a0_0, .int .i64 a0_1, .int .i64 a0_2, .int .i64 a0_3, .int .i64 a0_4, .int .i64 a0_5] 24 ?_; intro gb527 hg w41 hbox hb; have BK527 := Aside0.mk hbox; have GW527 := zW hg; replace HB := zS hb; have GE527 := GW527; clear hb hbox hg))
        replace BK527 := Aside0.mk (blk_drew BK527.out)
        replace HB := Aside0.mk (below_drew1 HB.out)
        refine start_ (n := 5) (S := fun w' => w'.cell? ⟨gb527, 0, none⟩ = some (.int .i64 a0_0) ∧ w'.cell? ⟨gb527, 1, none⟩ = some (.int .i64 a0_1) ∧ w'.cell? ⟨gb527, 2, none⟩ = some (.int .i64 a0_2) ∧ w'.cell? ⟨gb527, 3, none⟩ = some (.int .i64 a0_3) ∧ w'.cell? ⟨gb527, 4, none⟩ = some (.int .i64 a0_4) ∧ w'.cell? ⟨gb527, 5, none⟩ = some (.int .i64 a0_5)) (ds := []) #[false, false, false, false, false] (by kernel_rfl) rfl rfl (bc6 BK527) (fun hHeld => ?_)
        generalize w41.drew = w42 at BK527 HB hHeld ⊢
        refine pz 1 8 ?_
        refine tz 2 9 ?_
        refine oz 0 7 fun K hK => ?_
        refine gz Tryz.func25 #[] ?_
        with_reducible refine (impl_opWords.calls  impl_opWords.L _ AC_impl_opWords.out).mono ?_
        rintro e w43 ⟨rfl, hb⟩
        refine ⟨_, rfl, ?_⟩
        replace BK527 := zb BK527 hb rfl
        replace HB := zS hb
        try clear hb
        have p5 : 0 ≤ (a0_0 : Int) := dz16
        have q5 : (a0_0 : Int) < 21 := dz16
        have hx5 := impl_opWords.idx a0_0 p5 q5
        clear p5 q5
        refine hK.out _ _ (bc6 BK527) (fun hHeld => ?_)
        clear hK K
        refine nz ?_
        refine tz 3 10 ?_
        refine pz 4 5 ?_
        refine done_ (by kernel_rfl) ?_
        obtain ⟨_, _, _, _, _, _, _, _, _, _, _, _⟩ := zc6 BK527
        try go_wp2_with (first | ((with_reducible refine gate_callee (f := 20) rfl ?_); refine gl 15 Tryz.func20 #[.int .i64 a0_0] ?_; (with_reducible refine (impl_kind_reckons.calls a0_0 false _ A6.out).mono ?_); rintro e w' ⟨rfl, ⟨nd, rfl⟩⟩; refine ⟨_, rfl, ?_⟩) | ((with_reducible refine gate_callee (f := 23) rfl ?_); refine gl 28 Tryz.func23 #[.int .i64 a0_0] ?_; (with_reducible refine (impl_kind_asks.calls a0_0 false _ A21.out).mono ?_); rintro e w' ⟨rfl, ⟨nd, rfl⟩⟩; refine ⟨_, rfl, ?_⟩))
        go_ret
        exact ⟨zR, zB⟩
       ·exact absurd H (nN c40)
      ·exact absurd H (nN c39)
     ·rw [if_neg c38] at H
      have c38b0 : (a0_0 == 16) = false := beq_eq_false_iff_ne.mpr c38
      have c38b1 : (a0_0 != 16) = true := bne_iff_ne.mpr c38
      by_cases c45 : a0_0 = 17
      ·rw [if_pos c45] at H
       have c45b0 : (a0_0 == 17) = true := beq_iff_eq.mpr c45
       have c45b1 : (a0_0 != 17) = false := bne_eq_false_iff_eq.mpr c45
       clear c45
       replace H := oA H
       obtain ⟨t534, A46, H⟩ := H
       try dsimp only at H
       by_cases c47 : (rdOf ByteArray.empty impl_opWords.L a0_0).size + t534.size ≤ 9223372036854775807
       ·rw [if_pos c47] at H
        have c47b0 := eq_true c47
        have c47b1 : decide ((rdOf ByteArray.empty impl_opWords.L a0_0).size + t534.size ≤ 9223372036854775807) = true := decide_eq_true c47
        try have c47b2 : (9223372036854775807 < (rdOf ByteArray.empty impl_opWords.L a0_0).size + t534.size) = False := eq_false (Nat.not_lt.2 c47)
        try (have c47b3 := c47; simp only [ByteArray.size_append, show ∀ a_ : UInt8, (ByteArray.mk #[a_]).size = 1 from fun _ => rfl] at c47b3; have c47b4 := eq_false (Nat.not_lt.2 c47b3); clear c47b3)
        by_cases c48 : ((rdOf ByteArray.empty impl_opWords.L a0_0) ++ t534).size + 1 ≤ 9223372036854775807
        ·rw [if_pos c48] at H
         have c48b0 := eq_true c48
         have c48b1 : decide (((rdOf ByteArray.empty impl_opWords.L a0_0) ++ t534).size + 1 ≤ 9223372036854775807) = true := decide_eq_true c48
         try have c48b2 : (9223372036854775807 < ((rdOf ByteArray.empty impl_opWords.L a0_0) ++ t534).size + 1) = False := eq_false (Nat.not_lt.2 c48)
         try (have c48b3 := c48; simp only [ByteArray.size_append, show ∀ a_ : UInt8, (ByteArray.mk #[a_]).size = 1 from fun _ => rfl] at c48b3; have c48b4 := eq_false (Nat.not_lt.2 c48b3); clear c48b3)
         replace H := oA H
         obtain ⟨t535, A49, H⟩ := H
         try dsimp only at H
         by_cases c50 : (((rdOf ByteArray.empty impl_opWords.L a0_0) ++ t534) ++ (⟨#[32]⟩ : ByteArray)).size + t535.size ≤ 9223372036854775807
         ·rw [if_pos c50] at H
          have c50b0 := eq_true c50
          have c50b1 : decide ((((rdOf ByteArray.empty impl_opWords.L a0_0) ++ t534) ++ (⟨#[32]⟩ : ByteArray)).size + t535.size ≤ 9223372036854775807) = true := decide_eq_true c50
          try have c50b2 : (9223372036854775807 < (((rdOf ByteArray.empty impl_opWords.L a0_0) ++ t534) ++ (⟨#[32]⟩ : ByteArray)).size + t535.size) = False := eq_false (Nat.not_lt.2 c50)
          try (have c50b3 := c50; simp only [ByteArray.size_append, show ∀ a_ : UInt8, (ByteArray.mk #[a_]).size = 1 from fun _ => rfl] at c50b3; have c50b4 := eq_false (Nat.not_lt.2 c50b3); clear c50b3)
          by_cases c51 : ((((rdOf ByteArray.empty impl_opWords.L a0_0) ++ t534) ++ (⟨#[32]⟩ : ByteArray)) ++ t535).size + 1 ≤ 9223372036854775807
          ·rw [if_pos c51] at H
           have c51b0 := eq_true c51
           have c51b1 : decide (((((rdOf ByteArray.empty impl_opWords.L a0_0) ++ t534) ++ (⟨#[32]⟩ : ByteArray)) ++ t535).size + 1 ≤ 9223372036854775807) = true := decide_eq_true c51
           try have c51b2 : (9223372036854775807 < ((((rdOf ByteArray.empty impl_opWords.L a0_0) ++ t534) ++ (⟨#[32]⟩ : ByteArray)) ++ t535).size + 1) = False := eq_false (Nat.not_lt.2 c51)
           try (have c51b3 := c51; simp only [ByteArray.size_append, show ∀ a_ : UInt8, (ByteArray.mk #[a_]).size = 1 from fun _ => rfl] at c51b3; have c51b4 := eq_false (Nat.not_lt.2 c51b3); clear c51b3)
           replace H := oA H
           obtain ⟨t536, A52, H⟩ := H
           try dsimp only at H
           by_cases c53 : (((((rdOf ByteArray.empty impl_opWords.L a0_0) ++ t534) ++ (⟨#[32]⟩ : ByteArray)) ++ t535) ++ (⟨#[32]⟩ : ByteArray)).size + t536.size ≤ 9223372036854775807
           ·rw [if_pos c53] at H
            have c53b0 := eq_true c53
            have c53b1 : decide ((((((rdOf ByteArray.empty impl_opWords.L a0_0) ++ t534) ++ (⟨#[32]⟩ : ByteArray)) ++ t535) ++ (⟨#[32]⟩ : ByteArray)).size + t536.size ≤ 9223372036854775807) = true := decide_eq_true c53
            try have c53b2 : (9223372036854775807 < (((((rdOf ByteArray.empty impl_opWords.L a0_0) ++ t534) ++ (⟨#[32]⟩ : ByteArray)) ++ t535) ++ (⟨#[32]⟩ : ByteArray)).size + t536.size) = False := eq_false (Nat.not_lt.2 c53)
            try (have c53b3 := c53; simp only [ByteArray.size_append, show ∀ a_ : UInt8, (ByteArray.mk #[a_]).size = 1 from fun _ => rfl] at c53b3; have c53b4 := eq_false (Nat.not_lt.2 c53b3); clear c53b3)
            by_cases c54 : ((((((rdOf ByteArray.empty impl_opWords.L a0_0) ++ t534) ++ (⟨#[32]⟩ : ByteArray)) ++ t535) ++ (⟨#[32]⟩ : ByteArray)) ++ t536).size + 1 ≤ 9223372036854775807
            ·rw [if_pos c54] at H
             have c54b0 := eq_true c54
             have c54b1 : decide (((((((rdOf ByteArray.empty impl_opWords.L a0_0) ++ t534) ++ (⟨#[32]⟩ : ByteArray)) ++ t535) ++ (⟨#[32]⟩ : ByteArray)) ++ t536).size + 1 ≤ 9223372036854775807) = true := decide_eq_true c54
             try have c54b2 : (9223372036854775807 < ((((((rdOf ByteArray.empty impl_opWords.L a0_0) ++ t534) ++ (⟨#[32]⟩ : ByteArray)) ++ t535) ++ (⟨#[32]⟩ : ByteArray)) ++ t536).size + 1) = False := eq_false (Nat.not_lt.2 c54)
             try (have c54b3 := c54; simp only [ByteArray.size_append, show ∀ a_ : UInt8, (ByteArray.mk #[a_]).size = 1 from fun _ => rfl] at c54b3; have c54b4 := eq_false (Nat.not_lt.2 c54b3); clear c54b3)
             by_cases c55 : (((((((rdOf ByteArray.empty impl_opWords.L a0_0) ++ t534) ++ (⟨#[32]⟩ : ByteArray)) ++ t535) ++ (⟨#[32]⟩ : ByteArray)) ++ t536) ++ (⟨#[32]⟩ : ByteArray)).size + a1.size ≤ 9223372036854775807
             ·rw [if_pos c55] at H
              have c55b0 := eq_true c55
              have c55b1 : decide ((((((((rdOf ByteArray.empty impl_opWords.L a0_0) ++ t534) ++ (⟨#[32]⟩ : ByteArray)) ++ t535) ++ (⟨#[32]⟩ : ByteArray)) ++ t536) ++ (⟨#[32]⟩ : ByteArray)).size + a1.size ≤ 9223372036854775807) = true := decide_eq_true c55
              try have c55b2 : (9223372036854775807 < (((((((rdOf ByteArray.empty impl_opWords.L a0_0) ++ t534) ++ (⟨#[32]⟩ : ByteArray)) ++ t535) ++ (⟨#[32]⟩ : ByteArray)) ++ t536) ++ (⟨#[32]⟩ : ByteArray)).size + a1.size) = False := eq_false (Nat.not_lt.2 c55)
              try (have c55b3 := c55; simp only [ByteArray.size_append, show ∀ a_ : UInt8, (ByteArray.mk #[a_]).size = 1 from fun _ => rfl] at c55b3; have c55b4 := eq_false (Nat.not_lt.2 c55b3); clear c55b3)
              obtain rfl := Option.some.inj H
              go_enter Tryz.func11, Tryz.ntmps11
              try go_wp2_with (first | ((with_reducible refine gate_dst (N := 2) rfl ?_); refine be 2 #[.int .i64 a0_0, .int .i64 a0_1, .int .i64 a0_2, .int .i64 a0_3, .int .i64 a0_4, .int .i64 a0_5] 24 ?_; intro gb527 hg w56 hbox hb; have BK527 := Aside0.mk hbox; have GW527 := zW hg; replace HB := zS hb; have GE527 := GW527; clear hb hbox hg))
              replace BK527 := Aside0.mk (blk_drew BK527.out)
              replace HB := Aside0.mk (below_drew1 HB.out)
              refine start_ (n := 5) (S := fun w' => w'.cell? ⟨gb527, 0, none⟩ = some (.int .i64 a0_0) ∧ w'.cell? ⟨gb527, 1, none⟩ = some (.int .i64 a0_1) ∧ w'.cell? ⟨gb527, 2, none⟩ = some (.int .i64 a0_2) ∧ w'.cell? ⟨gb527, 3, none⟩ = some (.int .i64 a0_3) ∧ w'.cell? ⟨gb527, 4, none⟩ = some (.int .i64 a0_4) ∧ w'.cell? ⟨gb527, 5, none⟩ = some (.int .i64 a0_5)) (ds := []) #[false, false, false, false, false] (by kernel_rfl) rfl rfl (bc6 BK527) (fun hHeld => ?_)
              generalize w56.drew = w57 at BK527 HB hHeld ⊢
              refine pz 1 8 ?_
              refine tz 2 9 ?_
              refine oz 0 7 fun K hK => ?_
              refine gz Tryz.func25 #[] ?_
              with_reducible refine (impl_opWords.calls  impl_opWords.L _ AC_impl_opWords.out).mono ?_
              rintro e w58 ⟨rfl, hb⟩
              refine ⟨_, rfl, ?_⟩
              replace BK527 := zb BK527 hb rfl
              replace HB := zS hb
              try clear hb
              have p5 : 0 ≤ (a0_0 : Int) := dz16
              have q5 : (a0_0 : Int) < 21 := dz16
              have hx5 := impl_opWords.idx a0_0 p5 q5
              clear p5 q5
              refine hK.out _ _ (bc6 BK527) (fun hHeld => ?_)
              clear hK K
              refine nz ?_
              refine tz 3 10 ?_
              refine pz 4 5 ?_
              refine done_ (by kernel_rfl) ?_
              obtain ⟨_, _, _, _, _, _, _, _, _, _, _, _⟩ := zc6 BK527
              try go_wp2_with (first | ((with_reducible refine gate_callee (f := 20) rfl ?_); refine gl 15 Tryz.func20 #[.int .i64 a0_0] ?_; (with_reducible refine (impl_kind_reckons.calls a0_0 false _ A6.out).mono ?_); rintro e w' ⟨rfl, ⟨nd, rfl⟩⟩; refine ⟨_, rfl, ?_⟩) | ((with_reducible refine gate_callee (f := 23) rfl ?_); refine gl 28 Tryz.func23 #[.int .i64 a0_0] ?_; (with_reducible refine (impl_kind_asks.calls a0_0 false _ A21.out).mono ?_); rintro e w' ⟨rfl, ⟨nd, rfl⟩⟩; refine ⟨_, rfl, ?_⟩))
              (try (rw [drewN_self w58]; generalize hq_ : World.drewN w58 _ = w58; have n0_ : Aside0 (w58.heap[gb527]? = some (.cells #[.int .i64 a0_0, .int .i64 a0_1, .int .i64 a0_2, .int .i64 a0_3, .int .i64 a0_4, .int .i64 a0_5] 24 (0, 0))) := ⟨by rw [← hq_]; exact (by exact bq BK527.out)⟩; have n1_ : Aside0 (Below w.heap.size w w58) := ⟨by rw [← hq_]; exact zB⟩; clear BK527 HB hq_; have BK527 := n0_; have HB := n1_; clear n0_ n1_))
              replace BK527 := Aside0.mk (blk_drew BK527.out)
              replace HB := Aside0.mk (below_drew1 HB.out)
              refine start_ (n := 19) (S := fun w' => w'.cell? ⟨gb527, 0, none⟩ = some (.int .i64 a0_0) ∧ w'.cell? ⟨gb527, 1, none⟩ = some (.int .i64 a0_1) ∧ w'.cell? ⟨gb527, 2, none⟩ = some (.int .i64 a0_2) ∧ w'.cell? ⟨gb527, 3, none⟩ = some (.int .i64 a0_3) ∧ w'.cell? ⟨gb527, 4, none⟩ = some (.int .i64 a0_4) ∧ w'.cell? ⟨gb527, 5, none⟩ = some (.int .i64 a0_5)) (ds := []) #[false, false, false, false, false, false, false, false, false, false, false, false, false, false, false, false, false, false, false] (by kernel_rfl) rfl rfl (bc6 BK527) (fun hHeld => ?_); refine with_tabW impl_Ins_line.tab10 impl_Ins_line.bits10 (fun HT_ HW_ => ?_)
              generalize w58.drew = w60 at BK527 HB hHeld ⊢
              refine pz 0 54 ?_
              refine pz 1 55 ?_
              refine pz 6 60 ?_
              refine pz 11 65 ?_
              refine pz 16 70 ?_
              refine tz 2 56 ?_
              refine tz 7 61 ?_
              refine tz 12 66 ?_
              refine oz 3 57 fun K hK => ?_
              refine gz Tryz.func12 #[.int .i64 a0_5] ?_
              with_reducible refine (strconv_Itoa.calls a0_5 t534 _ A46.out).mono ?_
              rintro e w61 ⟨rfl, hb⟩
              refine ⟨_, rfl, ?_⟩
              replace BK527 := zb BK527 hb rfl
              replace HB := zS hb
              try clear hb
              refine hK.out _ _ (bc6 BK527) (fun hHeld => ?_)
              clear hK K
              refine nz ?_
              refine pz 4 58 ?_
              refine pz 5 59 ?_
              refine oz 8 62 fun K hK => ?_
              refine gz Tryz.func26 #[.int .i64 a0_1] ?_
              with_reducible refine (impl_reg.calls a0_1 t535 _ A49.out).mono ?_
              rintro e w62 ⟨rfl, hb⟩
              refine ⟨_, rfl, ?_⟩
              replace BK527 := zb BK527 hb rfl
              replace HB := zS hb
              try clear hb
              refine hK.out _ _ (bc6 BK527) (fun hHeld => ?_)
              clear hK K
              refine nz ?_
              refine pz 9 63 ?_
              refine pz 10 64 ?_
              refine oz 13 67 fun K hK => ?_
              refine gz Tryz.func26 #[.int .i64 a0_2] ?_
              with_reducible refine (impl_reg.calls a0_2 t536 _ A52.out).mono ?_
              rintro e w63 ⟨rfl, hb⟩
              refine ⟨_, rfl, ?_⟩
              replace BK527 := zb BK527 hb rfl
              replace HB := zS hb
              try clear hb
              refine hK.out _ _ (bc6 BK527) (fun hHeld => ?_)
              clear hK K
              refine nz ?_
              refine pz 14 68 ?_
              refine pz 15 69 ?_
              refine pz 17 71 ?_
              refine pz 18 4 ?_
              refine done_ (done_of HT_.out (by kernel_rfl)) ?_
              try go_wp2
              go_ret
              exact ⟨zR, zB⟩
             ·exact absurd H (nN c55)
            ·exact absurd H (nN c54)
           ·exact absurd H (nN c53)
          ·exact absurd H (nN c51)
         ·exact absurd H (nN c50)
        ·exact absurd H (nN c48)
       ·exact absurd H (nN c47)
      ·rw [if_neg c45] at H
       have c45b0 : (a0_0 == 17) = false := beq_eq_false_iff_ne.mpr c45
       have c45b1 : (a0_0 != 17) = true := bne_iff_ne.mpr c45
       by_cases c64 : a0_0 = 18
       ·rw [if_pos c64] at H
        have c64b0 : (a0_0 == 18) = true := beq_iff_eq.mpr c64
        have c64b1 : (a0_0 != 18) = false := bne_eq_false_iff_eq.mpr c64
        clear c64
        replace H := oA H
        obtain ⟨t537, A65, H⟩ := H
        try dsimp only at H
        by_cases c66 : (rdOf ByteArray.empty impl_opWords.L a0_0).size + t537.size ≤ 9223372036854775807
        ·rw [if_pos c66] at H
         have c66b0 := eq_true c66
         have c66b1 : decide ((rdOf ByteArray.empty impl_opWords.L a0_0).size + t537.size ≤ 9223372036854775807) = true := decide_eq_true c66
         try have c66b2 : (9223372036854775807 < (rdOf ByteArray.empty impl_opWords.L a0_0).size + t537.size) = False := eq_false (Nat.not_lt.2 c66)
         try (have c66b3 := c66; simp only [ByteArray.size_append, show ∀ a_ : UInt8, (ByteArray.mk #[a_]).size = 1 from fun _ => rfl] at c66b3; have c66b4 := eq_false (Nat.not_lt.2 c66b3); clear c66b3)
         by_cases c67 : ((rdOf ByteArray.empty impl_opWords.L a0_0) ++ t537).size + 1 ≤ 9223372036854775807
         ·rw [if_pos c67] at H
          have c67b0 := eq_true c67
          have c67b1 : decide (((rdOf ByteArray.empty impl_opWords.L a0_0) ++ t537).size + 1 ≤ 9223372036854775807) = true := decide_eq_true c67
          try have c67b2 : (9223372036854775807 < ((rdOf ByteArray.empty impl_opWords.L a0_0) ++ t537).size + 1) = False := eq_false (Nat.not_lt.2 c67)
          try (have c67b3 := c67; simp only [ByteArray.size_append, show ∀ a_ : UInt8, (ByteArray.mk #[a_]).size = 1 from fun _ => rfl] at c67b3; have c67b4 := eq_false (Nat.not_lt.2 c67b3); clear c67b3)
          replace H := oA H
          obtain ⟨t538, A68, H⟩ := H
          try dsimp only at H
          by_cases c69 : (((rdOf ByteArray.empty impl_opWords.L a0_0) ++ t537) ++ (⟨#[32]⟩ : ByteArray)).size + t538.size ≤ 9223372036854775807
          ·rw [if_pos c69] at H
           have c69b0 := eq_true c69
           have c69b1 : decide ((((rdOf ByteArray.empty impl_opWords.L a0_0) ++ t537) ++ (⟨#[32]⟩ : ByteArray)).size + t538.size ≤ 9223372036854775807) = true := decide_eq_true c69
           try have c69b2 : (9223372036854775807 < (((rdOf ByteArray.empty impl_opWords.L a0_0) ++ t537) ++ (⟨#[32]⟩ : ByteArray)).size + t538.size) = False := eq_false (Nat.not_lt.2 c69)
           try (have c69b3 := c69; simp only [ByteArray.size_append, show ∀ a_ : UInt8, (ByteArray.mk #[a_]).size = 1 from fun _ => rfl] at c69b3; have c69b4 := eq_false (Nat.not_lt.2 c69b3); clear c69b3)
           by_cases c70 : ((((rdOf ByteArray.empty impl_opWords.L a0_0) ++ t537) ++ (⟨#[32]⟩ : ByteArray)) ++ t538).size + 1 ≤ 9223372036854775807
           ·rw [if_pos c70] at H
            have c70b0 := eq_true c70
            have c70b1 : decide (((((rdOf ByteArray.empty impl_opWords.L a0_0) ++ t537) ++ (⟨#[32]⟩ : ByteArray)) ++ t538).size + 1 ≤ 9223372036854775807) = true := decide_eq_true c70
            try have c70b2 : (9223372036854775807 < ((((rdOf ByteArray.empty impl_opWords.L a0_0) ++ t537) ++ (⟨#[32]⟩ : ByteArray)) ++ t538).size + 1) = False := eq_false (Nat.not_lt.2 c70)
            try (have c70b3 := c70; simp only [ByteArray.size_append, show ∀ a_ : UInt8, (ByteArray.mk #[a_]).size = 1 from fun _ => rfl] at c70b3; have c70b4 := eq_false (Nat.not_lt.2 c70b3); clear c70b3)
            by_cases c71 : (((((rdOf ByteArray.empty impl_opWords.L a0_0) ++ t537) ++ (⟨#[32]⟩ : ByteArray)) ++ t538) ++ (⟨#[32]⟩ : ByteArray)).size + a1.size ≤ 9223372036854775807
            ·rw [if_pos c71] at H
             have c71b0 := eq_true c71
             have c71b1 : decide ((((((rdOf ByteArray.empty impl_opWords.L a0_0) ++ t537) ++ (⟨#[32]⟩ : ByteArray)) ++ t538) ++ (⟨#[32]⟩ : ByteArray)).size + a1.size ≤ 9223372036854775807) = true := decide_eq_true c71
             try have c71b2 : (9223372036854775807 < (((((rdOf ByteArray.empty impl_opWords.L a0_0) ++ t537) ++ (⟨#[32]⟩ : ByteArray)) ++ t538) ++ (⟨#[32]⟩ : ByteArray)).size + a1.size) = False := eq_false (Nat.not_lt.2 c71)
             try (have c71b3 := c71; simp only [ByteArray.size_append, show ∀ a_ : UInt8, (ByteArray.mk #[a_]).size = 1 from fun _ => rfl] at c71b3; have c71b4 := eq_false (Nat.not_lt.2 c71b3); clear c71b3)
             by_cases c72 : ((((((rdOf ByteArray.empty impl_opWords.L a0_0) ++ t537) ++ (⟨#[32]⟩ : ByteArray)) ++ t538) ++ (⟨#[32]⟩ : ByteArray)) ++ a1).size + 1 ≤ 9223372036854775807
             ·rw [if_pos c72] at H
              have c72b0 := eq_true c72
              have c72b1 : decide (((((((rdOf ByteArray.empty impl_opWords.L a0_0) ++ t537) ++ (⟨#[32]⟩ : ByteArray)) ++ t538) ++ (⟨#[32]⟩ : ByteArray)) ++ a1).size + 1 ≤ 9223372036854775807) = true := decide_eq_true c72
              try have c72b2 : (9223372036854775807 < ((((((rdOf ByteArray.empty impl_opWords.L a0_0) ++ t537) ++ (⟨#[32]⟩ : ByteArray)) ++ t538) ++ (⟨#[32]⟩ : ByteArray)) ++ a1).size + 1) = False := eq_false (Nat.not_lt.2 c72)
              try (have c72b3 := c72; simp only [ByteArray.size_append, show ∀ a_ : UInt8, (ByteArray.mk #[a_]).size = 1 from fun _ => rfl] at c72b3; have c72b4 := eq_false (Nat.not_lt.2 c72b3); clear c72b3)
              replace H := oA H
              obtain ⟨t539, A73, H⟩ := H
              try dsimp only at H
              by_cases c74 : (((((((rdOf ByteArray.empty impl_opWords.L a0_0) ++ t537) ++ (⟨#[32]⟩ : ByteArray)) ++ t538) ++ (⟨#[32]⟩ : ByteArray)) ++ a1) ++ (⟨#[32]⟩ : ByteArray)).size + t539.size ≤ 9223372036854775807
              ·rw [if_pos c74] at H
               have c74b0 := eq_true c74
               have c74b1 : decide ((((((((rdOf ByteArray.empty impl_opWords.L a0_0) ++ t537) ++ (⟨#[32]⟩ : ByteArray)) ++ t538) ++ (⟨#[32]⟩ : ByteArray)) ++ a1) ++ (⟨#[32]⟩ : ByteArray)).size + t539.size ≤ 9223372036854775807) = true := decide_eq_true c74
               try have c74b2 : (9223372036854775807 < (((((((rdOf ByteArray.empty impl_opWords.L a0_0) ++ t537) ++ (⟨#[32]⟩ : ByteArray)) ++ t538) ++ (⟨#[32]⟩ : ByteArray)) ++ a1) ++ (⟨#[32]⟩ : ByteArray)).size + t539.size) = False := eq_false (Nat.not_lt.2 c74)
               try (have c74b3 := c74; simp only [ByteArray.size_append, show ∀ a_ : UInt8, (ByteArray.mk #[a_]).size = 1 from fun _ => rfl] at c74b3; have c74b4 := eq_false (Nat.not_lt.2 c74b3); clear c74b3)
               obtain rfl := Option.some.inj H
               go_enter Tryz.func11, Tryz.ntmps11
               try go_wp2_with (first | ((with_reducible refine gate_dst (N := 2) rfl ?_); refine be 2 #[.int .i64 a0_0, .int .i64 a0_1, .int .i64 a0_2, .int .i64 a0_3, .int .i64 a0_4, .int .i64 a0_5] 24 ?_; intro gb527 hg w75 hbox hb; have BK527 := Aside0.mk hbox; have GW527 := zW hg; replace HB := zS hb; have GE527 := GW527; clear hb hbox hg))
               replace BK527 := Aside0.mk (blk_drew BK527.out)
               replace HB := Aside0.mk (below_drew1 HB.out)
               refine start_ (n := 5) (S := fun w' => w'.cell? ⟨gb527, 0, none⟩ = some (.int .i64 a0_0) ∧ w'.cell? ⟨gb527, 1, none⟩ = some (.int .i64 a0_1) ∧ w'.cell? ⟨gb527, 2, none⟩ = some (.int .i64 a0_2) ∧ w'.cell? ⟨gb527, 3, none⟩ = some (.int .i64 a0_3) ∧ w'.cell? ⟨gb527, 4, none⟩ = some (.int .i64 a0_4) ∧ w'.cell? ⟨gb527, 5, none⟩ = some (.int .i64 a0_5)) (ds := []) #[false, false, false, false, false] (by kernel_rfl) rfl rfl (bc6 BK527) (fun hHeld => ?_)
               generalize w75.drew = w76 at BK527 HB hHeld ⊢
               refine pz 1 8 ?_
               refine tz 2 9 ?_
               refine oz 0 7 fun K hK => ?_
               refine gz Tryz.func25 #[] ?_
               with_reducible refine (impl_opWords.calls  impl_opWords.L _ AC_impl_opWords.out).mono ?_
               rintro e w77 ⟨rfl, hb⟩
               refine ⟨_, rfl, ?_⟩
               replace BK527 := zb BK527 hb rfl
               replace HB := zS hb
               try clear hb
               have p5 : 0 ≤ (a0_0 : Int) := dz16
               have q5 : (a0_0 : Int) < 21 := dz16
               have hx5 := impl_opWords.idx a0_0 p5 q5
               clear p5 q5
               refine hK.out _ _ (bc6 BK527) (fun hHeld => ?_)
               clear hK K
               refine nz ?_
               refine tz 3 10 ?_
               refine pz 4 5 ?_
               refine done_ (by kernel_rfl) ?_
               obtain ⟨_, _, _, _, _, _, _, _, _, _, _, _⟩ := zc6 BK527
               try go_wp2_with (first | ((with_reducible refine gate_callee (f := 20) rfl ?_); refine gl 15 Tryz.func20 #[.int .i64 a0_0] ?_; (with_reducible refine (impl_kind_reckons.calls a0_0 false _ A6.out).mono ?_); rintro e w' ⟨rfl, ⟨nd, rfl⟩⟩; refine ⟨_, rfl, ?_⟩) | ((with_reducible refine gate_callee (f := 23) rfl ?_); refine gl 28 Tryz.func23 #[.int .i64 a0_0] ?_; (with_reducible refine (impl_kind_asks.calls a0_0 false _ A21.out).mono ?_); rintro e w' ⟨rfl, ⟨nd, rfl⟩⟩; refine ⟨_, rfl, ?_⟩))
               (try (rw [drewN_self w77]; generalize hq_ : World.drewN w77 _ = w77; have n0_ : Aside0 (w77.heap[gb527]? = some (.cells #[.int .i64 a0_0, .int .i64 a0_1, .int .i64 a0_2, .int .i64 a0_3, .int .i64 a0_4, .int .i64 a0_5] 24 (0, 0))) := ⟨by rw [← hq_]; exact (by exact bq BK527.out)⟩; have n1_ : Aside0 (Below w.heap.size w w77) := ⟨by rw [← hq_]; exact zB⟩; clear BK527 HB hq_; have BK527 := n0_; have HB := n1_; clear n0_ n1_))
               replace BK527 := Aside0.mk (blk_drew BK527.out)
               replace HB := Aside0.mk (below_drew1 HB.out)
               refine start_ (n := 18) (S := fun w' => w'.cell? ⟨gb527, 0, none⟩ = some (.int .i64 a0_0) ∧ w'.cell? ⟨gb527, 1, none⟩ = some (.int .i64 a0_1) ∧ w'.cell? ⟨gb527, 2, none⟩ = some (.int .i64 a0_2) ∧ w'.cell? ⟨gb527, 3, none⟩ = some (.int .i64 a0_3) ∧ w'.cell? ⟨gb527, 4, none⟩ = some (.int .i64 a0_4) ∧ w'.cell? ⟨gb527, 5, none⟩ = some (.int .i64 a0_5)) (ds := []) #[false, false, false, false, false, false, false, false, false, false, false, false, false, false, false, false, false, false] (by kernel_rfl) rfl rfl (bc6 BK527) (fun hHeld => ?_); refine with_tabW impl_Ins_line.tab12 impl_Ins_line.bits12 (fun HT_ HW_ => ?_)
               generalize w77.drew = w79 at BK527 HB hHeld ⊢
               refine pz 0 76 ?_
               refine pz 1 77 ?_
               refine pz 6 82 ?_
               refine pz 11 87 ?_
               refine tz 2 78 ?_
               refine tz 7 83 ?_
               refine tz 14 90 ?_
               refine oz 3 79 fun K hK => ?_
               refine gz Tryz.func12 #[.int .i64 a0_5] ?_
               with_reducible refine (strconv_Itoa.calls a0_5 t537 _ A65.out).mono ?_
               rintro e w80 ⟨rfl, hb⟩
               refine ⟨_, rfl, ?_⟩
               replace BK527 := zb BK527 hb rfl
               replace HB := zS hb
               try clear hb
               refine hK.out _ _ (bc6 BK527) (fun hHeld => ?_)
               clear hK K
               refine nz ?_
               refine pz 4 80 ?_
               refine pz 5 81 ?_
               refine oz 8 84 fun K hK => ?_
               refine gz Tryz.func26 #[.int .i64 a0_1] ?_
               with_reducible refine (impl_reg.calls a0_1 t538 _ A68.out).mono ?_
               rintro e w81 ⟨rfl, hb⟩
               refine ⟨_, rfl, ?_⟩
               replace BK527 := zb BK527 hb rfl
               replace HB := zS hb
               try clear hb
               refine hK.out _ _ (bc6 BK527) (fun hHeld => ?_)
               clear hK K
               refine nz ?_
               refine pz 9 85 ?_
               refine pz 10 86 ?_
               refine pz 12 88 ?_
               refine pz 13 89 ?_
               refine oz 15 91 fun K hK => ?_
               refine gz Tryz.func27 #[.agg #[.int .i64 a0_0, .int .i64 a0_1, .int .i64 a0_2, .int .i64 a0_3, .int .i64 a0_4, .int .i64 a0_5]] ?_
               with_reducible refine (impl_Ins_value.calls a0_0 a0_1 a0_2 a0_3 a0_4 a0_5 t539 _ A73.out).mono ?_
               rintro e w82 ⟨rfl, hb⟩
               refine ⟨_, rfl, ?_⟩
               replace BK527 := zb BK527 hb rfl
               replace HB := zS hb
               try clear hb
               refine hK.out _ _ (bc6 BK527) (fun hHeld => ?_)
               clear hK K
               refine nz ?_
               refine pz 16 92 ?_
               refine pz 17 4 ?_
               refine done_ (done_of HT_.out (by kernel_rfl)) ?_
               try go_wp2
               go_ret
               exact ⟨zR, zB⟩
              ·exact absurd H (nN c74)
             ·exact absurd H (nN c72)
            ·exact absurd H (nN c71)
           ·exact absurd H (nN c70)
          ·exact absurd H (nN c69)
         ·exact absurd H (nN c67)
        ·exact absurd H (nN c66)
       ·rw [if_neg c64] at H
        have c64b0 : (a0_0 == 18) = false := beq_eq_false_iff_ne.mpr c64
        have c64b1 : (a0_0 != 18) = true := bne_iff_ne.mpr c64
        by_cases c83 : a0_0 = 19
        ·rw [if_pos c83] at H
         have c83b0 : (a0_0 == 19) = true := beq_iff_eq.mpr c83
         have c83b1 : (a0_0 != 19) = false := bne_eq_false_iff_eq.mpr c83
         clear c83
         by_cases c84 : (rdOf ByteArray.empty impl_opWords.L a0_0).size + 1 ≤ 9223372036854775807
         ·rw [if_pos c84] at H
          have c84b0 := eq_true c84
          have c84b1 : decide ((rdOf ByteArray.empty impl_opWords.L a0_0).size + 1 ≤ 9223372036854775807) = true := decide_eq_true c84
          try have c84b2 : (9223372036854775807 < (rdOf ByteArray.empty impl_opWords.L a0_0).size + 1) = False := eq_false (Nat.not_lt.2 c84)
          try (have c84b3 := c84; simp only [ByteArray.size_append, show ∀ a_ : UInt8, (ByteArray.mk #[a_]).size = 1 from fun _ => rfl] at c84b3; have c84b4 := eq_false (Nat.not_lt.2 c84b3); clear c84b3)
          have AC_impl_callWords := Aside0.mk (show impl_callWords.f = some impl_callWords.L from rfl)
          by_cases c85 : 0 ≤ a0_4
          ·rw [if_pos c85] at H
           have c85b0 : decide (0 ≤ a0_4) = true := decide_eq_true c85
           clear c85
           by_cases c86 : a0_4 < 7
           ·rw [if_pos c86] at H
            have c86b0 : decide (a0_4 < 7) = true := decide_eq_true c86
            clear c86
            by_cases c88 : ((rdOf ByteArray.empty impl_opWords.L a0_0) ++ (⟨#[32]⟩ : ByteArray)).size + (rdOf ByteArray.empty impl_callWords.L a0_4).size ≤ 9223372036854775807
            ·rw [if_pos c88] at H
             have c88b0 := eq_true c88
             have c88b1 : decide (((rdOf ByteArray.empty impl_opWords.L a0_0) ++ (⟨#[32]⟩ : ByteArray)).size + (rdOf ByteArray.empty impl_callWords.L a0_4).size ≤ 9223372036854775807) = true := decide_eq_true c88
             try have c88b2 : (9223372036854775807 < ((rdOf ByteArray.empty impl_opWords.L a0_0) ++ (⟨#[32]⟩ : ByteArray)).size + (rdOf ByteArray.empty impl_callWords.L a0_4).size) = False := eq_false (Nat.not_lt.2 c88)
             try (have c88b3 := c88; simp only [ByteArray.size_append, show ∀ a_ : UInt8, (ByteArray.mk #[a_]).size = 1 from fun _ => rfl] at c88b3; have c88b4 := eq_false (Nat.not_lt.2 c88b3); clear c88b3)
             obtain rfl := Option.some.inj H
             go_enter Tryz.func11, Tryz.ntmps11
             try go_wp2_with (first | ((with_reducible refine gate_dst (N := 2) rfl ?_); refine be 2 #[.int .i64 a0_0, .int .i64 a0_1, .int .i64 a0_2, .int .i64 a0_3, .int .i64 a0_4, .int .i64 a0_5] 24 ?_; intro gb527 hg w89 hbox hb; have BK527 := Aside0.mk hbox; have GW527 := zW hg; replace HB := zS hb; have GE527 := GW527; clear hb hbox hg))
             replace BK527 := Aside0.mk (blk_drew BK527.out)
             replace HB := Aside0.mk (below_drew1 HB.out)
             refine start_ (n := 5) (S := fun w' => w'.cell? ⟨gb527, 0, none⟩ = some (.int .i64 a0_0) ∧ w'.cell? ⟨gb527, 1, none⟩ = some (.int .i64 a0_1) ∧ w'.cell? ⟨gb527, 2, none⟩ = some (.int .i64 a0_2) ∧ w'.cell? ⟨gb527, 3, none⟩ = some (.int .i64 a0_3) ∧ w'.cell? ⟨gb527, 4, none⟩ = some (.int .i64 a0_4) ∧ w'.cell? ⟨gb527, 5, none⟩ = some (.int .i64 a0_5)) (ds := []) #[false, false, false, false, false] (by kernel_rfl) rfl rfl (bc6 BK527) (fun hHeld => ?_)
             generalize w89.drew = w90 at BK527 HB hHeld ⊢
             refine pz 1 8 ?_
             refine tz 2 9 ?_
             refine oz 0 7 fun K hK => ?_
             refine gz Tryz.func25 #[] ?_
             with_reducible refine (impl_opWords.calls  impl_opWords.L _ AC_impl_opWords.out).mono ?_
             rintro e w91 ⟨rfl, hb⟩
             refine ⟨_, rfl, ?_⟩
             replace BK527 := zb BK527 hb rfl
             replace HB := zS hb
             try clear hb
             have p5 : 0 ≤ (a0_0 : Int) := dz16
             have q5 : (a0_0 : Int) < 21 := dz16
             have hx5 := impl_opWords.idx a0_0 p5 q5
             clear p5 q5
             refine hK.out _ _ (bc6 BK527) (fun hHeld => ?_)
             clear hK K
             refine nz ?_
             refine tz 3 10 ?_
             refine pz 4 5 ?_
             refine done_ (by kernel_rfl) ?_
             obtain ⟨_, _, _, _, _, _, _, _, _, _, _, _⟩ := zc6 BK527
             try go_wp2_with (first | ((with_reducible refine gate_callee (f := 20) rfl ?_); refine gl 15 Tryz.func20 #[.int .i64 a0_0] ?_; (with_reducible refine (impl_kind_reckons.calls a0_0 false _ A6.out).mono ?_); rintro e w' ⟨rfl, ⟨nd, rfl⟩⟩; refine ⟨_, rfl, ?_⟩) | ((with_reducible refine gate_callee (f := 23) rfl ?_); refine gl 28 Tryz.func23 #[.int .i64 a0_0] ?_; (with_reducible refine (impl_kind_asks.calls a0_0 false _ A21.out).mono ?_); rintro e w' ⟨rfl, ⟨nd, rfl⟩⟩; refine ⟨_, rfl, ?_⟩))
             (try (rw [drewN_self w91]; generalize hq_ : World.drewN w91 _ = w91; have n0_ : Aside0 (w91.heap[gb527]? = some (.cells #[.int .i64 a0_0, .int .i64 a0_1, .int .i64 a0_2, .int .i64 a0_3, .int .i64 a0_4, .int .i64 a0_5] 24 (0, 0))) := ⟨by rw [← hq_]; exact (by exact bq BK527.out)⟩; have n1_ : Aside0 (Below w.heap.size w w91) := ⟨by rw [← hq_]; exact zB⟩; clear BK527 HB hq_; have BK527 := n0_; have HB := n1_; clear n0_ n1_))
             replace BK527 := Aside0.mk (blk_drew BK527.out)
             replace HB := Aside0.mk (below_drew1 HB.out)
             refine start_ (n := 8) (S := fun w' => w'.cell? ⟨gb527, 0, none⟩ = some (.int .i64 a0_0) ∧ w'.cell? ⟨gb527, 1, none⟩ = some (.int .i64 a0_1) ∧ w'.cell? ⟨gb527, 2, none⟩ = some (.int .i64 a0_2) ∧ w'.cell? ⟨gb527, 3, none⟩ = some (.int .i64 a0_3) ∧ w'.cell? ⟨gb527, 4, none⟩ = some (.int .i64 a0_4) ∧ w'.cell? ⟨gb527, 5, none⟩ = some (.int .i64 a0_5)) (ds := []) #[false, false, false, false, false, false, false, false] (by kernel_rfl) rfl rfl (bc6 BK527) (fun hHeld => ?_); refine with_tabW impl_Ins_line.tab14 impl_Ins_line.bits14 (fun HT_ HW_ => ?_)
             generalize w91.drew = w93 at BK527 HB hHeld ⊢
             refine pz 0 97 ?_
             refine pz 1 98 ?_
             refine pz 3 100 ?_
             refine tz 4 101 ?_
             refine oz 2 99 fun K hK => ?_
             refine gz Tryz.func28 #[] ?_
             with_reducible refine (impl_callWords.calls  impl_callWords.L _ AC_impl_callWords.out).mono ?_
             rintro e w94 ⟨rfl, hb⟩
             refine ⟨_, rfl, ?_⟩
             replace BK527 := zb BK527 hb rfl
             replace HB := zS hb
             try clear hb
             have p87 : 0 ≤ (a0_4 : Int) := dz16
             have q87 : (a0_4 : Int) < 7 := dz16
             have hx87 := impl_callWords.idx a0_4 p87 q87
             clear p87 q87
             refine hK.out _ _ (bc6 BK527) (fun hHeld => ?_)
             clear hK K
             refine nz ?_
             refine tz 5 102 ?_
             refine pz 6 103 ?_
             refine pz 7 4 ?_
             refine done_ (done_of HT_.out (by kernel_rfl)) ?_
             try go_wp2
             go_ret
             exact ⟨zR, zB⟩
            ·exact absurd H (nN c88)
           ·exact absurd H (nN c86)
          ·exact absurd H (nN c85)
         ·exact absurd H (nN c84)
        ·rw [if_neg c83] at H
         have c83b0 : (a0_0 == 19) = false := beq_eq_false_iff_ne.mpr c83
         have c83b1 : (a0_0 != 19) = true := bne_iff_ne.mpr c83
         obtain rfl := Option.some.inj H
         go_enter Tryz.func11, Tryz.ntmps11
         try go_wp2_with (first | ((with_reducible refine gate_dst (N := 2) rfl ?_); refine be 2 #[.int .i64 a0_0, .int .i64 a0_1, .int .i64 a0_2, .int .i64 a0_3, .int .i64 a0_4, .int .i64 a0_5] 24 ?_; intro gb527 hg w95 hbox hb; have BK527 := Aside0.mk hbox; have GW527 := zW hg; replace HB := zS hb; have GE527 := GW527; clear hb hbox hg))
         replace BK527 := Aside0.mk (blk_drew BK527.out)
         replace HB := Aside0.mk (below_drew1 HB.out)
         refine start_ (n := 5) (S := fun w' => w'.cell? ⟨gb527, 0, none⟩ = some (.int .i64 a0_0) ∧ w'.cell? ⟨gb527, 1, none⟩ = some (.int .i64 a0_1) ∧ w'.cell? ⟨gb527, 2, none⟩ = some (.int .i64 a0_2) ∧ w'.cell? ⟨gb527, 3, none⟩ = some (.int .i64 a0_3) ∧ w'.cell? ⟨gb527, 4, none⟩ = some (.int .i64 a0_4) ∧ w'.cell? ⟨gb527, 5, none⟩ = some (.int .i64 a0_5)) (ds := []) #[false, false, false, false, false] (by kernel_rfl) rfl rfl (bc6 BK527) (fun hHeld => ?_)
         generalize w95.drew = w96 at BK527 HB hHeld ⊢
         refine pz 1 8 ?_
         refine tz 2 9 ?_
         refine oz 0 7 fun K hK => ?_
         refine gz Tryz.func25 #[] ?_
         with_reducible refine (impl_opWords.calls  impl_opWords.L _ AC_impl_opWords.out).mono ?_
         rintro e w97 ⟨rfl, hb⟩
         refine ⟨_, rfl, ?_⟩
         replace BK527 := zb BK527 hb rfl
         replace HB := zS hb
         try clear hb
         have p5 : 0 ≤ (a0_0 : Int) := dz16
         have q5 : (a0_0 : Int) < 21 := dz16
         have hx5 := impl_opWords.idx a0_0 p5 q5
         clear p5 q5
         refine hK.out _ _ (bc6 BK527) (fun hHeld => ?_)
         clear hK K
         refine nz ?_
         refine tz 3 10 ?_
         refine pz 4 5 ?_
         refine done_ (by kernel_rfl) ?_
         obtain ⟨_, _, _, _, _, _, _, _, _, _, _, _⟩ := zc6 BK527
         try go_wp2_with (first | ((with_reducible refine gate_callee (f := 20) rfl ?_); refine gl 15 Tryz.func20 #[.int .i64 a0_0] ?_; (with_reducible refine (impl_kind_reckons.calls a0_0 false _ A6.out).mono ?_); rintro e w' ⟨rfl, ⟨nd, rfl⟩⟩; refine ⟨_, rfl, ?_⟩) | ((with_reducible refine gate_callee (f := 23) rfl ?_); refine gl 28 Tryz.func23 #[.int .i64 a0_0] ?_; (with_reducible refine (impl_kind_asks.calls a0_0 false _ A21.out).mono ?_); rintro e w' ⟨rfl, ⟨nd, rfl⟩⟩; refine ⟨_, rfl, ?_⟩))
         go_ret
         exact ⟨zR, zB⟩
  ·exact absurd H (nN c4)
 ·exact absurd H (nN c3)
end Go.Proofs.YtllmbooicobmkaaGreatDoor.Q
