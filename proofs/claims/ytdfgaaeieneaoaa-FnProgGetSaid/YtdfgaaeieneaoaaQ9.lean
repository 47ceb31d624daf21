/- The machine's side of this seat's laws: Go functions as Lean functions, and their contracts. By a program of this work over the kit's print. -/
import Derived.Test.YtdfgaaeieneaoaaQ0
namespace Go.Proofs.Ytdfgaaeieneaoaa.Q
open Go.RowKit Go.Proofs.YtdfgaaeieneaoaaW.PrintWords Go.Proofs.YtdfgaaeieneaoaaW.PrintLast Go.Proofs.YtdfgaaeieneaoaaW.PrintMore
attribute [local go_sem] max2_int min2_int max_two min_two max_three min_three max_four min_four Go.Proofs.YtdfgaaeieneaoaaN.not_i64 Go.Proofs.YtdfgaaeieneaoaaN.isSome_setCell   -- for this text's walks alone
set_option linter.unusedVariables false
set_option linter.unusedSimpArgs false

/-! ### spec_l1Get: function 43 -/
def spec_l1Get.f (a0 : ByteArray) : Option (Int × Int × Int × Int × Int × Int) := if 0 < (a0.size : Int) then (if 1 < (a0.size : Int) then (if 2 < (a0.size : Int) then (if 3 < (a0.size : Int) then (if (wrap64 (bt a0 2)) > 127 then (if 4 < (a0.size : Int) then (if 5 < (a0.size : Int) then (if 6 < (a0.size : Int) then (if 7 < (a0.size : Int) then (some (wrap64 (bt a0 0), wrap64 (Int.tdiv (wrap64 (bt a0 1)) 16), wrap64 ((Int.tmod (wrap64 (bt a0 1)) 16) - 1), wrap64 ((wrap64 (bt a0 2)) - 256), Go.bits .or .i64 (Go.bits .or .i64 (Go.bits .or .i64 (wrap64 (bt a0 4)) (wrap64 ((wrap64 (bt a0 5)) * 256))) (wrap64 ((wrap64 (bt a0 6)) * 65536))) (wrap64 ((wrap64 (bt a0 7)) * 16777216)), wrap64 (bt a0 3))) else (none)) else (none)) else (none)) else (none)) else (if 4 < (a0.size : Int) then (if 5 < (a0.size : Int) then (if 6 < (a0.size : Int) then (if 7 < (a0.size : Int) then (some (wrap64 (bt a0 0), wrap64 (Int.tdiv (wrap64 (bt a0 1)) 16), wrap64 ((Int.tmod (wrap64 (bt a0 1)) 16) - 1), wrap64 (bt a0 2), Go.bits .or .i64 (Go.bits .or .i64 (Go.bits .or .i64 (wrap64 (bt a0 4)) (wrap64 ((wrap64 (bt a0 5)) * 256))) (wrap64 ((wrap64 (bt a0 6)) * 65536))) (wrap64 ((wrap64 (bt a0 7)) * 16777216)), wrap64 (bt a0 3))) else (none)) else (none)) else (none)) else (none))) else (none)) else (none)) else (none)) else (none)
def spec_l1Get.T1 : Bool × List (List Nat × List Nat) := (true, [([], []), ([0], [0]), ([1], [1]), ([], []), ([3], [3]), ([4], [4]), ([5], [5]), ([], []), ([7], [7]), ([8], [8]), ([9], [9]), ([10], [10]), ([], []), ([12], [12]), ([13], [13]), ([], []), ([15], [15]), ([16], [16]), ([2, 6, 11, 14, 17], [2, 6, 11, 14, 17]), ([], []), ([19, 18, 0, 1, 2, 3, 4, 5, 6, 7, 8, 9, 10, 11, 12, 13, 14, 15, 16, 17, 18, 19], [18, 19])])
def spec_l1Get.B1 : List Nat := [0, 1, 3, 0, 8, 24, 56, 0, 128, 384, 896, 1920, 0, 4096, 12288, 0, 32768, 98304, 262143, 0, 1048575]
theorem spec_l1Get.tab1 : rtab .any (opsOf Try.f43 1) = spec_l1Get.T1 := by kernel_rfl
theorem spec_l1Get.bits1 : waitsOk spec_l1Get.T1.2 spec_l1Get.B1 = true := by kernel_rfl
def spec_l1Get.T4 : Bool × List (List Nat × List Nat) := (true, [([], []), ([0], [0]), ([1], [1]), ([], []), ([3], [3]), ([4], [4]), ([5], [5]), ([2, 6], [2, 6]), ([], []), ([8], [8]), ([9], [9]), ([10], [10]), ([7, 11], [7, 11]), ([], []), ([13], [13]), ([14], [14]), ([15], [15]), ([12, 16], [12, 16]), ([0, 1, 2, 3, 4, 5, 6, 7, 8, 9, 10, 11, 12, 13, 14, 15, 16, 17], []), ([18, 17, 0, 1, 2, 3, 4, 5, 6, 7, 8, 9, 10, 11, 12, 13, 14, 15, 16, 17], [17, 18])])
def spec_l1Get.B4 : List Nat := [0, 1, 3, 0, 8, 24, 56, 127, 0, 256, 768, 1792, 4095, 0, 8192, 24576, 57344, 131071, 262143, 524287]
theorem spec_l1Get.tab4 : rtab .any (opsOf Try.f43 4) = spec_l1Get.T4 := by kernel_rfl
theorem spec_l1Get.bits4 : waitsOk spec_l1Get.T4.2 spec_l1Get.B4 = true := by kernel_rfl
set_option maxHeartbeats 8000000 in
set_option maxRecDepth 100000 in
theorem spec_l1Get.calls (a0 : ByteArray) (r1 : Int) (r2 : Int) (r3 : Int) (r4 : Int) (r5 : Int) (r6 : Int) (w : World) (h : spec_l1Get.f a0 = some (r1, r2, r3, r4, r5, r6)) :
  Calls Try.prog 43 #[.string a0] w fun e w' => e = .returned (.agg #[.int .i64 r1, .int .i64 r2, .int .i64 r3, .int .i64 r4, .int .i64 r5, .int .i64 r6]) ∧ Below w.heap.size w w' := by
 have hu38 := Try.underlying38
 have HB := Aside0.mk (Below.refl w.heap.size w)
 have H : (if 0 < (a0.size : Int) then (if 1 < (a0.size : Int) then (if 2 < (a0.size : Int) then (if 3 < (a0.size : Int) then (if (wrap64 (bt a0 2)) > 127 then (if 4 < (a0.size : Int) then (if 5 < (a0.size : Int) then (if 6 < (a0.size : Int) then (if 7 < (a0.size : Int) then (some (wrap64 (bt a0 0), wrap64 (Int.tdiv (wrap64 (bt a0 1)) 16), wrap64 ((Int.tmod (wrap64 (bt a0 1)) 16) - 1), wrap64 ((wrap64 (bt a0 2)) - 256), Go.bits .or .i64 (Go.bits .or .i64 (Go.bits .or .i64 (wrap64 (bt a0 4)) (wrap64 ((wrap64 (bt a0 5)) * 256))) (wrap64 ((wrap64 (bt a0 6)) * 65536))) (wrap64 ((wrap64 (bt a0 7)) * 16777216)), wrap64 (bt a0 3))) else (none)) else (none)) else (none)) else (none)) else (if 4 < (a0.size : Int) then (if 5 < (a0.size : Int) then (if 6 < (a0.size : Int) then (if 7 < (a0.size : Int) then (some (wrap64 (bt a0 0), wrap64 (Int.tdiv (wrap64 (bt a0 1)) 16), wrap64 ((Int.tmod (wrap64 (bt a0 1)) 16) - 1), wrap64 (bt a0 2), Go.bits .or .i64 (Go.bits .or .i64 (Go.bits .or .i64 (wrap64 (bt a0 4)) (wrap64 ((wrap64 (bt a0 5)) * 256))) (wrap64 ((wrap64 (bt a0 6)) * 65536))) (wrap64 ((wrap64 (bt a0 7)) * 16777216)), wrap64 (bt a0 3))) else (none)) else (none)) else (none)) else (none))) else (none)) else (none)) else (none)) else (none)) = some (r1, r2, r3, r4, r5, r6) := h
 clear h
 by_cases c2 : 0 < (a0.size : Int)
 ·rw [if_pos c2] at H
  have c2b0 : decide (0 < (a0.size : Int)) = true := decide_eq_true c2
  have c2b1 : decide (0 < a0.size) = true := decide_eq_true (by omega)
  clear c2
  by_cases c4 : 1 < (a0.size : Int)
  ·rw [if_pos c4] at H
   have c4b0 : decide (1 < (a0.size : Int)) = true := decide_eq_true c4
   have c4b1 : decide (1 < a0.size) = true := decide_eq_true (by omega)
   clear c4
   by_cases c7 : 2 < (a0.size : Int)
   ·rw [if_pos c7] at H
    have c7b0 : decide (2 < (a0.size : Int)) = true := decide_eq_true c7
    have c7b1 : decide (2 < a0.size) = true := decide_eq_true (by omega)
    clear c7
    by_cases c9 : 3 < (a0.size : Int)
    ·rw [if_pos c9] at H
     have c9b0 : decide (3 < (a0.size : Int)) = true := decide_eq_true c9
     have c9b1 : decide (3 < a0.size) = true := decide_eq_true (by omega)
     clear c9
     by_cases c11 : (wrap64 (bt a0 2)) > 127
     ·rw [if_pos c11] at H
      have c11b0 : decide (127 < (wrap64 (bt a0 2))) = true := decide_eq_true c11
      clear c11
      by_cases c12 : 4 < (a0.size : Int)
      ·rw [if_pos c12] at H
       have c12b0 : decide (4 < (a0.size : Int)) = true := decide_eq_true c12
       have c12b1 : decide (4 < a0.size) = true := decide_eq_true (by omega)
       clear c12
       by_cases c14 : 5 < (a0.size : Int)
       ·rw [if_pos c14] at H
        have c14b0 : decide (5 < (a0.size : Int)) = true := decide_eq_true c14
        have c14b1 : decide (5 < a0.size) = true := decide_eq_true (by omega)
        clear c14
        by_cases c16 : 6 < (a0.size : Int)
        ·rw [if_pos c16] at H
         have c16b0 : decide (6 < (a0.size : Int)) = true := decide_eq_true c16
         have c16b1 : decide (6 < a0.size) = true := decide_eq_true (by omega)
         clear c16
         by_cases c18 : 7 < (a0.size : Int)
         ·rw [if_pos c18] at H
          have c18b0 : decide (7 < (a0.size : Int)) = true := decide_eq_true c18
          have c18b1 : decide (7 < a0.size) = true := decide_eq_true (by omega)
          clear c18
          simp only [Option.some.injEq, Prod.mk.injEq] at H
          obtain ⟨rfl, rfl, rfl, rfl, rfl, rfl⟩ := H
          go_enter Try.func43, Try.ntmps43
          try go_wp2_with (first | ((with_reducible refine gate_dst (N := 2) rfl ?_); refine be 2 #[.int .i64 0, .int .i64 0, .int .i64 0, .int .i64 0, .int .i64 0, .int .i64 0] 38 ?_; intro gb206 hg w20 hbox hb; have BK206 := Aside0.mk hbox; have GW206 := zW hg; replace HB := zS hb; have GE206 := GW206; clear hb hbox hg))
          replace BK206 := Aside0.mk (blk_drew BK206.out)
          replace HB := Aside0.mk (below_drew1 HB.out)
          have p3 : 0 ≤ (0 : Int) := (by omega)
          have q3 : 0 < a0.size := (by have : (0 : Int) < (a0.size : Int) := of_decide_eq_true (by first | (with_reducible assumption) | assumption); omega)
          have hx3 : ∀ h : 0 < a0.size, ((a0[0]'h).toNat : Int) = bt a0 0 := bt_at a0 0
          clear p3
          have qi3 : (0 < (a0.size : Int)) = True := eq_true (of_decide_eq_true (by first | (with_reducible assumption) | assumption))
          replace q3 := eq_true q3
          have p5 : 0 ≤ (1 : Int) := (by omega)
          have q5 : 1 < a0.size := (by have : (1 : Int) < (a0.size : Int) := of_decide_eq_true (by first | (with_reducible assumption) | assumption); omega)
          have hx5 : ∀ h : 1 < a0.size, ((a0[1]'h).toNat : Int) = bt a0 1 := bt_at a0 1
          clear p5
          have qi5 : (1 < (a0.size : Int)) = True := eq_true (of_decide_eq_true (by first | (with_reducible assumption) | assumption))
          replace q5 := eq_true q5
          have p6 : 0 ≤ (1 : Int) := (by omega)
          have q6 : 1 < a0.size := (by have : (1 : Int) < (a0.size : Int) := of_decide_eq_true (by first | (with_reducible assumption) | assumption); omega)
          have hx6 : ∀ h : 1 < a0.size, ((a0[1]'h).toNat : Int) = bt a0 1 := bt_at a0 1
          clear p6
          have qi6 : (1 < (a0.size : Int)) = True := eq_true (of_decide_eq_true (by first | (with_reducible assumption) | assumption))
          replace q6 := eq_true q6
          have p8 : 0 ≤ (2 : Int) := (by omega)
          have q8 : 2 < a0.size := (by have : (2 : Int) < (a0.size : Int) := of_decide_eq_true (by first | (with_reducible assumption) | assumption); omega)
          have hx8 : ∀ h : 2 < a0.size, ((a0[2]'h).toNat : Int) = bt a0 2 := bt_at a0 2
          clear p8
          have qi8 : (2 < (a0.size : Int)) = True := eq_true (of_decide_eq_true (by first | (with_reducible assumption) | assumption))
          replace q8 := eq_true q8
          have p10 : 0 ≤ (3 : Int) := (by omega)
          have q10 : 3 < a0.size := (by have : (3 : Int) < (a0.size : Int) := of_decide_eq_true (by first | (with_reducible assumption) | assumption); omega)
          have hx10 : ∀ h : 3 < a0.size, ((a0[3]'h).toNat : Int) = bt a0 3 := bt_at a0 3
          clear p10
          have qi10 : (3 < (a0.size : Int)) = True := eq_true (of_decide_eq_true (by first | (with_reducible assumption) | assumption))
          replace q10 := eq_true q10
          refine start_ (n := 21) (S := fun w' => True) (ds := []) #[false, false, false, false, false, false, false, false, false, false, false, false, false, false, false, false, false, false, false, false, false] (by kernel_rfl) rfl rfl trivial (fun hHeld => ?_); refine with_tabW spec_l1Get.tab1 spec_l1Get.bits1 (fun HT_ HW_ => ?_)
          generalize w20.drew = w21 at BK206 HB hHeld ⊢
          refine pz 0 4 ?_
          refine pz 3 7 ?_
          refine pz 7 11 ?_
          refine pz 12 16 ?_
          refine pz 15 19 ?_
          refine take_ (i := 1) (N := some 5) (v := ?_) (a' := ?_) #[true, true, false, true, false, false, false, true, false, false, false, false, true, false, false, true, false, false, false, false, false] rfl rfl (take_ofW HT_.out HW_.out (by kernel_rfl)) (fun _ _ _ h => h) (Or.inl ⟨by rfl, ?_⟩) hHeld ?_ ?_
          rotate_left
          ·intro w' _
           go_simp
           with_reducible rfl
          rotate_left
          ·simp only [Act.put, List.setIfInBounds_toArray, List.set_cons_zero, List.set_cons_succ, i64_w, i32_w]
           rfl
          refine pz 2 6 ?_
          refine take_ (i := 4) (N := some 8) (v := ?_) (a' := ?_) #[true, true, true, true, true, false, false, true, false, false, false, false, true, false, false, true, false, false, false, false, false] rfl rfl (take_ofW HT_.out HW_.out (by kernel_rfl)) (fun _ _ _ h => h) (Or.inl ⟨by rfl, ?_⟩) hHeld ?_ ?_
          rotate_left
          ·intro w' _
           go_simp
           with_reducible rfl
          rotate_left
          ·simp only [Act.put, List.setIfInBounds_toArray, List.set_cons_zero, List.set_cons_succ, i64_w, i32_w]
           rfl
          refine pz 5 9 ?_
          refine pz 6 10 ?_
          refine take_ (i := 8) (N := some 12) (v := ?_) (a' := ?_) #[true, true, true, true, true, true, true, true, true, false, false, false, true, false, false, true, false, false, false, false, false] rfl rfl (take_ofW HT_.out HW_.out (by kernel_rfl)) (fun _ _ _ h => h) (Or.inl ⟨by rfl, ?_⟩) hHeld ?_ ?_
          rotate_left
          ·intro w' _
           go_simp
           with_reducible rfl
          rotate_left
          ·simp only [Act.put, List.setIfInBounds_toArray, List.set_cons_zero, List.set_cons_succ, i64_w, i32_w]
           rfl
          refine pz 9 13 ?_
          refine pz 10 14 ?_
          refine pz 11 15 ?_
          refine take_ (i := 13) (N := some 17) (v := ?_) (a' := ?_) #[true, true, true, true, true, true, true, true, true, true, true, true, true, true, false, true, false, false, false, false, false] rfl rfl (take_ofW HT_.out HW_.out (by kernel_rfl)) (fun _ _ _ h => h) (Or.inl ⟨by rfl, ?_⟩) hHeld ?_ ?_
          rotate_left
          ·intro w' _
           go_simp
           with_reducible rfl
          rotate_left
          ·simp only [Act.put, List.setIfInBounds_toArray, List.set_cons_zero, List.set_cons_succ, i64_w, i32_w]
           rfl
          refine pz 14 18 ?_
          refine take_ (i := 16) (N := some 20) (v := ?_) (a' := ?_) #[true, true, true, true, true, true, true, true, true, true, true, true, true, true, true, true, true, false, false, false, false] rfl rfl (take_ofW HT_.out HW_.out (by kernel_rfl)) (fun _ _ _ h => h) (Or.inl ⟨by rfl, ?_⟩) hHeld ?_ ?_
          rotate_left
          ·intro w' _
           go_simp
           with_reducible rfl
          rotate_left
          ·simp only [Act.put, List.setIfInBounds_toArray, List.set_cons_zero, List.set_cons_succ, i64_w, i32_w]
           rfl
          refine pz 17 21 ?_
          refine pz 18 22 ?_
          refine oz 19 3 fun K hK => ?_
          refine box_step ?hg (N := 3) ?hd (cs := #[.int .i64 0, .int .i64 0, .int .i64 0, .int .i64 0, .int .i64 0, .int .i64 0]) (t := 38) ?hr ?_; (case hd => rfl); (case hg => rfl); (case hr => first | (go_simp; done) | (go_simp; rfl))
          intro gb207 hg w22 hbox hb
          have BK207 := Aside0.mk hbox
          have GW207 := zW hg
          have GE207 := zW hg
          replace HB := zS hb
          have NB206_207 := zl BK206 hg rfl
          have NB207_206 := zg BK206 hg rfl
          replace BK206 := zb BK206 hb rfl
          clear hb hbox hg
          refine hK.out _ _ trivial (fun hHeld => ?_)
          clear hK K
          refine nz ?_
          refine oN 20 fun K hK => ?_
          have hs23 : w22.cell? ⟨gb207, 0, none⟩ = some (.int .i64 0) := (blk_cell BK207.out 0).trans rfl
          have hfs23 := blk_frozen BK207.out 0
          have hns23_0 := NB206_207.out
          have hms23_0 := NB207_206.out
          have hs24 : w22.cell? ⟨gb207, 1, none⟩ = some (.int .i64 0) := (blk_cell BK207.out 1).trans rfl
          have hfs24 := blk_frozen BK207.out 1
          have hns24_0 := NB206_207.out
          have hms24_0 := NB207_206.out
          have hs25 : w22.cell? ⟨gb207, 2, none⟩ = some (.int .i64 0) := (blk_cell BK207.out 2).trans rfl
          have hfs25 := blk_frozen BK207.out 2
          have hns25_0 := NB206_207.out
          have hms25_0 := NB207_206.out
          have hs26 : w22.cell? ⟨gb207, 3, none⟩ = some (.int .i64 0) := (blk_cell BK207.out 3).trans rfl
          have hfs26 := blk_frozen BK207.out 3
          have hns26_0 := NB206_207.out
          have hms26_0 := NB207_206.out
          have hs27 : w22.cell? ⟨gb207, 4, none⟩ = some (.int .i64 0) := (blk_cell BK207.out 4).trans rfl
          have hfs27 := blk_frozen BK207.out 4
          have hns27_0 := NB206_207.out
          have hms27_0 := NB207_206.out
          have hs28 : w22.cell? ⟨gb207, 5, none⟩ = some (.int .i64 0) := (blk_cell BK207.out 5).trans rfl
          have hfs28 := blk_frozen BK207.out 5
          have hns28_0 := NB206_207.out
          have hms28_0 := NB207_206.out
          refine skip_ (w1 := ?_) (by rfl) rfl ?_ ?_
          rotate_left
          ·go_simp
           rfl
          refine hK.out _ _ trivial (fun hHeld => ?_)
          clear hK K
          refine done_ (done_of HT_.out (by kernel_rfl)) ?_
          have hnb29 := NB207_206.out
          have hnc29 := NB206_207.out
          obtain ⟨hcz30_0, hcz30_1, hcz30_2, hcz30_3, hcz30_4, hcz30_5, hfz30_0, hfz30_1, hfz30_2, hfz30_3, hfz30_4, hfz30_5⟩ := zc6 BK207
          try go_wp2
          have n0_ : Aside0 ((((((((w22.setCell ⟨gb207, 0, none⟩ (.int .i64 (wrap64 (bt a0 0)))).setCell ⟨gb207, 1, none⟩ (.int .i64 (wrap64 (Int.tdiv (wrap64 (bt a0 1)) 16)))).setCell ⟨gb207, 2, none⟩ (.int .i64 (wrap64 ((Int.tmod (wrap64 (bt a0 1)) 16) - 1)))).setCell ⟨gb207, 3, none⟩ (.int .i64 (wrap64 (bt a0 2)))).setCell ⟨gb207, 4, none⟩ (.int .i64 0)).setCell ⟨gb207, 5, none⟩ (.int .i64 (wrap64 (bt a0 3)))).setCell ⟨gb207, 3, none⟩ (.int .i64 (wrap64 ((wrap64 (bt a0 2)) - 256)))).heap[gb206]? = some (.cells #[.int .i64 0, .int .i64 0, .int .i64 0, .int .i64 0, .int .i64 0, .int .i64 0] 38 (0, 0))) := ⟨by refine fq ?_ NB206_207.out; refine fq ?_ NB206_207.out; refine fq ?_ NB206_207.out; refine fq ?_ NB206_207.out; refine fq ?_ NB206_207.out; refine fq ?_ NB206_207.out; refine fq ?_ NB206_207.out; exact bq BK206.out⟩
          have n1_ : Aside0 ((((((((w22.setCell ⟨gb207, 0, none⟩ (.int .i64 (wrap64 (bt a0 0)))).setCell ⟨gb207, 1, none⟩ (.int .i64 (wrap64 (Int.tdiv (wrap64 (bt a0 1)) 16)))).setCell ⟨gb207, 2, none⟩ (.int .i64 (wrap64 ((Int.tmod (wrap64 (bt a0 1)) 16) - 1)))).setCell ⟨gb207, 3, none⟩ (.int .i64 (wrap64 (bt a0 2)))).setCell ⟨gb207, 4, none⟩ (.int .i64 0)).setCell ⟨gb207, 5, none⟩ (.int .i64 (wrap64 (bt a0 3)))).setCell ⟨gb207, 3, none⟩ (.int .i64 (wrap64 ((wrap64 (bt a0 2)) - 256)))).heap[gb207]? = some (.cells #[.int .i64 (wrap64 (bt a0 0)), .int .i64 (wrap64 (Int.tdiv (wrap64 (bt a0 1)) 16)), .int .i64 (wrap64 ((Int.tmod (wrap64 (bt a0 1)) 16) - 1)), .int .i64 (wrap64 ((wrap64 (bt a0 2)) - 256)), .int .i64 0, .int .i64 (wrap64 (bt a0 3))] 38 (0, 0))) := ⟨by refine bq ?_; refine blk_put (cs := #[.int .i64 (wrap64 (bt a0 0)), .int .i64 (wrap64 (Int.tdiv (wrap64 (bt a0 1)) 16)), .int .i64 (wrap64 ((Int.tmod (wrap64 (bt a0 1)) 16) - 1)), .int .i64 (wrap64 (bt a0 2)), .int .i64 0, .int .i64 (wrap64 (bt a0 3))]) ?_ 3 _ rfl; refine bq ?_; refine blk_put (cs := #[.int .i64 (wrap64 (bt a0 0)), .int .i64 (wrap64 (Int.tdiv (wrap64 (bt a0 1)) 16)), .int .i64 (wrap64 ((Int.tmod (wrap64 (bt a0 1)) 16) - 1)), .int .i64 (wrap64 (bt a0 2)), .int .i64 0, .int .i64 0]) ?_ 5 _ rfl; refine bq ?_; refine blk_put (cs := #[.int .i64 (wrap64 (bt a0 0)), .int .i64 (wrap64 (Int.tdiv (wrap64 (bt a0 1)) 16)), .int .i64 (wrap64 ((Int.tmod (wrap64 (bt a0 1)) 16) - 1)), .int .i64 (wrap64 (bt a0 2)), .int .i64 0, .int .i64 0]) ?_ 4 _ rfl; refine bq ?_; refine blk_put (cs := #[.int .i64 (wrap64 (bt a0 0)), .int .i64 (wrap64 (Int.tdiv (wrap64 (bt a0 1)) 16)), .int .i64 (wrap64 ((Int.tmod (wrap64 (bt a0 1)) 16) - 1)), .int .i64 0, .int .i64 0, .int .i64 0]) ?_ 3 _ rfl; refine bq ?_; refine blk_put (cs := #[.int .i64 (wrap64 (bt a0 0)), .int .i64 (wrap64 (Int.tdiv (wrap64 (bt a0 1)) 16)), .int .i64 0, .int .i64 0, .int .i64 0, .int .i64 0]) ?_ 2 _ rfl; refine bq ?_; refine blk_put (cs := #[.int .i64 (wrap64 (bt a0 0)), .int .i64 0, .int .i64 0, .int .i64 0, .int .i64 0, .int .i64 0]) ?_ 1 _ rfl; refine bq ?_; refine blk_put (cs := #[.int .i64 0, .int .i64 0, .int .i64 0, .int .i64 0, .int .i64 0, .int .i64 0]) ?_ 0 _ rfl; exact bq BK207.out⟩
          have n2_ : Aside0 (Below w.heap.size w (((((((w22.setCell ⟨gb207, 0, none⟩ (.int .i64 (wrap64 (bt a0 0)))).setCell ⟨gb207, 1, none⟩ (.int .i64 (wrap64 (Int.tdiv (wrap64 (bt a0 1)) 16)))).setCell ⟨gb207, 2, none⟩ (.int .i64 (wrap64 ((Int.tmod (wrap64 (bt a0 1)) 16) - 1)))).setCell ⟨gb207, 3, none⟩ (.int .i64 (wrap64 (bt a0 2)))).setCell ⟨gb207, 4, none⟩ (.int .i64 0)).setCell ⟨gb207, 5, none⟩ (.int .i64 (wrap64 (bt a0 3)))).setCell ⟨gb207, 3, none⟩ (.int .i64 (wrap64 ((wrap64 (bt a0 2)) - 256))))) := ⟨zB⟩
          (try clear BK206)
          (try clear BK207)
          (try clear HB)
          generalize (((((((w22.setCell ⟨gb207, 0, none⟩ (.int .i64 (wrap64 (bt a0 0)))).setCell ⟨gb207, 1, none⟩ (.int .i64 (wrap64 (Int.tdiv (wrap64 (bt a0 1)) 16)))).setCell ⟨gb207, 2, none⟩ (.int .i64 (wrap64 ((Int.tmod (wrap64 (bt a0 1)) 16) - 1)))).setCell ⟨gb207, 3, none⟩ (.int .i64 (wrap64 (bt a0 2)))).setCell ⟨gb207, 4, none⟩ (.int .i64 0)).setCell ⟨gb207, 5, none⟩ (.int .i64 (wrap64 (bt a0 3)))).setCell ⟨gb207, 3, none⟩ (.int .i64 (wrap64 ((wrap64 (bt a0 2)) - 256)))) = w31 at n0_ n1_ n2_ ⊢
          have BK206 := n0_
          have BK207 := n1_
          have HB := n2_
          clear n0_ n1_ n2_
          replace BK206 := Aside0.mk (blk_drew BK206.out)
          replace BK207 := Aside0.mk (blk_drew BK207.out)
          replace HB := Aside0.mk (below_drew1 HB.out)
          have p13 : 0 ≤ (4 : Int) := (by omega)
          have q13 : 4 < a0.size := (by have : (4 : Int) < (a0.size : Int) := of_decide_eq_true (by first | (with_reducible assumption) | assumption); omega)
          have hx13 : ∀ h : 4 < a0.size, ((a0[4]'h).toNat : Int) = bt a0 4 := bt_at a0 4
          clear p13
          have qi13 : (4 < (a0.size : Int)) = True := eq_true (of_decide_eq_true (by first | (with_reducible assumption) | assumption))
          replace q13 := eq_true q13
          have p15 : 0 ≤ (5 : Int) := (by omega)
          have q15 : 5 < a0.size := (by have : (5 : Int) < (a0.size : Int) := of_decide_eq_true (by first | (with_reducible assumption) | assumption); omega)
          have hx15 : ∀ h : 5 < a0.size, ((a0[5]'h).toNat : Int) = bt a0 5 := bt_at a0 5
          clear p15
          have qi15 : (5 < (a0.size : Int)) = True := eq_true (of_decide_eq_true (by first | (with_reducible assumption) | assumption))
          replace q15 := eq_true q15
          have p17 : 0 ≤ (6 : Int) := (by omega)
          have q17 : 6 < a0.size := (by have : (6 : Int) < (a0.size : Int) := of_decide_eq_true (by first | (with_reducible assumption) | assumption); omega)
          have hx17 : ∀ h : 6 < a0.size, ((a0[6]'h).toNat : Int) = bt a0 6 := bt_at a0 6
          clear p17
          have qi17 : (6 < (a0.size : Int)) = True := eq_true (of_decide_eq_true (by first | (with_reducible assumption) | assumption))
          replace q17 := eq_true q17
          have p19 : 0 ≤ (7 : Int) := (by omega)
          have q19 : 7 < a0.size := (by have : (7 : Int) < (a0.size : Int) := of_decide_eq_true (by first | (with_reducible assumption) | assumption); omega)
          have hx19 : ∀ h : 7 < a0.size, ((a0[7]'h).toNat : Int) = bt a0 7 := bt_at a0 7
          clear p19
          have qi19 : (7 < (a0.size : Int)) = True := eq_true (of_decide_eq_true (by first | (with_reducible assumption) | assumption))
          replace q19 := eq_true q19
          refine start_ (n := 20) (S := fun w' => True) (ds := []) #[false, false, false, false, false, false, false, false, false, false, false, false, false, false, false, false, false, false, false, false] (by kernel_rfl) rfl rfl trivial (fun hHeld => ?_); refine with_tabW spec_l1Get.tab4 spec_l1Get.bits4 (fun HT_ HW_ => ?_)
          generalize w31.drew = w32 at BK206 BK207 HB hHeld ⊢
          refine pz 0 30 ?_
          refine pz 3 33 ?_
          refine pz 8 38 ?_
          refine pz 13 43 ?_
          refine take_ (i := 1) (N := some 31) (v := ?_) (a' := ?_) #[true, true, false, true, false, false, false, false, true, false, false, false, false, true, false, false, false, false, false, false] rfl rfl (take_ofW HT_.out HW_.out (by kernel_rfl)) (fun _ _ _ h => h) (Or.inl ⟨by rfl, ?_⟩) hHeld ?_ ?_
          rotate_left
          ·intro w' _
           go_simp
           with_reducible rfl
          rotate_left
          ·simp only [Act.put, List.setIfInBounds_toArray, List.set_cons_zero, List.set_cons_succ, i64_w, i32_w]
           rfl
          refine pz 2 32 ?_
          refine take_ (i := 4) (N := some 34) (v := ?_) (a' := ?_) #[true, true, true, true, true, false, false, false, true, false, false, false, false, true, false, false, false, false, false, false] rfl rfl (take_ofW HT_.out HW_.out (by kernel_rfl)) (fun _ _ _ h => h) (Or.inl ⟨by rfl, ?_⟩) hHeld ?_ ?_
          rotate_left
          ·intro w' _
           go_simp
           with_reducible rfl
          rotate_left
          ·simp only [Act.put, List.setIfInBounds_toArray, List.set_cons_zero, List.set_cons_succ, i64_w, i32_w]
           rfl
          refine pz 5 35 ?_
          refine pz 6 36 ?_
          refine pz 7 37 ?_
          refine take_ (i := 9) (N := some 39) (v := ?_) (a' := ?_) #[true, true, true, true, true, true, true, true, true, true, false, false, false, true, false, false, false, false, false, false] rfl rfl (take_ofW HT_.out HW_.out (by kernel_rfl)) (fun _ _ _ h => h) (Or.inl ⟨by rfl, ?_⟩) hHeld ?_ ?_
          rotate_left
          ·intro w' _
           go_simp
           with_reducible rfl
          rotate_left
          ·simp only [Act.put, List.setIfInBounds_toArray, List.set_cons_zero, List.set_cons_succ, i64_w, i32_w]
           rfl
          refine pz 10 40 ?_
          refine pz 11 41 ?_
          refine pz 12 42 ?_
          refine take_ (i := 14) (N := some 44) (v := ?_) (a' := ?_) #[true, true, true, true, true, true, true, true, true, true, true, true, true, true, true, false, false, false, false, false] rfl rfl (take_ofW HT_.out HW_.out (by kernel_rfl)) (fun _ _ _ h => h) (Or.inl ⟨by rfl, ?_⟩) hHeld ?_ ?_
          rotate_left
          ·intro w' _
           go_simp
           with_reducible rfl
          rotate_left
          ·simp only [Act.put, List.setIfInBounds_toArray, List.set_cons_zero, List.set_cons_succ, i64_w, i32_w]
           rfl
          refine pz 15 45 ?_
          refine pz 16 46 ?_
          refine pz 17 47 ?_
          refine pz 18 48 ?_
          refine oN 19 fun K hK => ?_
          have hs33 : w32.cell? ⟨gb207, 4, none⟩ = some (.int .i64 0) := (blk_cell BK207.out 4).trans rfl
          have hfs33 := blk_frozen BK207.out 4
          have hns33_0 := NB206_207.out
          have hms33_0 := NB207_206.out
          refine skip_ (w1 := ?_) (by rfl) rfl ?_ ?_
          rotate_left
          ·go_simp
           rfl
          refine hK.out _ _ trivial (fun hHeld => ?_)
          clear hK K
          refine done_ (done_of HT_.out (by kernel_rfl)) ?_
          have hcz34_0 : w32.cell? ⟨gb207, 0, none⟩ = some (.int .i64 (wrap64 (bt a0 0))) := (blk_cell BK207.out 0).trans rfl
          have hcz34_1 : w32.cell? ⟨gb207, 1, none⟩ = some (.int .i64 (wrap64 (Int.tdiv (wrap64 (bt a0 1)) 16))) := (blk_cell BK207.out 1).trans rfl
          have hcz34_2 : w32.cell? ⟨gb207, 2, none⟩ = some (.int .i64 (wrap64 ((Int.tmod (wrap64 (bt a0 1)) 16) - 1))) := (blk_cell BK207.out 2).trans rfl
          have hcz34_3 : w32.cell? ⟨gb207, 3, none⟩ = some (.int .i64 (wrap64 ((wrap64 (bt a0 2)) - 256))) := (blk_cell BK207.out 3).trans rfl
          have hcz34_4 : w32.cell? ⟨gb207, 4, none⟩ = some (.int .i64 0) := (blk_cell BK207.out 4).trans rfl
          have hcz34_5 : w32.cell? ⟨gb207, 5, none⟩ = some (.int .i64 (wrap64 (bt a0 3))) := (blk_cell BK207.out 5).trans rfl
          have hfz34_0 := blk_frozen BK207.out 0
          have hfz34_1 := blk_frozen BK207.out 1
          have hfz34_2 := blk_frozen BK207.out 2
          have hfz34_3 := blk_frozen BK207.out 3
          have hfz34_4 := blk_frozen BK207.out 4
          have hfz34_5 := blk_frozen BK207.out 5
          obtain ⟨hcz35_0, hcz35_1, hcz35_2, hcz35_3, hcz35_4, hcz35_5, hfz35_0, hfz35_1, hfz35_2, hfz35_3, hfz35_4, hfz35_5⟩ := zc6 BK206
          try go_wp2
          refine bodyPost_ret (results_cell_row rfl _ _ gb206 38 #[.int .i64 (wrap64 (bt a0 0)), .int .i64 (wrap64 (Int.tdiv (wrap64 (bt a0 1)) 16)), .int .i64 (wrap64 ((Int.tmod (wrap64 (bt a0 1)) 16) - 1)), .int .i64 (wrap64 ((wrap64 (bt a0 2)) - 256)), .int .i64 (Go.bits .or .i64 (Go.bits .or .i64 (Go.bits .or .i64 (wrap64 (bt a0 4)) (wrap64 ((wrap64 (bt a0 5)) * 256))) (wrap64 ((wrap64 (bt a0 6)) * 65536))) (wrap64 ((wrap64 (bt a0 7)) * 16777216))), .int .i64 (wrap64 (bt a0 3))] (0, 0) _ rfl (by refine bq ?_; refine blk_put (cs := #[.int .i64 (wrap64 (bt a0 0)), .int .i64 (wrap64 (Int.tdiv (wrap64 (bt a0 1)) 16)), .int .i64 (wrap64 ((Int.tmod (wrap64 (bt a0 1)) 16) - 1)), .int .i64 (wrap64 ((wrap64 (bt a0 2)) - 256)), .int .i64 (Go.bits .or .i64 (Go.bits .or .i64 (Go.bits .or .i64 (wrap64 (bt a0 4)) (wrap64 ((wrap64 (bt a0 5)) * 256))) (wrap64 ((wrap64 (bt a0 6)) * 65536))) (wrap64 ((wrap64 (bt a0 7)) * 16777216))), .int .i64 0]) ?_ 5 _ rfl; refine bq ?_; refine blk_put (cs := #[.int .i64 (wrap64 (bt a0 0)), .int .i64 (wrap64 (Int.tdiv (wrap64 (bt a0 1)) 16)), .int .i64 (wrap64 ((Int.tmod (wrap64 (bt a0 1)) 16) - 1)), .int .i64 (wrap64 ((wrap64 (bt a0 2)) - 256)), .int .i64 0, .int .i64 0]) ?_ 4 _ rfl; refine bq ?_; refine blk_put (cs := #[.int .i64 (wrap64 (bt a0 0)), .int .i64 (wrap64 (Int.tdiv (wrap64 (bt a0 1)) 16)), .int .i64 (wrap64 ((Int.tmod (wrap64 (bt a0 1)) 16) - 1)), .int .i64 0, .int .i64 0, .int .i64 0]) ?_ 3 _ rfl; refine bq ?_; refine blk_put (cs := #[.int .i64 (wrap64 (bt a0 0)), .int .i64 (wrap64 (Int.tdiv (wrap64 (bt a0 1)) 16)), .int .i64 0, .int .i64 0, .int .i64 0, .int .i64 0]) ?_ 2 _ rfl; refine bq ?_; refine blk_put (cs := #[.int .i64 (wrap64 (bt a0 0)), .int .i64 0, .int .i64 0, .int .i64 0, .int .i64 0, .int .i64 0]) ?_ 1 _ rfl; refine bq ?_; refine blk_put (cs := #[.int .i64 0, .int .i64 0, .int .i64 0, .int .i64 0, .int .i64 0, .int .i64 0]) ?_ 0 _ rfl; refine fq ?_ NB206_207.out; exact bq BK206.out) Try.underlying38 rfl (by kernel_rfl)) rfl ?_
          exact ⟨zR, zB⟩
         ·rw [if_neg c18] at H
          exact absurd H (by simp)
        ·rw [if_neg c16] at H
         exact absurd H (by simp)
       ·rw [if_neg c14] at H
        exact absurd H (by simp)
      ·rw [if_neg c12] at H
       exact absurd H (by simp)
     ·rw [if_neg c11] at H
      have c11b0 : decide (127 < (wrap64 (bt a0 2))) = false := decide_eq_false c11
      clear c11
      by_cases c36 : 4 < (a0.size : Int)
      ·rw [if_pos c36] at H
       have c36b0 : decide (4 < (a0.size : Int)) = true := decide_eq_true c36
       have c36b1 : decide (4 < a0.size) = true := decide_eq_true (by omega)
       clear c36
       by_cases c38 : 5 < (a0.size : Int)
       ·rw [if_pos c38] at H
        have c38b0 : decide (5 < (a0.size : Int)) = true := decide_eq_true c38
        have c38b1 : decide (5 < a0.size) = true := decide_eq_true (by omega)
        clear c38
        by_cases c40 : 6 < (a0.size : Int)
        ·rw [if_pos c40] at H
         have c40b0 : decide (6 < (a0.size : Int)) = true := decide_eq_true c40
         have c40b1 : decide (6 < a0.size) = true := decide_eq_true (by omega)
         clear c40
         by_cases c42 : 7 < (a0.size : Int)
         ·rw [if_pos c42] at H
          have c42b0 : decide (7 < (a0.size : Int)) = true := decide_eq_true c42
          have c42b1 : decide (7 < a0.size) = true := decide_eq_true (by omega)
          clear c42
          simp only [Option.some.injEq, Prod.mk.injEq] at H
          obtain ⟨rfl, rfl, rfl, rfl, rfl, rfl⟩ := H
          go_enter Try.func43, Try.ntmps43
          try go_wp2_with (first | ((with_reducible refine gate_dst (N := 2) rfl ?_); refine be 2 #[.int .i64 0, .int .i64 0, .int .i64 0, .int .i64 0, .int .i64 0, .int .i64 0] 38 ?_; intro gb206 hg w44 hbox hb; have BK206 := Aside0.mk hbox; have GW206 := zW hg; replace HB := zS hb; have GE206 := GW206; clear hb hbox hg))
          replace BK206 := Aside0.mk (blk_drew BK206.out)
          replace HB := Aside0.mk (below_drew1 HB.out)
          have p3 : 0 ≤ (0 : Int) := (by omega)
          have q3 : 0 < a0.size := (by have : (0 : Int) < (a0.size : Int) := of_decide_eq_true (by first | (with_reducible assumption) | assumption); omega)
          have hx3 : ∀ h : 0 < a0.size, ((a0[0]'h).toNat : Int) = bt a0 0 := bt_at a0 0
          clear p3
          have qi3 : (0 < (a0.size : Int)) = True := eq_true (of_decide_eq_true (by first | (with_reducible assumption) | assumption))
          replace q3 := eq_true q3
          have p5 : 0 ≤ (1 : Int) := (by omega)
          have q5 : 1 < a0.size := (by have : (1 : Int) < (a0.size : Int) := of_decide_eq_true (by first | (with_reducible assumption) | assumption); omega)
          have hx5 : ∀ h : 1 < a0.size, ((a0[1]'h).toNat : Int) = bt a0 1 := bt_at a0 1
          clear p5
          have qi5 : (1 < (a0.size : Int)) = True := eq_true (of_decide_eq_true (by first | (with_reducible assumption) | assumption))
          replace q5 := eq_true q5
          have p6 : 0 ≤ (1 : Int) := (by omega)
          have q6 : 1 < a0.size := (by have : (1 : Int) < (a0.size : Int) := of_decide_eq_true (by first | (with_reducible assumption) | assumption); omega)
          have hx6 : ∀ h : 1 < a0.size, ((a0[1]'h).toNat : Int) = bt a0 1 := bt_at a0 1
          clear p6
          have qi6 : (1 < (a0.size : Int)) = True := eq_true (of_decide_eq_true (by first | (with_reducible assumption) | assumption))
          replace q6 := eq_true q6
          have p8 : 0 ≤ (2 : Int) := (by omega)
          have q8 : 2 < a0.size := (by have : (2 : Int) < (a0.size : Int) := of_decide_eq_true (by first | (with_reducible assumption) | assumption); omega)
          have hx8 : ∀ h : 2 < a0.size, ((a0[2]'h).toNat : Int) = bt a0 2 := bt_at a0 2
          clear p8
          have qi8 : (2 < (a0.size : Int)) = True := eq_true (of_decide_eq_true (by first | (with_reducible assumption) | assumption))
          replace q8 := eq_true q8
          have p10 : 0 ≤ (3 : Int) := (by omega)
          have q10 : 3 < a0.size := (by have : (3 : Int) < (a0.size : Int) := of_decide_eq_true (by first | (with_reducible assumption) | assumption); omega)
          have hx10 : ∀ h : 3 < a0.size, ((a0[3]'h).toNat : Int) = bt a0 3 := bt_at a0 3
          clear p10
          have qi10 : (3 < (a0.size : Int)) = True := eq_true (of_decide_eq_true (by first | (with_reducible assumption) | assumption))
          replace q10 := eq_true q10
          refine start_ (n := 21) (S := fun w' => True) (ds := []) #[false, false, false, false, false, false, false, false, false, false, false, false, false, false, false, false, false, false, false, false, false] (by kernel_rfl) rfl rfl trivial (fun hHeld => ?_); refine with_tabW spec_l1Get.tab1 spec_l1Get.bits1 (fun HT_ HW_ => ?_)
          generalize w44.drew = w45 at BK206 HB hHeld ⊢
          refine pz 0 4 ?_
          refine pz 3 7 ?_
          refine pz 7 11 ?_
          refine pz 12 16 ?_
          refine pz 15 19 ?_
          refine take_ (i := 1) (N := some 5) (v := ?_) (a' := ?_) #[true, true, false, true, false, false, false, true, false, false, false, false, true, false, false, true, false, false, false, false, false] rfl rfl (take_ofW HT_.out HW_.out (by kernel_rfl)) (fun _ _ _ h => h) (Or.inl ⟨by rfl, ?_⟩) hHeld ?_ ?_
          rotate_left
          ·intro w' _
           go_simp
           with_reducible rfl
          rotate_left
          ·simp only [Act.put, List.setIfInBounds_toArray, List.set_cons_zero, List.set_cons_succ, i64_w, i32_w]
           rfl
          refine pz 2 6 ?_
          refine take_ (i := 4) (N := some 8) (v := ?_) (a' := ?_) #[true, true, true, true, true, false, false, true, false, false, false, false, true, false, false, true, false, false, false, false, false] rfl rfl (take_ofW HT_.out HW_.out (by kernel_rfl)) (fun _ _ _ h => h) (Or.inl ⟨by rfl, ?_⟩) hHeld ?_ ?_
          rotate_left
          ·intro w' _
           go_simp
           with_reducible rfl
          rotate_left
          ·simp only [Act.put, List.setIfInBounds_toArray, List.set_cons_zero, List.set_cons_succ, i64_w, i32_w]
           rfl
          refine pz 5 9 ?_
          refine pz 6 10 ?_
          refine take_ (i := 8) (N := some 12) (v := ?_) (a' := ?_) #[true, true, true, true, true, true, true, true, true, false, false, false, true, false, false, true, false, false, false, false, false] rfl rfl (take_ofW HT_.out HW_.out (by kernel_rfl)) (fun _ _ _ h => h) (Or.inl ⟨by rfl, ?_⟩) hHeld ?_ ?_
          rotate_left
          ·intro w' _
           go_simp
           with_reducible rfl
          rotate_left
          ·simp only [Act.put, List.setIfInBounds_toArray, List.set_cons_zero, List.set_cons_succ, i64_w, i32_w]
           rfl
          refine pz 9 13 ?_
          refine pz 10 14 ?_
          refine pz 11 15 ?_
          refine take_ (i := 13) (N := some 17) (v := ?_) (a' := ?_) #[true, true, true, true, true, true, true, true, true, true, true, true, true, true, false, true, false, false, false, false, false] rfl rfl (take_ofW HT_.out HW_.out (by kernel_rfl)) (fun _ _ _ h => h) (Or.inl ⟨by rfl, ?_⟩) hHeld ?_ ?_
          rotate_left
          ·intro w' _
           go_simp
           with_reducible rfl
          rotate_left
          ·simp only [Act.put, List.setIfInBounds_toArray, List.set_cons_zero, List.set_cons_succ, i64_w, i32_w]
           rfl
          refine pz 14 18 ?_
          refine take_ (i := 16) (N := some 20) (v := ?_) (a' := ?_) #[true, true, true, true, true, true, true, true, true, true, true, true, true, true, true, true, true, false, false, false, false] rfl rfl (take_ofW HT_.out HW_.out (by kernel_rfl)) (fun _ _ _ h => h) (Or.inl ⟨by rfl, ?_⟩) hHeld ?_ ?_
          rotate_left
          ·intro w' _
           go_simp
           with_reducible rfl
          rotate_left
          ·simp only [Act.put, List.setIfInBounds_toArray, List.set_cons_zero, List.set_cons_succ, i64_w, i32_w]
           rfl
          refine pz 17 21 ?_
          refine pz 18 22 ?_
          refine oz 19 3 fun K hK => ?_
          refine box_step ?hg (N := 3) ?hd (cs := #[.int .i64 0, .int .i64 0, .int .i64 0, .int .i64 0, .int .i64 0, .int .i64 0]) (t := 38) ?hr ?_; (case hd => rfl); (case hg => rfl); (case hr => first | (go_simp; done) | (go_simp; rfl))
          intro gb207 hg w46 hbox hb
          have BK207 := Aside0.mk hbox
          have GW207 := zW hg
          have GE207 := zW hg
          replace HB := zS hb
          have NB206_207 := zl BK206 hg rfl
          have NB207_206 := zg BK206 hg rfl
          replace BK206 := zb BK206 hb rfl
          clear hb hbox hg
          refine hK.out _ _ trivial (fun hHeld => ?_)
          clear hK K
          refine nz ?_
          refine oN 20 fun K hK => ?_
          have hs47 : w46.cell? ⟨gb207, 0, none⟩ = some (.int .i64 0) := (blk_cell BK207.out 0).trans rfl
          have hfs47 := blk_frozen BK207.out 0
          have hns47_0 := NB206_207.out
          have hms47_0 := NB207_206.out
          have hs48 : w46.cell? ⟨gb207, 1, none⟩ = some (.int .i64 0) := (blk_cell BK207.out 1).trans rfl
          have hfs48 := blk_frozen BK207.out 1
          have hns48_0 := NB206_207.out
          have hms48_0 := NB207_206.out
          have hs49 : w46.cell? ⟨gb207, 2, none⟩ = some (.int .i64 0) := (blk_cell BK207.out 2).trans rfl
          have hfs49 := blk_frozen BK207.out 2
          have hns49_0 := NB206_207.out
          have hms49_0 := NB207_206.out
          have hs50 : w46.cell? ⟨gb207, 3, none⟩ = some (.int .i64 0) := (blk_cell BK207.out 3).trans rfl
          have hfs50 := blk_frozen BK207.out 3
          have hns50_0 := NB206_207.out
          have hms50_0 := NB207_206.out
          have hs51 : w46.cell? ⟨gb207, 4, none⟩ = some (.int .i64 0) := (blk_cell BK207.out 4).trans rfl
          have hfs51 := blk_frozen BK207.out 4
          have hns51_0 := NB206_207.out
          have hms51_0 := NB207_206.out
          have hs52 : w46.cell? ⟨gb207, 5, none⟩ = some (.int .i64 0) := (blk_cell BK207.out 5).trans rfl
          have hfs52 := blk_frozen BK207.out 5
          have hns52_0 := NB206_207.out
          have hms52_0 := NB207_206.out
          refine skip_ (w1 := ?_) (by rfl) rfl ?_ ?_
          rotate_left
          ·go_simp
           rfl
          refine hK.out _ _ trivial (fun hHeld => ?_)
          clear hK K
          refine done_ (done_of HT_.out (by kernel_rfl)) ?_
          have hnb53 := NB207_206.out
          have hnc53 := NB206_207.out
          obtain ⟨hcz54_0, hcz54_1, hcz54_2, hcz54_3, hcz54_4, hcz54_5, hfz54_0, hfz54_1, hfz54_2, hfz54_3, hfz54_4, hfz54_5⟩ := zc6 BK207
          try go_wp2
          have n0_ : Aside0 (((((((w46.setCell ⟨gb207, 0, none⟩ (.int .i64 (wrap64 (bt a0 0)))).setCell ⟨gb207, 1, none⟩ (.int .i64 (wrap64 (Int.tdiv (wrap64 (bt a0 1)) 16)))).setCell ⟨gb207, 2, none⟩ (.int .i64 (wrap64 ((Int.tmod (wrap64 (bt a0 1)) 16) - 1)))).setCell ⟨gb207, 3, none⟩ (.int .i64 (wrap64 (bt a0 2)))).setCell ⟨gb207, 4, none⟩ (.int .i64 0)).setCell ⟨gb207, 5, none⟩ (.int .i64 (wrap64 (bt a0 3)))).heap[gb206]? = some (.cells #[.int .i64 0, .int .i64 0, .int .i64 0, .int .i64 0, .int .i64 0, .int .i64 0] 38 (0, 0))) := ⟨by refine fq ?_ NB206_207.out; refine fq ?_ NB206_207.out; refine fq ?_ NB206_207.out; refine fq ?_ NB206_207.out; refine fq ?_ NB206_207.out; refine fq ?_ NB206_207.out; exact bq BK206.out⟩
          have n1_ : Aside0 (((((((w46.setCell ⟨gb207, 0, none⟩ (.int .i64 (wrap64 (bt a0 0)))).setCell ⟨gb207, 1, none⟩ (.int .i64 (wrap64 (Int.tdiv (wrap64 (bt a0 1)) 16)))).setCell ⟨gb207, 2, none⟩ (.int .i64 (wrap64 ((Int.tmod (wrap64 (bt a0 1)) 16) - 1)))).setCell ⟨gb207, 3, none⟩ (.int .i64 (wrap64 (bt a0 2)))).setCell ⟨gb207, 4, none⟩ (.int .i64 0)).setCell ⟨gb207, 5, none⟩ (.int .i64 (wrap64 (bt a0 3)))).heap[gb207]? = some (.cells #[.int .i64 (wrap64 (bt a0 0)), .int .i64 (wrap64 (Int.tdiv (wrap64 (bt a0 1)) 16)), .int .i64 (wrap64 ((Int.tmod (wrap64 (bt a0 1)) 16) - 1)), .int .i64 (wrap64 (bt a0 2)), .int .i64 0, .int .i64 (wrap64 (bt a0 3))] 38 (0, 0))) := ⟨by refine bq ?_; refine blk_put (cs := #[.int .i64 (wrap64 (bt a0 0)), .int .i64 (wrap64 (Int.tdiv (wrap64 (bt a0 1)) 16)), .int .i64 (wrap64 ((Int.tmod (wrap64 (bt a0 1)) 16) - 1)), .int .i64 (wrap64 (bt a0 2)), .int .i64 0, .int .i64 0]) ?_ 5 _ rfl; refine bq ?_; refine blk_put (cs := #[.int .i64 (wrap64 (bt a0 0)), .int .i64 (wrap64 (Int.tdiv (wrap64 (bt a0 1)) 16)), .int .i64 (wrap64 ((Int.tmod (wrap64 (bt a0 1)) 16) - 1)), .int .i64 (wrap64 (bt a0 2)), .int .i64 0, .int .i64 0]) ?_ 4 _ rfl; refine bq ?_; refine blk_put (cs := #[.int .i64 (wrap64 (bt a0 0)), .int .i64 (wrap64 (Int.tdiv (wrap64 (bt a0 1)) 16)), .int .i64 (wrap64 ((Int.tmod (wrap64 (bt a0 1)) 16) - 1)), .int .i64 0, .int .i64 0, .int .i64 0]) ?_ 3 _ rfl; refine bq ?_; refine blk_put (cs := #[.int .i64 (wrap64 (bt a0 0)), .int .i64 (wrap64 (Int.tdiv (wrap64 (bt a0 1)) 16)), .int .i64 0, .int .i64 0, .int .i64 0, .int .i64 0]) ?_ 2 _ rfl; refine bq ?_; refine blk_put (cs := #[.int .i64 (wrap64 (bt a0 0)), .int .i64 0, .int .i64 0, .int .i64 0, .int .i64 0, .int .i64 0]) ?_ 1 _ rfl; refine bq ?_; refine blk_put (cs := #[.int .i64 0, .int .i64 0, .int .i64 0, .int .i64 0, .int .i64 0, .int .i64 0]) ?_ 0 _ rfl; exact bq BK207.out⟩
          have n2_ : Aside0 (Below w.heap.size w ((((((w46.setCell ⟨gb207, 0, none⟩ (.int .i64 (wrap64 (bt a0 0)))).setCell ⟨gb207, 1, none⟩ (.int .i64 (wrap64 (Int.tdiv (wrap64 (bt a0 1)) 16)))).setCell ⟨gb207, 2, none⟩ (.int .i64 (wrap64 ((Int.tmod (wrap64 (bt a0 1)) 16) - 1)))).setCell ⟨gb207, 3, none⟩ (.int .i64 (wrap64 (bt a0 2)))).setCell ⟨gb207, 4, none⟩ (.int .i64 0)).setCell ⟨gb207, 5, none⟩ (.int .i64 (wrap64 (bt a0 3))))) := ⟨zB⟩
          (try clear BK206)
          (try clear BK207)
          (try clear HB)
          generalize ((((((w46.setCell ⟨gb207, 0, none⟩ (.int .i64 (wrap64 (bt a0 0)))).setCell ⟨gb207, 1, none⟩ (.int .i64 (wrap64 (Int.tdiv (wrap64 (bt a0 1)) 16)))).setCell ⟨gb207, 2, none⟩ (.int .i64 (wrap64 ((Int.tmod (wrap64 (bt a0 1)) 16) - 1)))).setCell ⟨gb207, 3, none⟩ (.int .i64 (wrap64 (bt a0 2)))).setCell ⟨gb207, 4, none⟩ (.int .i64 0)).setCell ⟨gb207, 5, none⟩ (.int .i64 (wrap64 (bt a0 3)))) = w55 at n0_ n1_ n2_ ⊢
          have BK206 := n0_
          have BK207 := n1_
          have HB := n2_
          clear n0_ n1_ n2_
          replace BK206 := Aside0.mk (blk_drew BK206.out)
          replace BK207 := Aside0.mk (blk_drew BK207.out)
          replace HB := Aside0.mk (below_drew1 HB.out)
          have p37 : 0 ≤ (4 : Int) := (by omega)
          have q37 : 4 < a0.size := (by have : (4 : Int) < (a0.size : Int) := of_decide_eq_true (by first | (with_reducible assumption) | assumption); omega)
          have hx37 : ∀ h : 4 < a0.size, ((a0[4]'h).toNat : Int) = bt a0 4 := bt_at a0 4
          clear p37
          have qi37 : (4 < (a0.size : Int)) = True := eq_true (of_decide_eq_true (by first | (with_reducible assumption) | assumption))
          replace q37 := eq_true q37
          have p39 : 0 ≤ (5 : Int) := (by omega)
          have q39 : 5 < a0.size := (by have : (5 : Int) < (a0.size : Int) := of_decide_eq_true (by first | (with_reducible assumption) | assumption); omega)
          have hx39 : ∀ h : 5 < a0.size, ((a0[5]'h).toNat : Int) = bt a0 5 := bt_at a0 5
          clear p39
          have qi39 : (5 < (a0.size : Int)) = True := eq_true (of_decide_eq_true (by first | (with_reducible assumption) | assumption))
          replace q39 := eq_true q39
          have p41 : 0 ≤ (6 : Int) := (by omega)
          have q41 : 6 < a0.size := (by have : (6 : Int) < (a0.size : Int) := of_decide_eq_true (by first | (with_reducible assumption) | assumption); omega)
          have hx41 : ∀ h : 6 < a0.size, ((a0[6]'h).toNat : Int) = bt a0 6 := bt_at a0 6
          clear p41
          have qi41 : (6 < (a0.size : Int)) = True := eq_true (of_decide_eq_true (by first | (with_reducible assumption) | assumption))
          replace q41 := eq_true q41
          have p43 : 0 ≤ (7 : Int) := (by omega)
          have q43 : 7 < a0.size := (by have : (7 : Int) < (a0.size : Int) := of_decide_eq_true (by first | (with_reducible assumption) | assumption); omega)
          have hx43 : ∀ h : 7 < a0.size, ((a0[7]'h).toNat : Int) = bt a0 7 := bt_at a0 7
          clear p43
          have qi43 : (7 < (a0.size : Int)) = True := eq_true (of_decide_eq_true (by first | (with_reducible assumption) | assumption))
          replace q43 := eq_true q43
          refine start_ (n := 20) (S := fun w' => True) (ds := []) #[false, false, false, false, false, false, false, false, false, false, false, false, false, false, false, false, false, false, false, false] (by kernel_rfl) rfl rfl trivial (fun hHeld => ?_); refine with_tabW spec_l1Get.tab4 spec_l1Get.bits4 (fun HT_ HW_ => ?_)
          generalize w55.drew = w56 at BK206 BK207 HB hHeld ⊢
          refine pz 0 30 ?_
          refine pz 3 33 ?_
          refine pz 8 38 ?_
          refine pz 13 43 ?_
          refine take_ (i := 1) (N := some 31) (v := ?_) (a' := ?_) #[true, true, false, true, false, false, false, false, true, false, false, false, false, true, false, false, false, false, false, false] rfl rfl (take_ofW HT_.out HW_.out (by kernel_rfl)) (fun _ _ _ h => h) (Or.inl ⟨by rfl, ?_⟩) hHeld ?_ ?_
          rotate_left
          ·intro w' _
           go_simp
           with_reducible rfl
          rotate_left
          ·simp only [Act.put, List.setIfInBounds_toArray, List.set_cons_zero, List.set_cons_succ, i64_w, i32_w]
           rfl
          refine pz 2 32 ?_
          refine take_ (i := 4) (N := some 34) (v := ?_) (a' := ?_) #[true, true, true, true, true, false, false, false, true, false, false, false, false, true, false, false, false, false, false, false] rfl rfl (take_ofW HT_.out HW_.out (by kernel_rfl)) (fun _ _ _ h => h) (Or.inl ⟨by rfl, ?_⟩) hHeld ?_ ?_
          rotate_left
          ·intro w' _
           go_simp
           with_reducible rfl
          rotate_left
          ·simp only [Act.put, List.setIfInBounds_toArray, List.set_cons_zero, List.set_cons_succ, i64_w, i32_w]
           rfl
          refine pz 5 35 ?_
          refine pz 6 36 ?_
          refine pz 7 37 ?_
          refine take_ (i := 9) (N := some 39) (v := ?_) (a' := ?_) #[true, true, true, true, true, true, true, true, true, true, false, false, false, true, false, false, false, false, false, false] rfl rfl (take_ofW HT_.out HW_.out (by kernel_rfl)) (fun _ _ _ h => h) (Or.inl ⟨by rfl, ?_⟩) hHeld ?_ ?_
          rotate_left
          ·intro w' _
           go_simp
           with_reducible rfl
          rotate_left
          ·simp only [Act.put, List.setIfInBounds_toArray, List.set_cons_zero, List.set_cons_succ, i64_w, i32_w]
           rfl
          refine pz 10 40 ?_
          refine pz 11 41 ?_
          refine pz 12 42 ?_
          refine take_ (i := 14) (N := some 44) (v := ?_) (a' := ?_) #[true, true, true, true, true, true, true, true, true, true, true, true, true, true, true, false, false, false, false, false] rfl rfl (take_ofW HT_.out HW_.out (by kernel_rfl)) (fun _ _ _ h => h) (Or.inl ⟨by rfl, ?_⟩) hHeld ?_ ?_
          rotate_left
          ·intro w' _
           go_simp
           with_reducible rfl
          rotate_left
          ·simp only [Act.put, List.setIfInBounds_toArray, List.set_cons_zero, List.set_cons_succ, i64_w, i32_w]
           rfl
          refine pz 15 45 ?_
          refine pz 16 46 ?_
          refine pz 17 47 ?_
          refine pz 18 48 ?_
          refine oN 19 fun K hK => ?_
          have hs57 : w56.cell? ⟨gb207, 4, none⟩ = some (.int .i64 0) := (blk_cell BK207.out 4).trans rfl
          have hfs57 := blk_frozen BK207.out 4
          have hns57_0 := NB206_207.out
          have hms57_0 := NB207_206.out
          refine skip_ (w1 := ?_) (by rfl) rfl ?_ ?_
          rotate_left
          ·go_simp
           rfl
          refine hK.out _ _ trivial (fun hHeld => ?_)
          clear hK K
          refine done_ (done_of HT_.out (by kernel_rfl)) ?_
          have hcz58_0 : w56.cell? ⟨gb207, 0, none⟩ = some (.int .i64 (wrap64 (bt a0 0))) := (blk_cell BK207.out 0).trans rfl
          have hcz58_1 : w56.cell? ⟨gb207, 1, none⟩ = some (.int .i64 (wrap64 (Int.tdiv (wrap64 (bt a0 1)) 16))) := (blk_cell BK207.out 1).trans rfl
          have hcz58_2 : w56.cell? ⟨gb207, 2, none⟩ = some (.int .i64 (wrap64 ((Int.tmod (wrap64 (bt a0 1)) 16) - 1))) := (blk_cell BK207.out 2).trans rfl
          have hcz58_3 : w56.cell? ⟨gb207, 3, none⟩ = some (.int .i64 (wrap64 (bt a0 2))) := (blk_cell BK207.out 3).trans rfl
          have hcz58_4 : w56.cell? ⟨gb207, 4, none⟩ = some (.int .i64 0) := (blk_cell BK207.out 4).trans rfl
          have hcz58_5 : w56.cell? ⟨gb207, 5, none⟩ = some (.int .i64 (wrap64 (bt a0 3))) := (blk_cell BK207.out 5).trans rfl
          have hfz58_0 := blk_frozen BK207.out 0
          have hfz58_1 := blk_frozen BK207.out 1
          have hfz58_2 := blk_frozen BK207.out 2
          have hfz58_3 := blk_frozen BK207.out 3
          have hfz58_4 := blk_frozen BK207.out 4
          have hfz58_5 := blk_frozen BK207.out 5
          obtain ⟨hcz59_0, hcz59_1, hcz59_2, hcz59_3, hcz59_4, hcz59_5, hfz59_0, hfz59_1, hfz59_2, hfz59_3, hfz59_4, hfz59_5⟩ := zc6 BK206
          try go_wp2
          refine bodyPost_ret (results_cell_row rfl _ _ gb206 38 #[.int .i64 (wrap64 (bt a0 0)), .int .i64 (wrap64 (Int.tdiv (wrap64 (bt a0 1)) 16)), .int .i64 (wrap64 ((Int.tmod (wrap64 (bt a0 1)) 16) - 1)), .int .i64 (wrap64 (bt a0 2)), .int .i64 (Go.bits .or .i64 (Go.bits .or .i64 (Go.bits .or .i64 (wrap64 (bt a0 4)) (wrap64 ((wrap64 (bt a0 5)) * 256))) (wrap64 ((wrap64 (bt a0 6)) * 65536))) (wrap64 ((wrap64 (bt a0 7)) * 16777216))), .int .i64 (wrap64 (bt a0 3))] (0, 0) _ rfl (by refine bq ?_; refine blk_put (cs := #[.int .i64 (wrap64 (bt a0 0)), .int .i64 (wrap64 (Int.tdiv (wrap64 (bt a0 1)) 16)), .int .i64 (wrap64 ((Int.tmod (wrap64 (bt a0 1)) 16) - 1)), .int .i64 (wrap64 (bt a0 2)), .int .i64 (Go.bits .or .i64 (Go.bits .or .i64 (Go.bits .or .i64 (wrap64 (bt a0 4)) (wrap64 ((wrap64 (bt a0 5)) * 256))) (wrap64 ((wrap64 (bt a0 6)) * 65536))) (wrap64 ((wrap64 (bt a0 7)) * 16777216))), .int .i64 0]) ?_ 5 _ rfl; refine bq ?_; refine blk_put (cs := #[.int .i64 (wrap64 (bt a0 0)), .int .i64 (wrap64 (Int.tdiv (wrap64 (bt a0 1)) 16)), .int .i64 (wrap64 ((Int.tmod (wrap64 (bt a0 1)) 16) - 1)), .int .i64 (wrap64 (bt a0 2)), .int .i64 0, .int .i64 0]) ?_ 4 _ rfl; refine bq ?_; refine blk_put (cs := #[.int .i64 (wrap64 (bt a0 0)), .int .i64 (wrap64 (Int.tdiv (wrap64 (bt a0 1)) 16)), .int .i64 (wrap64 ((Int.tmod (wrap64 (bt a0 1)) 16) - 1)), .int .i64 0, .int .i64 0, .int .i64 0]) ?_ 3 _ rfl; refine bq ?_; refine blk_put (cs := #[.int .i64 (wrap64 (bt a0 0)), .int .i64 (wrap64 (Int.tdiv (wrap64 (bt a0 1)) 16)), .int .i64 0, .int .i64 0, .int .i64 0, .int .i64 0]) ?_ 2 _ rfl; refine bq ?_; refine blk_put (cs := #[.int .i64 (wrap64 (bt a0 0)), .int .i64 0, .int .i64 0, .int .i64 0, .int .i64 0, .int .i64 0]) ?_ 1 _ rfl; refine bq ?_; refine blk_put (cs := #[.int .i64 0, .int .i64 0, .int .i64 0, .int .i64 0, .int .i64 0, .int .i64 0]) ?_ 0 _ rfl; refine fq ?_ NB206_207.out; exact bq BK206.out) Try.underlying38 rfl (by kernel_rfl)) rfl ?_
          exact ⟨zR, zB⟩
         ·rw [if_neg c42] at H
          exact absurd H (by simp)
        ·rw [if_neg c40] at H
         exact absurd H (by simp)
       ·rw [if_neg c38] at H
        exact absurd H (by simp)
      ·rw [if_neg c36] at H
       exact absurd H (by simp)
    ·rw [if_neg c9] at H
     exact absurd H (by simp)
   ·rw [if_neg c7] at H
    exact absurd H (by simp)
  ·rw [if_neg c4] at H
   exact absurd H (by simp)
 ·rw [if_neg c2] at H
  exact absurd H (by simp)

end Go.Proofs.Ytdfgaaeieneaoaa.Q
