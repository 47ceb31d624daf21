/- The machine's side of this seat's laws: Go functions as Lean functions, and their contracts. By a program of this work over the kit's print. -/
import Derived.Test.YtdfgaaeieneaoaaQ0
import Derived.Test.YtdfgaaeieneaoaaQ6
import Derived.Test.YtdfgaaeieneaoaaQ7
namespace Go.Proofs.Ytdfgaaeieneaoaa.Q
open Go.RowKit Go.Proofs.YtdfgaaeieneaoaaW.PrintWords Go.Proofs.YtdfgaaeieneaoaaW.PrintLast Go.Proofs.YtdfgaaeieneaoaaW.PrintMore
attribute [local go_sem] max2_int min2_int max_two min_two max_three min_three max_four min_four Go.Proofs.YtdfgaaeieneaoaaN.not_i64 Go.Proofs.YtdfgaaeieneaoaaN.isSome_setCell Go.Proofs.YtdfgaaeieneaoaaN.u8_i64   -- for this text's walks alone
set_option linter.unusedVariables false
set_option linter.unusedSimpArgs false
theorem dz11 {p : Prop} [Decidable p] (h : decide p = true := by first | (with_reducible assumption) | assumption) : p := of_decide_eq_true h
def impl_InsGet.l0 : Nat → ByteArray → Int → Int → Int → Int → Int → Int → Int → Option (Int × Int × Int × Int × Int × Int × Bool)
 | 0, _, _, _, _, _, _, _, _ => none
 | k + 1, x0, x30, x235000, x235001, x235002, x235003, x235004, x235005 => if x30 < 4 then (if 0 ≤ (wrap64 (4 + x30)) then (if (wrap64 (4 + x30)) < (x0.size : Int) then (if 0 ≤ (wrap64 (8 * x30)) then (impl_InsGet.l0 k x0 (wrap64 (x30 + 1)) x235000 x235001 x235002 x235003 (Go.bits .or .i64 x235004 (shl .i64 (wrap64 (bt x0 (wrap64 (4 + x30)))) (wrap64 (8 * x30)))) x235005) else (none)) else (none)) else (none)) else ((impl_InsOk.f x235000 x235001 x235002 x235003 x235004 x235005).bind fun t235 => (if t235 = true then ((impl_InsPut.f k x235000 x235001 x235002 x235003 x235004 x235005).bind fun t236 => (if t236.toList = x0.toList then (some (x235000, x235001, x235002, x235003, x235004, x235005, true)) else (some (0, 0, 0, 0, 0, 0, false)))) else (some (0, 0, 0, 0, 0, 0, false))))
def impl_InsGet.f (k : Nat) (a0 : ByteArray) : Option (Int × Int × Int × Int × Int × Int × Bool) := if (a0.size : Int) = 8 then (if 0 < (a0.size : Int) then (if 1 < (a0.size : Int) then (if 2 < (a0.size : Int) then (if 3 < (a0.size : Int) then (impl_InsGet.l0 k a0 0 (wrap64 (bt a0 0)) ((Int.tdiv (bt a0 1) 16) % 256) (wrap64 ((wrap64 (Int.tmod (bt a0 1) 16)) - 1)) (wrap64 (IntKind.i8.wrap (bt a0 2))) 0 (wrap64 (bt a0 3))) else (none)) else (none)) else (none)) else (none)) else (some (0, 0, 0, 0, 0, 0, false))
def impl_InsGet.T3 : Bool × List (List Nat × List Nat) := (true, [([], []), ([0], [0]), ([1], [1]), ([], []), ([3], [3]), ([4], [4]), ([5], [5]), ([], []), ([7], [7]), ([8], [8]), ([9], [9]), ([10], [10]), ([], []), ([12], [12]), ([13], [13]), ([14], [14]), ([], []), ([16], [16]), ([17], [17]), ([2, 6, 11, 15, 18], [2, 6, 11, 15, 18]), ([], []), ([20, 19, 0, 1, 2, 3, 4, 5, 6, 7, 8, 9, 10, 11, 12, 13, 14, 15, 16, 17, 18, 19, 20], [19, 20])])
def impl_InsGet.B3 : List Nat := [0, 1, 3, 0, 8, 24, 56, 0, 128, 384, 896, 1920, 0, 4096, 12288, 28672, 0, 65536, 196608, 524287, 0, 2097151]
theorem impl_InsGet.tab3 : rtab .any (opsOf Try.f28 3) = impl_InsGet.T3 := by kernel_rfl
theorem impl_InsGet.bits3 : waitsOk impl_InsGet.T3.2 impl_InsGet.B3 = true := by kernel_rfl
def impl_InsGet.T7 : Bool × List (List Nat × List Nat) := (true, [([], []), ([0], [0]), ([], []), ([], []), ([3], [3]), ([2, 4], [2, 4]), ([5], [5]), ([], []), ([7], [7]), ([6, 8], [6, 8]), ([1, 9], [1, 9]), ([0, 1, 2, 3, 4, 5, 6, 7, 8, 9, 10], []), ([11, 10, 0, 1, 2, 3, 4, 5, 6, 7, 8, 9, 10], [10, 11])])
def impl_InsGet.B7 : List Nat := [0, 1, 0, 0, 8, 28, 60, 0, 128, 508, 1023, 2047, 4095]
theorem impl_InsGet.tab7 : rtab .any (opsOf Try.f28 7) = impl_InsGet.T7 := by kernel_rfl
theorem impl_InsGet.bits7 : waitsOk impl_InsGet.T7.2 impl_InsGet.B7 = true := by kernel_rfl
set_option maxHeartbeats 8000000 in
set_option maxRecDepth 100000 in
theorem impl_InsGet.calls (k : Nat) (a0 : ByteArray) (r1 : Int) (r2 : Int) (r3 : Int) (r4 : Int) (r5 : Int) (r6 : Int) (r7 : Bool) (w : World) (h : impl_InsGet.f k a0 = some (r1, r2, r3, r4, r5, r6, r7)) :
  Calls Try.prog 28 #[.string a0] w fun e w' => e = .returned (.tuple #[.agg #[.int .i64 r1, .int .i64 r2, .int .i64 r3, .int .i64 r4, .int .i64 r5, .int .i64 r6], .bool r7]) ∧ Below w.heap.size w w' := by
 have hu38 := Try.underlying38
 have HB := Aside0.mk (Below.refl w.heap.size w)
 have H : (if (a0.size : Int) = 8 then (if 0 < (a0.size : Int) then (if 1 < (a0.size : Int) then (if 2 < (a0.size : Int) then (if 3 < (a0.size : Int) then (impl_InsGet.l0 k a0 0 (wrap64 (bt a0 0)) ((Int.tdiv (bt a0 1) 16) % 256) (wrap64 ((wrap64 (Int.tmod (bt a0 1) 16)) - 1)) (wrap64 (IntKind.i8.wrap (bt a0 2))) 0 (wrap64 (bt a0 3))) else (none)) else (none)) else (none)) else (none)) else (some (0, 0, 0, 0, 0, 0, false))) = some (r1, r2, r3, r4, r5, r6, r7) := h
 clear h
 by_cases c2 : (a0.size : Int) = 8
 ·rw [if_pos c2] at H
  have c2b0 : ((a0.size : Int) == 8) = true := beq_iff_eq.mpr c2
  have c2b1 : ((a0.size : Int) != 8) = false := bne_eq_false_iff_eq.mpr c2
  clear c2
  by_cases c3 : 0 < (a0.size : Int)
  ·rw [if_pos c3] at H
   have c3b0 : decide (0 < (a0.size : Int)) = true := decide_eq_true c3
   have c3b1 : decide (0 < a0.size) = true := decide_eq_true (by omega)
   clear c3
   by_cases c5 : 1 < (a0.size : Int)
   ·rw [if_pos c5] at H
    have c5b0 : decide (1 < (a0.size : Int)) = true := decide_eq_true c5
    have c5b1 : decide (1 < a0.size) = true := decide_eq_true (by omega)
    clear c5
    by_cases c8 : 2 < (a0.size : Int)
    ·rw [if_pos c8] at H
     have c8b0 : decide (2 < (a0.size : Int)) = true := decide_eq_true c8
     have c8b1 : decide (2 < a0.size) = true := decide_eq_true (by omega)
     clear c8
     by_cases c10 : 3 < (a0.size : Int)
     ·rw [if_pos c10] at H
      have c10b0 : decide (3 < (a0.size : Int)) = true := decide_eq_true c10
      have c10b1 : decide (3 < a0.size) = true := decide_eq_true (by omega)
      clear c10
      have H' := Aside0.mk H
      clear H
      go_enter Try.func28, Try.ntmps28
      try go_wp2_with (first | ((with_reducible refine gate_dst (N := 2) rfl ?_); refine be 2 #[.int .i64 0, .int .i64 0, .int .i64 0, .int .i64 0, .int .i64 0, .int .i64 0] 38 ?_; intro gb233 hg w12 hbox hb; have BK233 := Aside0.mk hbox; have GW233 := zW hg; replace HB := zS hb; have GE233 := GW233; clear hb hbox hg))
      replace BK233 := Aside0.mk (blk_drew BK233.out)
      replace HB := Aside0.mk (below_drew1 HB.out)
      have p4 : 0 ≤ (0 : Int) := (by omega)
      have q4 : 0 < a0.size := (by have : (0 : Int) < (a0.size : Int) := dz11; omega)
      have hx4 : ∀ h : 0 < a0.size, ((a0[0]'h).toNat : Int) = bt a0 0 := bt_at a0 0
      clear p4
      have qi4 : (0 < (a0.size : Int)) = True := eq_true (dz11)
      replace q4 := eq_true q4
      have p6 : 0 ≤ (1 : Int) := (by omega)
      have q6 : 1 < a0.size := (by have : (1 : Int) < (a0.size : Int) := dz11; omega)
      have hx6 : ∀ h : 1 < a0.size, ((a0[1]'h).toNat : Int) = bt a0 1 := bt_at a0 1
      clear p6
      have qi6 : (1 < (a0.size : Int)) = True := eq_true (dz11)
      replace q6 := eq_true q6
      have p7 : 0 ≤ (1 : Int) := (by omega)
      have q7 : 1 < a0.size := (by have : (1 : Int) < (a0.size : Int) := dz11; omega)
      have hx7 : ∀ h : 1 < a0.size, ((a0[1]'h).toNat : Int) = bt a0 1 := bt_at a0 1
      clear p7
      have qi7 : (1 < (a0.size : Int)) = True := eq_true (dz11)
      replace q7 := eq_true q7
      have p9 : 0 ≤ (2 : Int) := (by omega)
      have q9 : 2 < a0.size := (by have : (2 : Int) < (a0.size : Int) := dz11; omega)
      have hx9 : ∀ h : 2 < a0.size, ((a0[2]'h).toNat : Int) = bt a0 2 := bt_at a0 2
      clear p9
      have qi9 : (2 < (a0.size : Int)) = True := eq_true (dz11)
      replace q9 := eq_true q9
      have p11 : 0 ≤ (3 : Int) := (by omega)
      have q11 : 3 < a0.size := (by have : (3 : Int) < (a0.size : Int) := dz11; omega)
      have hx11 : ∀ h : 3 < a0.size, ((a0[3]'h).toNat : Int) = bt a0 3 := bt_at a0 3
      clear p11
      have qi11 : (3 < (a0.size : Int)) = True := eq_true (dz11)
      replace q11 := eq_true q11
      refine start_ (n := 22) (S := fun w' => True) (ds := []) #[false, false, false, false, false, false, false, false, false, false, false, false, false, false, false, false, false, false, false, false, false, false] (by kernel_rfl) rfl rfl trivial (fun hHeld => ?_); refine with_tabW impl_InsGet.tab3 impl_InsGet.bits3 (fun HT_ HW_ => ?_)
      generalize w12.drew = w13 at BK233 HB hHeld ⊢
      refine pz 0 10 ?_
      refine pz 3 13 ?_
      refine pz 7 17 ?_
      refine pz 12 22 ?_
      refine pz 16 26 ?_
      refine take_ (i := 1) (N := some 11) (v := ?_) (a' := ?_) #[true, true, false, true, false, false, false, true, false, false, false, false, true, false, false, false, true, false, false, false, false, false] rfl rfl (take_ofW HT_.out HW_.out (by kernel_rfl)) (fun _ _ _ h => h) (Or.inl ⟨by rfl, ?_⟩) hHeld ?_ ?_
      rotate_left
      ·intro w' _
       go_simp
       with_reducible rfl
      rotate_left
      ·simp only [Act.put, List.setIfInBounds_toArray, List.set_cons_zero, List.set_cons_succ, i64_w, i32_w]
       rfl
      refine pz 2 12 ?_
      refine take_ (i := 4) (N := some 14) (v := ?_) (a' := ?_) #[true, true, true, true, true, false, false, true, false, false, false, false, true, false, false, false, true, false, false, false, false, false] rfl rfl (take_ofW HT_.out HW_.out (by kernel_rfl)) (fun _ _ _ h => h) (Or.inl ⟨by rfl, ?_⟩) hHeld ?_ ?_
      rotate_left
      ·intro w' _
       go_simp
       with_reducible rfl
      rotate_left
      ·simp only [Act.put, List.setIfInBounds_toArray, List.set_cons_zero, List.set_cons_succ, i64_w, i32_w]
       rfl
      refine pz 5 15 ?_
      refine pz 6 16 ?_
      refine take_ (i := 8) (N := some 18) (v := ?_) (a' := ?_) #[true, true, true, true, true, true, true, true, true, false, false, false, true, false, false, false, true, false, false, false, false, false] rfl rfl (take_ofW HT_.out HW_.out (by kernel_rfl)) (fun _ _ _ h => h) (Or.inl ⟨by rfl, ?_⟩) hHeld ?_ ?_
      rotate_left
      ·intro w' _
       go_simp
       with_reducible rfl
      rotate_left
      ·simp only [Act.put, List.setIfInBounds_toArray, List.set_cons_zero, List.set_cons_succ, i64_w, i32_w]
       rfl
      refine pz 9 19 ?_
      refine pz 10 20 ?_
      refine pz 11 21 ?_
      refine take_ (i := 13) (N := some 23) (v := ?_) (a' := ?_) #[true, true, true, true, true, true, true, true, true, true, true, true, true, true, false, false, true, false, false, false, false, false] rfl rfl (take_ofW HT_.out HW_.out (by kernel_rfl)) (fun _ _ _ h => h) (Or.inl ⟨by rfl, ?_⟩) hHeld ?_ ?_
      rotate_left
      ·intro w' _
       go_simp
       with_reducible rfl
      rotate_left
      ·simp only [Act.put, List.setIfInBounds_toArray, List.set_cons_zero, List.set_cons_succ, i64_w, i32_w]
       rfl
      refine pz 14 24 ?_
      refine pz 15 25 ?_
      refine take_ (i := 17) (N := some 27) (v := ?_) (a' := ?_) #[true, true, true, true, true, true, true, true, true, true, true, true, true, true, true, true, true, true, false, false, false, false] rfl rfl (take_ofW HT_.out HW_.out (by kernel_rfl)) (fun _ _ _ h => h) (Or.inl ⟨by rfl, ?_⟩) hHeld ?_ ?_
      rotate_left
      ·intro w' _
       go_simp
       with_reducible rfl
      rotate_left
      ·simp only [Act.put, List.setIfInBounds_toArray, List.set_cons_zero, List.set_cons_succ, i64_w, i32_w]
       rfl
      refine pz 18 28 ?_
      refine pz 19 29 ?_
      refine oz 20 4 fun K hK => ?_
      refine box_step ?hg (N := 4) ?hd (cs := #[.int .i64 0, .int .i64 0, .int .i64 0, .int .i64 0, .int .i64 0, .int .i64 0]) (t := 38) ?hr ?_; (case hd => rfl); (case hg => rfl); (case hr => first | (go_simp; done) | (go_simp; rfl))
      intro gb234 hg w14 hbox hb
      have BK234 := Aside0.mk hbox
      have GW234 := zW hg
      have GE234 := zW hg
      replace HB := zS hb
      have NB233_234 := zl BK233 hg rfl
      have NB234_233 := zg BK233 hg rfl
      replace BK233 := zb BK233 hb rfl
      clear hb hbox hg
      refine hK.out _ _ trivial (fun hHeld => ?_)
      clear hK K
      refine nz ?_
      refine oN 21 fun K hK => ?_
      have hs15 : w14.cell? ⟨gb234, 0, none⟩ = some (.int .i64 0) := (blk_cell BK234.out 0).trans rfl
      have hfs15 := blk_frozen BK234.out 0
      have hns15_0 := NB233_234.out
      have hms15_0 := NB234_233.out
      have hs16 : w14.cell? ⟨gb234, 1, none⟩ = some (.int .i64 0) := (blk_cell BK234.out 1).trans rfl
      have hfs16 := blk_frozen BK234.out 1
      have hns16_0 := NB233_234.out
      have hms16_0 := NB234_233.out
      have hs17 : w14.cell? ⟨gb234, 2, none⟩ = some (.int .i64 0) := (blk_cell BK234.out 2).trans rfl
      have hfs17 := blk_frozen BK234.out 2
      have hns17_0 := NB233_234.out
      have hms17_0 := NB234_233.out
      have hs18 : w14.cell? ⟨gb234, 3, none⟩ = some (.int .i64 0) := (blk_cell BK234.out 3).trans rfl
      have hfs18 := blk_frozen BK234.out 3
      have hns18_0 := NB233_234.out
      have hms18_0 := NB234_233.out
      have hs19 : w14.cell? ⟨gb234, 4, none⟩ = some (.int .i64 0) := (blk_cell BK234.out 4).trans rfl
      have hfs19 := blk_frozen BK234.out 4
      have hns19_0 := NB233_234.out
      have hms19_0 := NB234_233.out
      have hs20 : w14.cell? ⟨gb234, 5, none⟩ = some (.int .i64 0) := (blk_cell BK234.out 5).trans rfl
      have hfs20 := blk_frozen BK234.out 5
      have hns20_0 := NB233_234.out
      have hms20_0 := NB234_233.out
      refine skip_ (w1 := ?_) (by rfl) rfl ?_ ?_
      rotate_left
      ·go_simp
       rfl
      refine hK.out _ _ trivial (fun hHeld => ?_)
      clear hK K
      refine done_ (done_of HT_.out (by kernel_rfl)) ?_
      try go_wp2
      go_loopg [30] k (fun kq v30 w' => ∃ (x30_1 : Int) (x235004_1 : Int), v30 = .int .i64 x30_1 ∧ Aside0 (impl_InsGet.l0 kq a0 x30_1 (wrap64 (bt a0 0)) ((Int.tdiv (bt a0 1) 16) % 256) (wrap64 ((wrap64 (Int.tmod (bt a0 1) 16)) - 1)) (wrap64 (IntKind.i8.wrap (bt a0 2))) x235004_1 (wrap64 (bt a0 3)) = some (r1, r2, r3, r4, r5, r6, r7)) ∧ Aside0 (kq ≤ k) ∧ Aside0 (w'.heap[gb233]? = some (.cells #[.int .i64 0, .int .i64 0, .int .i64 0, .int .i64 0, .int .i64 0, .int .i64 0] 38 (0, 0))) ∧ Aside0 (w'.heap[gb234]? = some (.cells #[.int .i64 (wrap64 (bt a0 0)), .int .i64 ((Int.tdiv (bt a0 1) 16) % 256), .int .i64 (wrap64 ((wrap64 (Int.tmod (bt a0 1) 16)) - 1)), .int .i64 (wrap64 (IntKind.i8.wrap (bt a0 2))), .int .i64 x235004_1, .int .i64 (wrap64 (bt a0 3))] 38 (0, 0))) ∧ Aside0 (Below w.heap.size w w'))
      case atStart => exact ⟨(0), (0), (by first | rfl | (simp; done) | (simp [*]; done)), H', ⟨Nat.le_refl _⟩, ⟨by refine fq ?_ NB233_234.out; refine fq ?_ NB233_234.out; refine fq ?_ NB233_234.out; refine fq ?_ NB233_234.out; refine fq ?_ NB233_234.out; refine fq ?_ NB233_234.out; exact bq BK233.out⟩, ⟨by refine bq ?_; refine blk_put (cs := #[.int .i64 (wrap64 (bt a0 0)), .int .i64 ((Int.tdiv (bt a0 1) 16) % 256), .int .i64 (wrap64 ((wrap64 (Int.tmod (bt a0 1) 16)) - 1)), .int .i64 (wrap64 (IntKind.i8.wrap (bt a0 2))), .int .i64 0, .int .i64 0]) ?_ 5 _ rfl; refine bq ?_; refine blk_put (cs := #[.int .i64 (wrap64 (bt a0 0)), .int .i64 ((Int.tdiv (bt a0 1) 16) % 256), .int .i64 (wrap64 ((wrap64 (Int.tmod (bt a0 1) 16)) - 1)), .int .i64 (wrap64 (IntKind.i8.wrap (bt a0 2))), .int .i64 0, .int .i64 0]) ?_ 4 _ rfl; refine bq ?_; refine blk_put (cs := #[.int .i64 (wrap64 (bt a0 0)), .int .i64 ((Int.tdiv (bt a0 1) 16) % 256), .int .i64 (wrap64 ((wrap64 (Int.tmod (bt a0 1) 16)) - 1)), .int .i64 0, .int .i64 0, .int .i64 0]) ?_ 3 _ rfl; refine bq ?_; refine blk_put (cs := #[.int .i64 (wrap64 (bt a0 0)), .int .i64 ((Int.tdiv (bt a0 1) 16) % 256), .int .i64 0, .int .i64 0, .int .i64 0, .int .i64 0]) ?_ 2 _ rfl; refine bq ?_; refine blk_put (cs := #[.int .i64 (wrap64 (bt a0 0)), .int .i64 0, .int .i64 0, .int .i64 0, .int .i64 0, .int .i64 0]) ?_ 1 _ rfl; refine bq ?_; refine blk_put (cs := #[.int .i64 0, .int .i64 0, .int .i64 0, .int .i64 0, .int .i64 0, .int .i64 0]) ?_ 0 _ rfl; exact bq BK234.out⟩, ⟨zB⟩⟩
      case round =>
       clear H'
       try clear c1
       try clear p1
       try clear q1
       try clear hx1
       try clear qi1
       try clear c2
       try clear c2b0
       try clear c2b1
       try clear p2
       try clear c3
       try clear c3b0
       try clear c3b1
       try clear p4 p4
       try clear q4 q4
       try clear hx4
       try clear qi4
       try clear c5
       try clear c5b0
       try clear c5b1
       try clear p6 p6
       try clear q6 q6
       try clear hx6
       try clear qi6
       try clear p7 p7
       try clear q7 q7
       try clear hx7
       try clear qi7
       try clear c8
       try clear c8b0
       try clear c8b1
       try clear p9 p9
       try clear q9 q9
       try clear hx9
       try clear qi9
       try clear c10
       try clear c10b0
       try clear c10b1
       try clear p11 p11
       try clear q11 q11
       try clear hx11
       try clear qi11
       obtain ⟨x30_1, x235004_1, rfl, HA, HK1, BK233, BK234, HB⟩ := hrel
       cases gk with
       | zero => exact absurd HA.out (by simp [impl_InsGet.l0])
       | succ k1 =>
        have H := HA.out
        clear HA
        simp only [impl_InsGet.l0] at H
        by_cases c21 : x30_1 < 4
        ·rw [if_pos c21] at H
         have c21b0 : decide (x30_1 < 4) = true := decide_eq_true c21
         clear c21
         obtain ⟨ji22, hji22⟩ : ∃ j_ : Int, (wrap64 (4 + x30_1)) = j_ := ⟨_, rfl⟩
         replace H : (if 0 ≤ (ji22) then (if (ji22) < (a0.size : Int) then (if 0 ≤ (wrap64 (8 * x30_1)) then (impl_InsGet.l0 k1 a0 (wrap64 (x30_1 + 1)) (wrap64 (bt a0 0)) ((Int.tdiv (bt a0 1) 16) % 256) (wrap64 ((wrap64 (Int.tmod (bt a0 1) 16)) - 1)) (wrap64 (IntKind.i8.wrap (bt a0 2))) (Go.bits .or .i64 x235004_1 (shl .i64 (wrap64 (bt a0 (ji22))) (wrap64 (8 * x30_1)))) (wrap64 (bt a0 3))) else (none)) else (none)) else (none)) = some (r1, r2, r3, r4, r5, r6, r7) := by first | (rw [hji22] at H; exact H) | (simp only [hji22] at H ⊢; exact H)
         have hji22w : (IntKind.i64.wrap (4 + x30_1)) = ji22 := (i64_w _).trans hji22
         by_cases c23 : 0 ≤ (ji22)
         ·rw [if_pos c23] at H
          have c23b0 : decide (0 ≤ (ji22)) = true := decide_eq_true c23
          clear c23
          by_cases c24 : (ji22) < (a0.size : Int)
          ·rw [if_pos c24] at H
           have c24b0 : decide ((ji22) < (a0.size : Int)) = true := decide_eq_true c24
           clear c24
           obtain ⟨ji26, hji26⟩ : ∃ j_ : Int, (wrap64 (8 * x30_1)) = j_ := ⟨_, rfl⟩
           replace H : (if 0 ≤ (ji26) then (impl_InsGet.l0 k1 a0 (wrap64 (x30_1 + 1)) (wrap64 (bt a0 0)) ((Int.tdiv (bt a0 1) 16) % 256) (wrap64 ((wrap64 (Int.tmod (bt a0 1) 16)) - 1)) (wrap64 (IntKind.i8.wrap (bt a0 2))) (Go.bits .or .i64 x235004_1 (shl .i64 (wrap64 (bt a0 (ji22))) (ji26))) (wrap64 (bt a0 3))) else (none)) = some (r1, r2, r3, r4, r5, r6, r7) := by first | (rw [hji26] at H; exact H) | (simp only [hji26] at H ⊢; exact H)
           have hji26w : (IntKind.i64.wrap (8 * x30_1)) = ji26 := (i64_w _).trans hji26
           by_cases c27 : 0 ≤ (ji26)
           ·rw [if_pos c27] at H
            have c27b0 := eq_true c27
            have c27b1 : decide (0 ≤ (ji26)) = true := decide_eq_true c27
            clear c27
            obtain ⟨ji28, hji28⟩ : ∃ j_ : Int, (shl .i64 (wrap64 (bt a0 (ji22))) (ji26)) = j_ := ⟨_, rfl⟩
            replace H : (impl_InsGet.l0 k1 a0 (wrap64 (x30_1 + 1)) (wrap64 (bt a0 0)) ((Int.tdiv (bt a0 1) 16) % 256) (wrap64 ((wrap64 (Int.tmod (bt a0 1) 16)) - 1)) (wrap64 (IntKind.i8.wrap (bt a0 2))) (Go.bits .or .i64 x235004_1 (ji28)) (wrap64 (bt a0 3))) = some (r1, r2, r3, r4, r5, r6, r7) := by first | (rw [hji28] at H; exact H) | (simp only [hji28] at H ⊢; exact H)
            have hji28_ : (IntKind.i64.wrap ((wrap64 (bt a0 (ji22))) * 2 ^ min (ji26).toNat 64)) = ji28 := hji28
            have hji28z : (ji26) ≤ 64 → (IntKind.i64.wrap ((wrap64 (bt a0 (ji22))) * 2 ^ (ji26).toNat)) = ji28 := shl_small hji28
            have hji28y : (wrap64 ((wrap64 (bt a0 (ji22))) * 2 ^ min (ji26).toNat 64)) = ji28 := (i64_w _).symm.trans hji28_
            have hji28x : (ji26) ≤ 64 → (wrap64 ((wrap64 (bt a0 (ji22))) * 2 ^ (ji26).toNat)) = ji28 := fun h_ => (i64_w _).symm.trans (hji28z h_)
            have H' := Aside0.mk H
            clear H
            try go_wp2
            replace BK233 := Aside0.mk (blk_drew BK233.out)
            replace BK234 := Aside0.mk (blk_drew BK234.out)
            replace HB := Aside0.mk (below_drew1 HB.out)
            have p25 : 0 ≤ ((ji22) : Int) := dz11
            have q25 : (ji22) < (a0.size : Int) := dz11
            have hx25 := bt_at a0 (ji22)
            replace p25 := eq_true p25
            replace q25 := eq_true q25
            refine start_ (n := 13) (S := fun w' => w'.cell? ⟨gb234, 0, none⟩ = some (.int .i64 (wrap64 (bt a0 0))) ∧ w'.cell? ⟨gb234, 1, none⟩ = some (.int .i64 ((Int.tdiv (bt a0 1) 16) % 256)) ∧ w'.cell? ⟨gb234, 2, none⟩ = some (.int .i64 (wrap64 ((wrap64 (Int.tmod (bt a0 1) 16)) - 1))) ∧ w'.cell? ⟨gb234, 3, none⟩ = some (.int .i64 (wrap64 (IntKind.i8.wrap (bt a0 2)))) ∧ w'.cell? ⟨gb234, 4, none⟩ = some (.int .i64 x235004_1) ∧ w'.cell? ⟨gb234, 5, none⟩ = some (.int .i64 (wrap64 (bt a0 3)))) (ds := [12]) #[false, false, false, false, false, false, false, false, false, false, false, false, false] (by kernel_rfl) rfl rfl ⟨(blk_cell BK234.out 0).trans rfl, (blk_cell BK234.out 1).trans rfl, (blk_cell BK234.out 2).trans rfl, (blk_cell BK234.out 3).trans rfl, (blk_cell BK234.out 4).trans rfl, (blk_cell BK234.out 5).trans rfl⟩ (fun hHeld => ?_); refine with_tabW impl_InsGet.tab7 impl_InsGet.bits7 (fun HT_ HW_ => ?_)
            generalize wr.drew = w29 at BK233 BK234 HB hHeld ⊢
            refine pz 0 33 ?_
            refine pz 2 35 ?_
            refine pz 3 36 ?_
            refine pz 4 37 ?_
            refine pz 7 40 ?_
            refine pz 8 41 ?_
            refine tz 1 34 ?_
            refine tz 5 38 ?_
            refine pz 6 39 ?_
            refine pz 9 42 ?_
            refine pz 10 43 ?_
            refine pz 11 44 ?_
            refine last_ (i := 12) (N := none) #[true, true, true, true, true, true, true, true, true, true, true, true, true] rfl rfl (one_of HT_.out (by kernel_rfl)) (by decide) (fun K hK => ?_)
            have hs30 : w29.cell? ⟨gb234, 4, none⟩ = some (.int .i64 x235004_1) := (blk_cell BK234.out 4).trans rfl
            have hfs30 := blk_frozen BK234.out 4
            have hns30_0 := NB233_234.out
            have hms30_0 := NB234_233.out
            refine skip_ (w1 := ?_) (by rfl) rfl ?_ ?_
            rotate_left
            ·go_simp
             rfl
            refine hK.out _ _ ?_
            clear hK K
            refine done_ (done_of HT_.out (by kernel_rfl)) ?_
            try go_wp2
            go_roundg k1
            case measure => have := HK1.out; omega
            case rel => exact ⟨(wrap64 (x30_1 + 1)), (Go.bits .or .i64 x235004_1 (ji28)), (by first | rfl | (simp; done) | (simp [*]; done)), H', ⟨by have := HK1.out; omega⟩, ⟨by refine fq ?_ NB233_234.out; exact bq BK233.out⟩, ⟨by refine bq ?_; refine blk_put (cs := #[.int .i64 (wrap64 (bt a0 0)), .int .i64 ((Int.tdiv (bt a0 1) 16) % 256), .int .i64 (wrap64 ((wrap64 (Int.tmod (bt a0 1) 16)) - 1)), .int .i64 (wrap64 (IntKind.i8.wrap (bt a0 2))), .int .i64 x235004_1, .int .i64 (wrap64 (bt a0 3))]) ?_ 4 _ rfl; exact bq BK234.out⟩, ⟨zB⟩⟩
           ·rw [if_neg c27] at H
            exact absurd H (by simp)
          ·rw [if_neg c24] at H
           exact absurd H (by simp)
         ·rw [if_neg c23] at H
          exact absurd H (by simp)
        ·rw [if_neg c21] at H
         have c21b0 : decide (x30_1 < 4) = false := decide_eq_false c21
         clear c21
         replace H := Option.bind_eq_some_iff.mp H
         obtain ⟨t235, A310, H⟩ := H
         try dsimp only at H
         have A31 := Aside0.mk A310
         clear A310
         by_cases c32 : t235 = true
         ·subst c32
          rw [if_pos rfl] at H
          replace H := Option.bind_eq_some_iff.mp H
          obtain ⟨t236, A330, H⟩ := H
          try dsimp only at H
          have A33 := Aside0.mk A330
          clear A330
          by_cases c34 : t236.toList = a0.toList
          ·rw [if_pos c34] at H
           have c34b0 : (t236.toList == a0.toList) = true := beq_iff_eq.mpr c34
           have c34b1 : (t236.toList != a0.toList) = false := bne_eq_false_iff_eq.mpr c34
           clear c34
           simp only [Option.some.injEq, Prod.mk.injEq] at H
           obtain ⟨rfl, rfl, rfl, rfl, rfl, rfl, rfl⟩ := H
           have hnb35 := NB234_233.out
           have hnc35 := NB233_234.out
           have hcz36_0 : wr.cell? ⟨gb234, 0, none⟩ = some (.int .i64 (wrap64 (bt a0 0))) := (blk_cell BK234.out 0).trans rfl
           have hcz36_1 : wr.cell? ⟨gb234, 1, none⟩ = some (.int .i64 ((Int.tdiv (bt a0 1) 16) % 256)) := (blk_cell BK234.out 1).trans rfl
           have hcz36_2 : wr.cell? ⟨gb234, 2, none⟩ = some (.int .i64 (wrap64 ((wrap64 (Int.tmod (bt a0 1) 16)) - 1))) := (blk_cell BK234.out 2).trans rfl
           have hcz36_3 : wr.cell? ⟨gb234, 3, none⟩ = some (.int .i64 (wrap64 (IntKind.i8.wrap (bt a0 2)))) := (blk_cell BK234.out 3).trans rfl
           have hcz36_4 : wr.cell? ⟨gb234, 4, none⟩ = some (.int .i64 x235004_1) := (blk_cell BK234.out 4).trans rfl
           have hcz36_5 : wr.cell? ⟨gb234, 5, none⟩ = some (.int .i64 (wrap64 (bt a0 3))) := (blk_cell BK234.out 5).trans rfl
           have hfz36_0 := blk_frozen BK234.out 0
           have hfz36_1 := blk_frozen BK234.out 1
           have hfz36_2 := blk_frozen BK234.out 2
           have hfz36_3 := blk_frozen BK234.out 3
           have hfz36_4 := blk_frozen BK234.out 4
           have hfz36_5 := blk_frozen BK234.out 5
           go_wp2_with (first | ((with_reducible refine gate_callee (f := 30) rfl ?_); refine gl 47 Try.func30 #[.agg #[.int .i64 (wrap64 (bt a0 0)), .int .i64 ((Int.tdiv (bt a0 1) 16) % 256), .int .i64 (wrap64 ((wrap64 (Int.tmod (bt a0 1) 16)) - 1)), .int .i64 (wrap64 (IntKind.i8.wrap (bt a0 2))), .int .i64 x235004_1, .int .i64 (wrap64 (bt a0 3))]] ?_; (with_reducible refine (impl_InsOk.calls (wrap64 (bt a0 0)) ((Int.tdiv (bt a0 1) 16) % 256) (wrap64 ((wrap64 (Int.tmod (bt a0 1) 16)) - 1)) (wrap64 (IntKind.i8.wrap (bt a0 2))) x235004_1 (wrap64 (bt a0 3)) true _ A31.out).mono ?_); rintro e w37 ⟨rfl, hb⟩; refine ⟨_, rfl, ?_⟩; replace BK233 := zb BK233 hb rfl; replace BK234 := zb BK234 hb rfl; replace HB := zS hb; try clear hb; have hcz38_0 : w37.cell? ⟨gb234, 0, none⟩ = some (.int .i64 (wrap64 (bt a0 0))) := (blk_cell BK234.out 0).trans rfl; have hcz38_1 : w37.cell? ⟨gb234, 1, none⟩ = some (.int .i64 ((Int.tdiv (bt a0 1) 16) % 256)) := (blk_cell BK234.out 1).trans rfl; have hcz38_2 : w37.cell? ⟨gb234, 2, none⟩ = some (.int .i64 (wrap64 ((wrap64 (Int.tmod (bt a0 1) 16)) - 1))) := (blk_cell BK234.out 2).trans rfl; have hcz38_3 : w37.cell? ⟨gb234, 3, none⟩ = some (.int .i64 (wrap64 (IntKind.i8.wrap (bt a0 2)))) := (blk_cell BK234.out 3).trans rfl; have hcz38_4 : w37.cell? ⟨gb234, 4, none⟩ = some (.int .i64 x235004_1) := (blk_cell BK234.out 4).trans rfl; have hcz38_5 : w37.cell? ⟨gb234, 5, none⟩ = some (.int .i64 (wrap64 (bt a0 3))) := (blk_cell BK234.out 5).trans rfl; have hfz38_0 := blk_frozen BK234.out 0; have hfz38_1 := blk_frozen BK234.out 1; have hfz38_2 := blk_frozen BK234.out 2; have hfz38_3 := blk_frozen BK234.out 3; have hfz38_4 := blk_frozen BK234.out 4; have hfz38_5 := blk_frozen BK234.out 5) | (go_at_call 18; (with_reducible refine (impl_InsPut.calls k1 (wrap64 (bt a0 0)) ((Int.tdiv (bt a0 1) 16) % 256) (wrap64 ((wrap64 (Int.tmod (bt a0 1) 16)) - 1)) (wrap64 (IntKind.i8.wrap (bt a0 2))) x235004_1 (wrap64 (bt a0 3)) t236 _ A33.out).mono ?_); rintro e w39 ⟨rfl, hb⟩; replace BK233 := zb BK233 hb rfl; replace BK234 := zb BK234 hb rfl; replace HB := zS hb; try clear hb; have hcz40_0 : w39.cell? ⟨gb234, 0, none⟩ = some (.int .i64 (wrap64 (bt a0 0))) := (blk_cell BK234.out 0).trans rfl; have hcz40_1 : w39.cell? ⟨gb234, 1, none⟩ = some (.int .i64 ((Int.tdiv (bt a0 1) 16) % 256)) := (blk_cell BK234.out 1).trans rfl; have hcz40_2 : w39.cell? ⟨gb234, 2, none⟩ = some (.int .i64 (wrap64 ((wrap64 (Int.tmod (bt a0 1) 16)) - 1))) := (blk_cell BK234.out 2).trans rfl; have hcz40_3 : w39.cell? ⟨gb234, 3, none⟩ = some (.int .i64 (wrap64 (IntKind.i8.wrap (bt a0 2)))) := (blk_cell BK234.out 3).trans rfl; have hcz40_4 : w39.cell? ⟨gb234, 4, none⟩ = some (.int .i64 x235004_1) := (blk_cell BK234.out 4).trans rfl; have hcz40_5 : w39.cell? ⟨gb234, 5, none⟩ = some (.int .i64 (wrap64 (bt a0 3))) := (blk_cell BK234.out 5).trans rfl; have hfz40_0 := blk_frozen BK234.out 0; have hfz40_1 := blk_frozen BK234.out 1; have hfz40_2 := blk_frozen BK234.out 2; have hfz40_3 := blk_frozen BK234.out 3; have hfz40_4 := blk_frozen BK234.out 4; have hfz40_5 := blk_frozen BK234.out 5; obtain ⟨hcz41_0, hcz41_1, hcz41_2, hcz41_3, hcz41_4, hcz41_5, hfz41_0, hfz41_1, hfz41_2, hfz41_3, hfz41_4, hfz41_5⟩ := zc6 BK233))
           refine bodyPost_ret (results_ct rfl _ _ gb233 38 #[.int .i64 (wrap64 (bt a0 0)), .int .i64 ((Int.tdiv (bt a0 1) 16) % 256), .int .i64 (wrap64 ((wrap64 (Int.tmod (bt a0 1) 16)) - 1)), .int .i64 (wrap64 (IntKind.i8.wrap (bt a0 2))), .int .i64 x235004_1, .int .i64 (wrap64 (bt a0 3))] (0, 0) _ rfl (by refine bq ?_; refine blk_put (cs := #[.int .i64 (wrap64 (bt a0 0)), .int .i64 ((Int.tdiv (bt a0 1) 16) % 256), .int .i64 (wrap64 ((wrap64 (Int.tmod (bt a0 1) 16)) - 1)), .int .i64 (wrap64 (IntKind.i8.wrap (bt a0 2))), .int .i64 x235004_1, .int .i64 0]) ?_ 5 _ rfl; refine bq ?_; refine blk_put (cs := #[.int .i64 (wrap64 (bt a0 0)), .int .i64 ((Int.tdiv (bt a0 1) 16) % 256), .int .i64 (wrap64 ((wrap64 (Int.tmod (bt a0 1) 16)) - 1)), .int .i64 (wrap64 (IntKind.i8.wrap (bt a0 2))), .int .i64 0, .int .i64 0]) ?_ 4 _ rfl; refine bq ?_; refine blk_put (cs := #[.int .i64 (wrap64 (bt a0 0)), .int .i64 ((Int.tdiv (bt a0 1) 16) % 256), .int .i64 (wrap64 ((wrap64 (Int.tmod (bt a0 1) 16)) - 1)), .int .i64 0, .int .i64 0, .int .i64 0]) ?_ 3 _ rfl; refine bq ?_; refine blk_put (cs := #[.int .i64 (wrap64 (bt a0 0)), .int .i64 ((Int.tdiv (bt a0 1) 16) % 256), .int .i64 0, .int .i64 0, .int .i64 0, .int .i64 0]) ?_ 2 _ rfl; refine bq ?_; refine blk_put (cs := #[.int .i64 (wrap64 (bt a0 0)), .int .i64 0, .int .i64 0, .int .i64 0, .int .i64 0, .int .i64 0]) ?_ 1 _ rfl; refine bq ?_; refine blk_put (cs := #[.int .i64 0, .int .i64 0, .int .i64 0, .int .i64 0, .int .i64 0, .int .i64 0]) ?_ 0 _ rfl; exact bq BK233.out) Try.underlying38 rfl (by kernel_rfl)) rfl ?_
           exact ⟨zR, zB⟩
          ·rw [if_neg c34] at H
           have c34b0 : (t236.toList == a0.toList) = false := beq_eq_false_iff_ne.mpr c34
           have c34b1 : (t236.toList != a0.toList) = true := bne_iff_ne.mpr c34
           simp only [Option.some.injEq, Prod.mk.injEq] at H
           obtain ⟨rfl, rfl, rfl, rfl, rfl, rfl, rfl⟩ := H
           have hnb42 := NB234_233.out
           have hnc42 := NB233_234.out
           have hcz43_0 : wr.cell? ⟨gb234, 0, none⟩ = some (.int .i64 (wrap64 (bt a0 0))) := (blk_cell BK234.out 0).trans rfl
           have hcz43_1 : wr.cell? ⟨gb234, 1, none⟩ = some (.int .i64 ((Int.tdiv (bt a0 1) 16) % 256)) := (blk_cell BK234.out 1).trans rfl
           have hcz43_2 : wr.cell? ⟨gb234, 2, none⟩ = some (.int .i64 (wrap64 ((wrap64 (Int.tmod (bt a0 1) 16)) - 1))) := (blk_cell BK234.out 2).trans rfl
           have hcz43_3 : wr.cell? ⟨gb234, 3, none⟩ = some (.int .i64 (wrap64 (IntKind.i8.wrap (bt a0 2)))) := (blk_cell BK234.out 3).trans rfl
           have hcz43_4 : wr.cell? ⟨gb234, 4, none⟩ = some (.int .i64 x235004_1) := (blk_cell BK234.out 4).trans rfl
           have hcz43_5 : wr.cell? ⟨gb234, 5, none⟩ = some (.int .i64 (wrap64 (bt a0 3))) := (blk_cell BK234.out 5).trans rfl
           have hfz43_0 := blk_frozen BK234.out 0
           have hfz43_1 := blk_frozen BK234.out 1
           have hfz43_2 := blk_frozen BK234.out 2
           have hfz43_3 := blk_frozen BK234.out 3
           have hfz43_4 := blk_frozen BK234.out 4
           have hfz43_5 := blk_frozen BK234.out 5
           go_wp2_with (first | ((with_reducible refine gate_callee (f := 30) rfl ?_); refine gl 47 Try.func30 #[.agg #[.int .i64 (wrap64 (bt a0 0)), .int .i64 ((Int.tdiv (bt a0 1) 16) % 256), .int .i64 (wrap64 ((wrap64 (Int.tmod (bt a0 1) 16)) - 1)), .int .i64 (wrap64 (IntKind.i8.wrap (bt a0 2))), .int .i64 x235004_1, .int .i64 (wrap64 (bt a0 3))]] ?_; (with_reducible refine (impl_InsOk.calls (wrap64 (bt a0 0)) ((Int.tdiv (bt a0 1) 16) % 256) (wrap64 ((wrap64 (Int.tmod (bt a0 1) 16)) - 1)) (wrap64 (IntKind.i8.wrap (bt a0 2))) x235004_1 (wrap64 (bt a0 3)) true _ A31.out).mono ?_); rintro e w44 ⟨rfl, hb⟩; refine ⟨_, rfl, ?_⟩; replace BK233 := zb BK233 hb rfl; replace BK234 := zb BK234 hb rfl; replace HB := zS hb; try clear hb; have hcz45_0 : w44.cell? ⟨gb234, 0, none⟩ = some (.int .i64 (wrap64 (bt a0 0))) := (blk_cell BK234.out 0).trans rfl; have hcz45_1 : w44.cell? ⟨gb234, 1, none⟩ = some (.int .i64 ((Int.tdiv (bt a0 1) 16) % 256)) := (blk_cell BK234.out 1).trans rfl; have hcz45_2 : w44.cell? ⟨gb234, 2, none⟩ = some (.int .i64 (wrap64 ((wrap64 (Int.tmod (bt a0 1) 16)) - 1))) := (blk_cell BK234.out 2).trans rfl; have hcz45_3 : w44.cell? ⟨gb234, 3, none⟩ = some (.int .i64 (wrap64 (IntKind.i8.wrap (bt a0 2)))) := (blk_cell BK234.out 3).trans rfl; have hcz45_4 : w44.cell? ⟨gb234, 4, none⟩ = some (.int .i64 x235004_1) := (blk_cell BK234.out 4).trans rfl; have hcz45_5 : w44.cell? ⟨gb234, 5, none⟩ = some (.int .i64 (wrap64 (bt a0 3))) := (blk_cell BK234.out 5).trans rfl; have hfz45_0 := blk_frozen BK234.out 0; have hfz45_1 := blk_frozen BK234.out 1; have hfz45_2 := blk_frozen BK234.out 2; have hfz45_3 := blk_frozen BK234.out 3; have hfz45_4 := blk_frozen BK234.out 4; have hfz45_5 := blk_frozen BK234.out 5) | (go_at_call 18; (with_reducible refine (impl_InsPut.calls k1 (wrap64 (bt a0 0)) ((Int.tdiv (bt a0 1) 16) % 256) (wrap64 ((wrap64 (Int.tmod (bt a0 1) 16)) - 1)) (wrap64 (IntKind.i8.wrap (bt a0 2))) x235004_1 (wrap64 (bt a0 3)) t236 _ A33.out).mono ?_); rintro e w46 ⟨rfl, hb⟩; replace BK233 := zb BK233 hb rfl; replace BK234 := zb BK234 hb rfl; replace HB := zS hb; try clear hb; obtain ⟨hcz47_0, hcz47_1, hcz47_2, hcz47_3, hcz47_4, hcz47_5, hfz47_0, hfz47_1, hfz47_2, hfz47_3, hfz47_4, hfz47_5⟩ := zc6 BK233))
           refine bodyPost_ret (results_ct rfl _ _ gb233 38 #[.int .i64 0, .int .i64 0, .int .i64 0, .int .i64 0, .int .i64 0, .int .i64 0] (0, 0) _ rfl (by refine bq ?_; refine blk_put (cs := #[.int .i64 0, .int .i64 0, .int .i64 0, .int .i64 0, .int .i64 0, .int .i64 0]) ?_ 5 _ rfl; refine bq ?_; refine blk_put (cs := #[.int .i64 0, .int .i64 0, .int .i64 0, .int .i64 0, .int .i64 0, .int .i64 0]) ?_ 4 _ rfl; refine bq ?_; refine blk_put (cs := #[.int .i64 0, .int .i64 0, .int .i64 0, .int .i64 0, .int .i64 0, .int .i64 0]) ?_ 3 _ rfl; refine bq ?_; refine blk_put (cs := #[.int .i64 0, .int .i64 0, .int .i64 0, .int .i64 0, .int .i64 0, .int .i64 0]) ?_ 2 _ rfl; refine bq ?_; refine blk_put (cs := #[.int .i64 0, .int .i64 0, .int .i64 0, .int .i64 0, .int .i64 0, .int .i64 0]) ?_ 1 _ rfl; refine bq ?_; refine blk_put (cs := #[.int .i64 0, .int .i64 0, .int .i64 0, .int .i64 0, .int .i64 0, .int .i64 0]) ?_ 0 _ rfl; exact bq BK233.out) Try.underlying38 rfl (by kernel_rfl)) rfl ?_
           exact ⟨zR, zB⟩
         ·replace c32 := Bool.eq_false_iff.mpr c32
          subst c32
          rw [if_neg (show ¬ (false = true) by decide)] at H
          simp only [Option.some.injEq, Prod.mk.injEq] at H
          obtain ⟨rfl, rfl, rfl, rfl, rfl, rfl, rfl⟩ := H
          have hnb48 := NB234_233.out
          have hnc48 := NB233_234.out
          have hcz49_0 : wr.cell? ⟨gb234, 0, none⟩ = some (.int .i64 (wrap64 (bt a0 0))) := (blk_cell BK234.out 0).trans rfl
          have hcz49_1 : wr.cell? ⟨gb234, 1, none⟩ = some (.int .i64 ((Int.tdiv (bt a0 1) 16) % 256)) := (blk_cell BK234.out 1).trans rfl
          have hcz49_2 : wr.cell? ⟨gb234, 2, none⟩ = some (.int .i64 (wrap64 ((wrap64 (Int.tmod (bt a0 1) 16)) - 1))) := (blk_cell BK234.out 2).trans rfl
          have hcz49_3 : wr.cell? ⟨gb234, 3, none⟩ = some (.int .i64 (wrap64 (IntKind.i8.wrap (bt a0 2)))) := (blk_cell BK234.out 3).trans rfl
          have hcz49_4 : wr.cell? ⟨gb234, 4, none⟩ = some (.int .i64 x235004_1) := (blk_cell BK234.out 4).trans rfl
          have hcz49_5 : wr.cell? ⟨gb234, 5, none⟩ = some (.int .i64 (wrap64 (bt a0 3))) := (blk_cell BK234.out 5).trans rfl
          have hfz49_0 := blk_frozen BK234.out 0
          have hfz49_1 := blk_frozen BK234.out 1
          have hfz49_2 := blk_frozen BK234.out 2
          have hfz49_3 := blk_frozen BK234.out 3
          have hfz49_4 := blk_frozen BK234.out 4
          have hfz49_5 := blk_frozen BK234.out 5
          go_wp2_with (first | ((with_reducible refine gate_callee (f := 30) rfl ?_); refine gl 47 Try.func30 #[.agg #[.int .i64 (wrap64 (bt a0 0)), .int .i64 ((Int.tdiv (bt a0 1) 16) % 256), .int .i64 (wrap64 ((wrap64 (Int.tmod (bt a0 1) 16)) - 1)), .int .i64 (wrap64 (IntKind.i8.wrap (bt a0 2))), .int .i64 x235004_1, .int .i64 (wrap64 (bt a0 3))]] ?_; (with_reducible refine (impl_InsOk.calls (wrap64 (bt a0 0)) ((Int.tdiv (bt a0 1) 16) % 256) (wrap64 ((wrap64 (Int.tmod (bt a0 1) 16)) - 1)) (wrap64 (IntKind.i8.wrap (bt a0 2))) x235004_1 (wrap64 (bt a0 3)) false _ A31.out).mono ?_); rintro e w50 ⟨rfl, hb⟩; refine ⟨_, rfl, ?_⟩; replace BK233 := zb BK233 hb rfl; replace BK234 := zb BK234 hb rfl; replace HB := zS hb; try clear hb; obtain ⟨hcz51_0, hcz51_1, hcz51_2, hcz51_3, hcz51_4, hcz51_5, hfz51_0, hfz51_1, hfz51_2, hfz51_3, hfz51_4, hfz51_5⟩ := zc6 BK233))
          refine bodyPost_ret (results_ct rfl _ _ gb233 38 #[.int .i64 0, .int .i64 0, .int .i64 0, .int .i64 0, .int .i64 0, .int .i64 0] (0, 0) _ rfl (by refine bq ?_; refine blk_put (cs := #[.int .i64 0, .int .i64 0, .int .i64 0, .int .i64 0, .int .i64 0, .int .i64 0]) ?_ 5 _ rfl; refine bq ?_; refine blk_put (cs := #[.int .i64 0, .int .i64 0, .int .i64 0, .int .i64 0, .int .i64 0, .int .i64 0]) ?_ 4 _ rfl; refine bq ?_; refine blk_put (cs := #[.int .i64 0, .int .i64 0, .int .i64 0, .int .i64 0, .int .i64 0, .int .i64 0]) ?_ 3 _ rfl; refine bq ?_; refine blk_put (cs := #[.int .i64 0, .int .i64 0, .int .i64 0, .int .i64 0, .int .i64 0, .int .i64 0]) ?_ 2 _ rfl; refine bq ?_; refine blk_put (cs := #[.int .i64 0, .int .i64 0, .int .i64 0, .int .i64 0, .int .i64 0, .int .i64 0]) ?_ 1 _ rfl; refine bq ?_; refine blk_put (cs := #[.int .i64 0, .int .i64 0, .int .i64 0, .int .i64 0, .int .i64 0, .int .i64 0]) ?_ 0 _ rfl; exact bq BK233.out) Try.underlying38 rfl (by kernel_rfl)) rfl ?_
          exact ⟨zR, zB⟩
     ·rw [if_neg c10] at H
      exact absurd H (by simp)
    ·rw [if_neg c8] at H
     exact absurd H (by simp)
   ·rw [if_neg c5] at H
    exact absurd H (by simp)
  ·rw [if_neg c3] at H
   exact absurd H (by simp)
 ·rw [if_neg c2] at H
  have c2b0 : ((a0.size : Int) == 8) = false := beq_eq_false_iff_ne.mpr c2
  have c2b1 : ((a0.size : Int) != 8) = true := bne_iff_ne.mpr c2
  simp only [Option.some.injEq, Prod.mk.injEq] at H
  obtain ⟨rfl, rfl, rfl, rfl, rfl, rfl, rfl⟩ := H
  go_enter Try.func28, Try.ntmps28
  go_wp2_with (first | ((with_reducible refine gate_dst (N := 2) rfl ?_); refine be 2 #[.int .i64 0, .int .i64 0, .int .i64 0, .int .i64 0, .int .i64 0, .int .i64 0] 38 ?_; intro gb233 hg w52 hbox hb; have BK233 := Aside0.mk hbox; have GW233 := zW hg; replace HB := zS hb; have GE233 := GW233; clear hb hbox hg; obtain ⟨hcz53_0, hcz53_1, hcz53_2, hcz53_3, hcz53_4, hcz53_5, hfz53_0, hfz53_1, hfz53_2, hfz53_3, hfz53_4, hfz53_5⟩ := zc6 BK233))
  refine bodyPost_ret (results_ct rfl _ _ gb233 38 #[.int .i64 0, .int .i64 0, .int .i64 0, .int .i64 0, .int .i64 0, .int .i64 0] (0, 0) _ rfl (by refine bq ?_; refine blk_put (cs := #[.int .i64 0, .int .i64 0, .int .i64 0, .int .i64 0, .int .i64 0, .int .i64 0]) ?_ 5 _ rfl; refine bq ?_; refine blk_put (cs := #[.int .i64 0, .int .i64 0, .int .i64 0, .int .i64 0, .int .i64 0, .int .i64 0]) ?_ 4 _ rfl; refine bq ?_; refine blk_put (cs := #[.int .i64 0, .int .i64 0, .int .i64 0, .int .i64 0, .int .i64 0, .int .i64 0]) ?_ 3 _ rfl; refine bq ?_; refine blk_put (cs := #[.int .i64 0, .int .i64 0, .int .i64 0, .int .i64 0, .int .i64 0, .int .i64 0]) ?_ 2 _ rfl; refine bq ?_; refine blk_put (cs := #[.int .i64 0, .int .i64 0, .int .i64 0, .int .i64 0, .int .i64 0, .int .i64 0]) ?_ 1 _ rfl; refine bq ?_; refine blk_put (cs := #[.int .i64 0, .int .i64 0, .int .i64 0, .int .i64 0, .int .i64 0, .int .i64 0]) ?_ 0 _ rfl; exact bq BK233.out) Try.underlying38 rfl (by kernel_rfl)) rfl ?_
  exact ⟨zR, zB⟩
mutual
def impl_ProgGet.j0 : Nat → ByteArray → Bool → Option ((List (S38)) × Bool)
 | 0, _, _ => none
 | k + 1, x0, x16 => if x16 = true then (some (([] : List (S38)), false)) else (if 0 ≤ (wrap64 ((x0.size : Int) / 8)) then (if (wrap64 ((x0.size : Int) / 8) : Int).toNat ≤ 5864062014805 then (impl_ProgGet.l0 k x0 (List.replicate 0 z38) 0) else (none)) else (none))
def impl_ProgGet.l0 : Nat → ByteArray → List (S38) → Int → Option ((List (S38)) × Bool)
 | 0, _, _, _ => none
 | k + 1, x0, x4, x5 => if x5 < (x0.size : Int) then (if 0 ≤ x5 then (if x5 ≤ (wrap64 (x5 + 8)) then (if (wrap64 (x5 + 8)) ≤ (x0.size : Int) then ((impl_InsGet.f k (x0.extract (x5 : Int).toNat ((wrap64 (x5 + 8)) : Int).toNat)).bind fun bt240 => (if bt240.2.2.2.2.2.2 = true then (if x4.length < 2932031007402 then (impl_ProgGet.l0 k x0 (x4 ++ [(⟨bt240.1, bt240.2.1, bt240.2.2.1, bt240.2.2.2.1, bt240.2.2.2.2.1, bt240.2.2.2.2.2.1⟩ : S38)]) (wrap64 (x5 + 8))) else (none)) else (some (([] : List (S38)), false)))) else (none)) else (none)) else (none)) else ((impl_ProgForm.f k x4).bind fun t251 => (if t251 = 0 then (some (x4, true)) else (some (([] : List (S38)), false))))
end
def impl_ProgGet.f (k : Nat) (a0 : ByteArray) : Option ((List (S38)) × Bool) := if (a0.size : Int) > 384 then (impl_ProgGet.j0 k a0 true) else (impl_ProgGet.j0 k a0 (((a0.size : Int) % 8) != 0))
set_option maxHeartbeats 8000000 in
set_option maxRecDepth 100000 in
theorem impl_ProgGet.calls (k : Nat) (a0 : ByteArray) (r1 : List (S38)) (r2 : Bool) (w : World) (h : impl_ProgGet.f k a0 = some (r1, r2)) :
  Calls Try.prog 13 #[.string a0] w fun e w' => ∃ v0_ : Value, e = .returned (.tuple #[v0_, .bool r2]) ∧ Kd.R k38 38 w' w.heap.size (fun _ => True) v0_ r1 ∧ Below w.heap.size w w' := by
 have hu38 := Try.underlying38
 have HB := Aside0.mk (Below.refl w.heap.size w)
 have H : (if (a0.size : Int) > 384 then (impl_ProgGet.j0 k a0 true) else (impl_ProgGet.j0 k a0 (((a0.size : Int) % 8) != 0))) = some (r1, r2) := h
 clear h
 have HC2 := Aside0.mk H
 clear H
 go_enter Try.func13, Try.ntmps13
 go_upto_region 1 with (fail)
 go_cut [16] (fun v16 wc => ∃ (kq : Nat) (x16_1 : Bool), v16 = .bool x16_1 ∧ Aside0 (impl_ProgGet.j0 kq a0 x16_1 = some (r1, r2)) ∧ Aside0 (kq ≤ k) ∧ Aside0 (Below w.heap.size w wc))
 case first =>
  have H := HC2.out
  clear HC2
  by_cases c3 : (a0.size : Int) > 384
  ·rw [if_pos c3] at H
   have c3b0 : decide (384 < (a0.size : Int)) = true := decide_eq_true c3
   have c3b1 : decide (384 < a0.size) = true := decide_eq_true (by omega)
   clear c3
   (first | rw [c3b0] | (simp only [i64_w, i32_w]; rw [c3b0]) | skip)
   have H' := Aside0.mk H
   clear H
   go_wp2
   go_meet
   case rel => exact ⟨_, (true), (by first | rfl | (simp; done) | (simp [*]; done)), H', ⟨by first | omega | exact Nat.le_refl _⟩, ⟨zB⟩⟩
  ·rw [if_neg c3] at H
   have c3b0 : decide (384 < (a0.size : Int)) = false := decide_eq_false c3
   have c3b1 : decide (384 < a0.size) = false := decide_eq_false (by omega)
   clear c3
   (first | rw [c3b0] | (simp only [i64_w, i32_w]; rw [c3b0]) | skip)
   have H' := Aside0.mk H
   clear H
   go_wp2
   go_meet
   case rel => exact ⟨_, ((((a0.size : Int) % 8) != 0)), (by first | rfl | (simp; done) | (simp [*]; done)), H', ⟨by first | omega | exact Nat.le_refl _⟩, ⟨zB⟩⟩
 case rest =>
  clear HC2
  try clear c1
  try clear p2
  try clear c3
  try clear c3b0
  try clear c3b1
  obtain ⟨kq, x16_1, rfl, HA, HJ1, HB⟩ := hcut
  cases kq with
  | zero => exact absurd HA.out (by simp [impl_ProgGet.j0])
  | succ kj1 =>
   have H := HA.out
   clear HA
   simp only [impl_ProgGet.j0] at H
   by_cases c4 : x16_1 = true
   ·subst c4
    rw [if_pos rfl] at H
    simp only [Option.some.injEq, Prod.mk.injEq] at H
    obtain ⟨rfl, rfl⟩ := H
    go_wp2
    go_ret2
    exact ⟨_, zR, by first | exact Kd.R_nil _ _ _ _ _ | exact Kd.N_nil _ _ _ _ _ | exact Kd.V_nil _ _ _ _ _ | exact Kd.Q_nil _ _ _ _ _ | exact Kd.S_nil _ _ _ _ _, zB⟩
   ·replace c4 := Bool.eq_false_iff.mpr c4
    subst c4
    rw [if_neg (show ¬ (false = true) by decide)] at H
    obtain ⟨ji5, hji5⟩ : ∃ j_ : Int, (wrap64 ((a0.size : Int) / 8)) = j_ := ⟨_, rfl⟩
    replace H : (if 0 ≤ (ji5) then (if (ji5 : Int).toNat ≤ 5864062014805 then (impl_ProgGet.l0 kj1 a0 (List.replicate 0 z38) 0) else (none)) else (none)) = some (r1, r2) := by first | (rw [hji5] at H; exact H) | (simp only [hji5] at H ⊢; exact H)
    have hji5w : (IntKind.i64.wrap ((a0.size : Int) / 8)) = ji5 := (i64_w _).trans hji5
    by_cases c6 : 0 ≤ (ji5)
    ·rw [if_pos c6] at H
     have c6b0 := eq_true c6
     have c6b1 : decide (0 ≤ (ji5)) = true := decide_eq_true c6
     clear c6
     by_cases c7 : (ji5 : Int).toNat ≤ 5864062014805
     ·rw [if_pos c7] at H
      have c7b0 := eq_true c7
      have c7b1 : decide ((ji5 : Int).toNat ≤ 5864062014805) = true := decide_eq_true c7
      clear c7
      obtain ⟨y237, hy237⟩ : ∃ y_ : List (S38), y_ = (List.replicate 0 z38) := ⟨_, rfl⟩
      replace H : (impl_ProgGet.l0 kj1 a0 y237 0) = some (r1, r2) := by first | (rw [hy237]; with_reducible exact H) | (have H2_ := (Option.bind_some _ _).symm.trans H; rw [hy237]; with_reducible exact H2_) | (have H2_ := (Option.bind_some _ _).symm.trans H; with_reducible exact H2_) | with_reducible exact H | (rw [hy237]; exact H) | exact H
      have Ny237 := Aside0.mk hy237
      clear hy237
      have H' := Aside0.mk H
      clear H
      go_wp2_with (first | ((with_reducible refine gate_dst (N := 20) rfl ?_); (try (refine gate_guard (by rfl) ?_; dsimp only)); refine Kd.R_make0 k38 _ 38 rfl (N := 20) rfl 25 _ _ rfl ji5 rfl rfl Try.underlying25 (.agg #[(.int .i64 0), (.int .i64 0), (.int .i64 0), (.int .i64 0), (.int .i64 0), (.int .i64 0)]) 48 info38 rfl (by decide) (by omega) z38 (ok := fun _ => True) (okp := fun _ => True) (k38_mkM _ _ _ z38 ) (fun _ hk => hk) trivial (dz11) (Nat.le_trans (Nat.mul_le_mul_right _ (dz11 : ji5.toNat ≤ 5864062014805)) (by omega)) (Below.refl _ _) (Nat.le_refl _) ?_; intro v238 w8 ho9 hb hg_ hnew_; clear hg_ hnew_; (first | rw [← Ny237.out] at ho9 | (simp only [Int.reduceToNat] at ho9; rw [← Ny237.out] at ho9)); have HO239 := Aside0.mk (Kd.R_lower ho9 (below_size zB)); replace HB := zS hb; clear hb ho9))
      go_loopg [4, 5] kj1 (fun kq v4 v5 w' => ∃ (x4_2 : List (S38)) (x5_2 : Int), v5 = .int .i64 x5_2 ∧ Aside0 (impl_ProgGet.l0 kq a0 x4_2 x5_2 = some (r1, r2)) ∧ Aside0 (kq ≤ kj1) ∧ Aside0 (Kd.R k38 38 w' w.heap.size (fun _ => True) v4 x4_2) ∧ Aside0 (Below w.heap.size w w'))
      case atStart => exact ⟨(y237), (0), (by first | rfl | (simp; done) | (simp [*]; done)), H', ⟨Nat.le_refl _⟩, ⟨by (with_reducible repeat (first | apply Kd.R_alloc | apply Kd.R_drewN | apply Kd.R_drew)); exact HO239.out⟩, ⟨zB⟩⟩
      case round =>
       clear H'
       try clear c1
       try clear p2 p2
       try clear c3
       try clear c3b0
       try clear c3b1
       try clear c4
       try clear c6
       try clear c6b0
       try clear c6b1
       try clear p6
       try clear c7
       try clear c7b0
       try clear c7b1
       obtain ⟨x4_2, x5_2, rfl, HA, HK2, HO_4, HB⟩ := hrel
       cases gk with
       | zero => exact absurd HA.out (by simp [impl_ProgGet.l0])
       | succ k2 =>
        have H := HA.out
        clear HA
        simp only [impl_ProgGet.l0] at H
        by_cases c10 : x5_2 < (a0.size : Int)
        ·rw [if_pos c10] at H
         have c10b0 : decide (x5_2 < (a0.size : Int)) = true := decide_eq_true c10
         clear c10
         by_cases c11 : 0 ≤ x5_2
         ·rw [if_pos c11] at H
          have c11b0 := eq_true c11
          have c11b1 : decide (0 ≤ x5_2) = true := decide_eq_true c11
          clear c11
          by_cases c12 : x5_2 ≤ (wrap64 (x5_2 + 8))
          ·rw [if_pos c12] at H
           have c12b0 := eq_true c12
           have c12b1 : decide (x5_2 ≤ (wrap64 (x5_2 + 8))) = true := decide_eq_true c12
           by_cases c13 : (wrap64 (x5_2 + 8)) ≤ (a0.size : Int)
           ·rw [if_pos c13] at H
            have c13b0 := eq_true c13
            have c13b1 : decide ((wrap64 (x5_2 + 8)) ≤ (a0.size : Int)) = true := decide_eq_true c13
            replace H := Option.bind_eq_some_iff.mp H
            obtain ⟨⟨t240, t241, t242, t243, t244, t245, t246⟩, A140, H⟩ := H
            try dsimp only at H
            have A14 := Aside0.mk A140
            clear A140
            by_cases c15 : t246 = true
            ·subst c15
             rw [if_pos rfl] at H
             by_cases c16 : x4_2.length < 2932031007402
             ·rw [if_pos c16] at H
              have LMc16 := Aside0.mk c16
              clear c16
              obtain ⟨y248, hy248⟩ : ∃ y_ : List (S38), y_ = (x4_2 ++ [(⟨t240, t241, t242, t243, t244, t245⟩ : S38)]) := ⟨_, rfl⟩
              replace H : (impl_ProgGet.l0 k2 a0 y248 (wrap64 (x5_2 + 8))) = some (r1, r2) := by first | (rw [hy248]; with_reducible exact H) | (have H2_ := (Option.bind_some _ _).symm.trans H; rw [hy248]; with_reducible exact H2_) | (have H2_ := (Option.bind_some _ _).symm.trans H; with_reducible exact H2_) | with_reducible exact H | (rw [hy248]; exact H) | exact H
              have Ny248 := Aside0.mk hy248
              clear hy248
              have H' := Aside0.mk H
              clear H
              go_wp2_with (first | ((with_reducible refine gate_callee (f := 28) rfl ?_); refine gl 33 Try.func28 #[.string (a0.extract (x5_2 : Int).toNat ((wrap64 (x5_2 + 8)) : Int).toNat)] ?_; (with_reducible refine (impl_InsGet.calls k2 (a0.extract (x5_2 : Int).toNat ((wrap64 (x5_2 + 8)) : Int).toNat) t240 t241 t242 t243 t244 t245 true _ A14.out).mono ?_); rintro e w17 ⟨rfl, hb⟩; refine ⟨_, rfl, ?_⟩; replace HO_4 := Aside0.mk (Kd.R_below (by (with_reducible repeat (first | apply Kd.R_alloc | apply Kd.R_drewN | apply Kd.R_drew)); exact HO_4.out) hb); replace HB := zS hb; try clear hb) | ((with_reducible refine gate_dst (N := 6) rfl ?_); (try (refine gate_guard (by rfl) ?_; dsimp only)); refine be 6 #[.int .i64 0, .int .i64 0, .int .i64 0, .int .i64 0, .int .i64 0, .int .i64 0] 38 ?_; intro gb247 hg w18 hbox hb; replace HO_4 := Aside0.mk (Kd.R_below (Kd.R_elderB (by (with_reducible repeat (first | apply Kd.R_alloc | apply Kd.R_drewN | apply Kd.R_drew)); exact HO_4.out) gb247 (Nat.le_of_eq hg.symm)) hb); have BK247 := Aside0.mk hbox; have GW247 := zW hg; replace HB := zS hb; have GE247 := GW247; clear hb hbox hg; obtain ⟨hcz19_0, hcz19_1, hcz19_2, hcz19_3, hcz19_4, hcz19_5, hfz19_0, hfz19_1, hfz19_2, hfz19_3, hfz19_4, hfz19_5⟩ := zc6 BK247) | ((with_reducible refine gate_builtin (b := .append) (xs := #[.tmp 38, .tmp 40]) rfl ?_); (try (refine gate_guard (by rfl) ?_; dsimp only)); at_builtin; refine Kd.R_append k38 (w0 := w) w.heap.size rfl (.tmp 38) (.tmp 40) 25 38 (.agg #[(.int .i64 0), (.int .i64 0), (.int .i64 0), (.int .i64 0), (.int .i64 0), (.int .i64 0)]) 48 rfl Try.underlying25 info38 rfl (by decide) (by omega) u4 x4_2 (⟨t240, t241, t242, t243, t244, t245⟩ : S38) [.int .i64 t240, .int .i64 t241, .int .i64 t242, .int .i64 t243, .int .i64 t244, .int .i64 t245] (fun k_ => k_ ≠ gb247) (fun _ => False) rfl (by first | (go_simp; done) | (go_simp; rfl)) ?aP (fun _ hk => hk.elim) ?aF ?aO ?aB ?aS ?aL ?_; (case aP => exact k38_mkM _ _ _ (⟨t240, t241, t242, t243, t244, t245⟩ : S38)); (case aB => exact zB); (case aF => exact (fun k_ hk => Kd.freshB (g := gb247) (o := .cells #[.int .i64 t240, .int .i64 t241, .int .i64 t242, .int .i64 t243, .int .i64 t244, .int .i64 t245] 38 (0, 0)) (by refine bq ?_; refine blk_put (cs := #[.int .i64 t240, .int .i64 t241, .int .i64 t242, .int .i64 t243, .int .i64 t244, .int .i64 0]) ?_ 5 _ rfl; refine bq ?_; refine blk_put (cs := #[.int .i64 t240, .int .i64 t241, .int .i64 t242, .int .i64 t243, .int .i64 0, .int .i64 0]) ?_ 4 _ rfl; refine bq ?_; refine blk_put (cs := #[.int .i64 t240, .int .i64 t241, .int .i64 t242, .int .i64 0, .int .i64 0, .int .i64 0]) ?_ 3 _ rfl; refine bq ?_; refine blk_put (cs := #[.int .i64 t240, .int .i64 t241, .int .i64 0, .int .i64 0, .int .i64 0, .int .i64 0]) ?_ 2 _ rfl; refine bq ?_; refine blk_put (cs := #[.int .i64 t240, .int .i64 0, .int .i64 0, .int .i64 0, .int .i64 0, .int .i64 0]) ?_ 1 _ rfl; refine bq ?_; refine blk_put (cs := #[.int .i64 0, .int .i64 0, .int .i64 0, .int .i64 0, .int .i64 0, .int .i64 0]) ?_ 0 _ rfl; exact bq BK247.out) k_ hk)); (case aO => exact (by (with_reducible repeat (first | apply Kd.R_alloc | apply Kd.R_drewN | apply Kd.R_drew)); exact Kd.R_mono (Kd.R_far (p := ⟨gb247, 5, none⟩) (Kd.R_far (p := ⟨gb247, 4, none⟩) (Kd.R_far (p := ⟨gb247, 3, none⟩) (Kd.R_far (p := ⟨gb247, 2, none⟩) (Kd.R_far (p := ⟨gb247, 1, none⟩) (Kd.R_far (p := ⟨gb247, 0, none⟩) (Kd.R_mono HO_4.out (fun k_ hk => (⟨hk, hk.2⟩ : _ ∧ k_ ≠ gb247))) (fun _ hk => hk.2) (.int .i64 t240)) (fun _ hk => hk.2) (.int .i64 t241)) (fun _ hk => hk.2) (.int .i64 t242)) (fun _ hk => hk.2) (.int .i64 t243)) (fun _ hk => hk.2) (.int .i64 t244)) (fun _ hk => hk.2) (.int .i64 t245)) (fun _ hk => hk.1.2))); (case aS => exact (below_size zB)); (case aL => have := LMc16.out; omega); intro v249 w20 ho hb hg hat; rw [← Ny248.out] at ho; have n0_ := Aside0.mk (blk_grown (g := gb247) (o := .cells #[.int .i64 t240, .int .i64 t241, .int .i64 t242, .int .i64 t243, .int .i64 t244, .int .i64 t245] 38 (0, 0)) (by refine bq ?_; refine blk_put (cs := #[.int .i64 t240, .int .i64 t241, .int .i64 t242, .int .i64 t243, .int .i64 t244, .int .i64 0]) ?_ 5 _ rfl; refine bq ?_; refine blk_put (cs := #[.int .i64 t240, .int .i64 t241, .int .i64 t242, .int .i64 t243, .int .i64 0, .int .i64 0]) ?_ 4 _ rfl; refine bq ?_; refine blk_put (cs := #[.int .i64 t240, .int .i64 t241, .int .i64 t242, .int .i64 0, .int .i64 0, .int .i64 0]) ?_ 3 _ rfl; refine bq ?_; refine blk_put (cs := #[.int .i64 t240, .int .i64 t241, .int .i64 0, .int .i64 0, .int .i64 0, .int .i64 0]) ?_ 2 _ rfl; refine bq ?_; refine blk_put (cs := #[.int .i64 t240, .int .i64 0, .int .i64 0, .int .i64 0, .int .i64 0, .int .i64 0]) ?_ 1 _ rfl; refine bq ?_; refine blk_put (cs := #[.int .i64 0, .int .i64 0, .int .i64 0, .int .i64 0, .int .i64 0, .int .i64 0]) ?_ 0 _ rfl; exact bq BK247.out) hg (Kd.R_away HO_4.out (fun _ hk => hk.2))); have n1_ := Aside0.mk (hb); have n2_ := Aside0.mk (ho); clear BK247; clear HB; clear HO_4; have BK247 := n0_; have HB := n1_; have HO250 := n2_; clear n0_ n1_ n2_; clear ho hb hg hat))
              go_roundg k2
              case measure => have := HJ1.out; have := HK2.out; omega
              case rel => exact ⟨(y248), (wrap64 (x5_2 + 8)), (by first | rfl | (simp; done) | (simp [*]; done)), H', ⟨by have := HJ1.out; have := HK2.out; omega⟩, ⟨by (with_reducible repeat (first | apply Kd.R_alloc | apply Kd.R_drewN | apply Kd.R_drew)); exact Kd.R_mono HO250.out (fun _ hk => trivial)⟩, ⟨zB⟩⟩
             ·rw [if_neg c16] at H
              exact absurd H (by simp)
            ·replace c15 := Bool.eq_false_iff.mpr c15
             subst c15
             rw [if_neg (show ¬ (false = true) by decide)] at H
             simp only [Option.some.injEq, Prod.mk.injEq] at H
             obtain ⟨rfl, rfl⟩ := H
             go_wp2_with (first | ((with_reducible refine gate_callee (f := 28) rfl ?_); refine gl 33 Try.func28 #[.string (a0.extract (x5_2 : Int).toNat ((wrap64 (x5_2 + 8)) : Int).toNat)] ?_; (with_reducible refine (impl_InsGet.calls k2 (a0.extract (x5_2 : Int).toNat ((wrap64 (x5_2 + 8)) : Int).toNat) t240 t241 t242 t243 t244 t245 false _ A14.out).mono ?_); rintro e w21 ⟨rfl, hb⟩; refine ⟨_, rfl, ?_⟩; replace HO_4 := Aside0.mk (Kd.R_below (by (with_reducible repeat (first | apply Kd.R_alloc | apply Kd.R_drewN | apply Kd.R_drew)); exact HO_4.out) hb); replace HB := zS hb; try clear hb) | ((with_reducible refine gate_dst (N := 6) rfl ?_); (try (refine gate_guard (by rfl) ?_; dsimp only)); refine be 6 #[.int .i64 0, .int .i64 0, .int .i64 0, .int .i64 0, .int .i64 0, .int .i64 0] 38 ?_; intro gb247 hg w22 hbox hb; replace HO_4 := Aside0.mk (Kd.R_below (Kd.R_elderB (by (with_reducible repeat (first | apply Kd.R_alloc | apply Kd.R_drewN | apply Kd.R_drew)); exact HO_4.out) gb247 (Nat.le_of_eq hg.symm)) hb); have BK247 := Aside0.mk hbox; have GW247 := zW hg; replace HB := zS hb; have GE247 := GW247; clear hb hbox hg; obtain ⟨hcz23_0, hcz23_1, hcz23_2, hcz23_3, hcz23_4, hcz23_5, hfz23_0, hfz23_1, hfz23_2, hfz23_3, hfz23_4, hfz23_5⟩ := zc6 BK247))
             go_ret2
             exact ⟨_, by first | rfl | (simp [errW_none, errW_some] <;> rfl) | (simp only [← hji5]; first | rfl | (simp [errW_none, errW_some] <;> rfl)) | (simp [*, errW_none, errW_some] <;> rfl), by first | exact Kd.R_nil _ _ _ _ _ | exact Kd.N_nil _ _ _ _ _ | exact Kd.V_nil _ _ _ _ _ | exact Kd.Q_nil _ _ _ _ _ | exact Kd.S_nil _ _ _ _ _, zB⟩
           ·rw [if_neg c13] at H
            exact absurd H (by simp)
          ·rw [if_neg c12] at H
           exact absurd H (by simp)
         ·rw [if_neg c11] at H
          exact absurd H (by simp)
        ·rw [if_neg c10] at H
         have c10b0 : decide (x5_2 < (a0.size : Int)) = false := decide_eq_false c10
         clear c10
         replace H := Option.bind_eq_some_iff.mp H
         obtain ⟨t251, A240, H⟩ := H
         try dsimp only at H
         have A24 := Aside0.mk A240
         clear A240
         by_cases c25 : t251 = 0
         ·rw [if_pos c25] at H
          have c25b0 : (t251 == 0) = true := beq_iff_eq.mpr c25
          have c25b1 : (t251 != 0) = false := bne_eq_false_iff_eq.mpr c25
          clear c25
          simp only [Option.some.injEq, Prod.mk.injEq] at H
          obtain ⟨rfl, rfl⟩ := H
          obtain ⟨Ao26, co26, eo26⟩ := Kd.R_slice HO_4.out
          subst eo26
          go_wp2_with (first | ((with_reducible refine gate_callee (f := 17) rfl ?_); refine gl 43 Try.func17 #[.slice Ao26 x4_2.length co26] ?_; (with_reducible refine (impl_ProgForm.calls k2 _ _ x4_2 t251 _ ?side1 ?side2 A24.out).mono ?_); (case side1 => repeat (first | exact (Kd.R_reads' HO_4.out).2.2 | (with_reducible refine Kd.C_alloc ?_ _) | (with_reducible refine Kd.C_drewN ?_ _) | (with_reducible refine Kd.C_drew ?_))); (case side2 => exact (Kd.R_reads' HO_4.out).2.1); rintro e w27 ⟨rfl, hb⟩; refine ⟨_, rfl, ?_⟩; replace HO_4 := Aside0.mk (Kd.R_below (by (with_reducible repeat (first | apply Kd.R_alloc | apply Kd.R_drewN | apply Kd.R_drew)); exact HO_4.out) hb); replace HB := zS hb; try clear hb))
          go_ret2
          exact ⟨_, by first | rfl | (simp [errW_none, errW_some] <;> rfl) | (simp only [← hji5]; first | rfl | (simp [errW_none, errW_some] <;> rfl)) | (simp [*, errW_none, errW_some] <;> rfl), by (with_reducible repeat (first | apply Kd.R_alloc | apply Kd.R_drewN | apply Kd.R_drew)); exact HO_4.out, zB⟩
         ·rw [if_neg c25] at H
          have c25b0 : (t251 == 0) = false := beq_eq_false_iff_ne.mpr c25
          have c25b1 : (t251 != 0) = true := bne_iff_ne.mpr c25
          simp only [Option.some.injEq, Prod.mk.injEq] at H
          obtain ⟨rfl, rfl⟩ := H
          obtain ⟨Ao28, co28, eo28⟩ := Kd.R_slice HO_4.out
          subst eo28
          go_wp2_with (first | ((with_reducible refine gate_callee (f := 17) rfl ?_); refine gl 43 Try.func17 #[.slice Ao28 x4_2.length co28] ?_; (with_reducible refine (impl_ProgForm.calls k2 _ _ x4_2 t251 _ ?side1 ?side2 A24.out).mono ?_); (case side1 => repeat (first | exact (Kd.R_reads' HO_4.out).2.2 | (with_reducible refine Kd.C_alloc ?_ _) | (with_reducible refine Kd.C_drewN ?_ _) | (with_reducible refine Kd.C_drew ?_))); (case side2 => exact (Kd.R_reads' HO_4.out).2.1); rintro e w29 ⟨rfl, hb⟩; refine ⟨_, rfl, ?_⟩; replace HO_4 := Aside0.mk (Kd.R_below (by (with_reducible repeat (first | apply Kd.R_alloc | apply Kd.R_drewN | apply Kd.R_drew)); exact HO_4.out) hb); replace HB := zS hb; try clear hb))
          go_ret2
          exact ⟨_, by first | rfl | (simp [errW_none, errW_some] <;> rfl) | (simp only [← hji5]; first | rfl | (simp [errW_none, errW_some] <;> rfl)) | (simp [*, errW_none, errW_some] <;> rfl), by first | exact Kd.R_nil _ _ _ _ _ | exact Kd.N_nil _ _ _ _ _ | exact Kd.V_nil _ _ _ _ _ | exact Kd.Q_nil _ _ _ _ _ | exact Kd.S_nil _ _ _ _ _, zB⟩
     ·rw [if_neg c7] at H
      exact absurd H (by simp)
    ·rw [if_neg c6] at H
     exact absurd H (by simp)
end Go.Proofs.Ytdfgaaeieneaoaa.Q
