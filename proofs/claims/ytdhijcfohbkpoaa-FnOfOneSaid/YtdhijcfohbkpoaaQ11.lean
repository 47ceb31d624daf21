/- The machine's side of this seat's laws: Go functions as Lean functions, and their contracts. By a program of this work over the kit's print. -/
import Derived.Test.YtdhijcfohbkpoaaQ0
import Derived.Test.YtdhijcfohbkpoaaQ8
namespace Go.Proofs.Ytdhijcfohbkpoaa.Q
open Go.RowKit Go.Proofs.YtdhijcfohbkpoaaW.PrintWords Go.Proofs.YtdhijcfohbkpoaaW.PrintLast Go.Proofs.YtdhijcfohbkpoaaW.PrintMore
attribute [local go_sem] max2_int min2_int max_two min_two max_three min_three max_four min_four Go.Proofs.YtdhijcfohbkpoaaN.not_i64 Go.Proofs.YtdhijcfohbkpoaaN.isSome_setCell   -- for this text's walks alone
set_option linter.unusedVariables false
set_option linter.unusedSimpArgs false

/-! ### impl_parted: function 47 -/
mutual
def impl_parted.j0 : Nat → Int → Bool → Int → Int → Int → Int → Int → Int → Int → Int → Option (Int × Int × Int × Int)
 | 0, _, _, _, _, _, _, _, _, _, _ => none
 | k + 1, x0, x7, x322000, x322001, x322002, x322003, x323000, x323001, x323002, x323003 => if x7 = true then (if x323001 = 0 then (none) else (if x323000 = 0 then (none) else ((impl_fromTo.f (wrap64 (Int.tdiv x322000 x323001)) (wrap64 (Int.tdiv x322001 x323000))).bind fun bt324 => (some (bt324.1, bt324.2.1, bt324.2.2.1, bt324.2.2.2))))) else (if x0 = 11 then (impl_parted.j1 k x0 (decide (x322001 < x323000)) x322000 x322001 x322002 x322003 x323000 x323001 x323002 x323003) else (impl_parted.j1 k x0 false x322000 x322001 x322002 x322003 x323000 x323001 x323002 x323003))
def impl_parted.j1 : Nat → Int → Bool → Int → Int → Int → Int → Int → Int → Int → Int → Option (Int × Int × Int × Int)
 | 0, _, _, _, _, _, _, _, _, _, _ => none
 | k + 1, x0, x26, x322000, x322001, x322002, x322003, x323000, x323001, x323002, x323003 => if x26 = true then (some (x322000, x322001, x322002, x322003)) else (if x0 = 11 then (if x323000 > 0 then (impl_parted.j2 k (decide ((wrap64 (x323001 - 1)) < x322001)) x322000 x322001 x322002 x322003 x323000 x323001 x323002 x323003) else (impl_parted.j2 k false x322000 x322001 x322002 x322003 x323000 x323001 x323002 x323003)) else (impl_parted.j2 k false x322000 x322001 x322002 x322003 x323000 x323001 x323002 x323003))
def impl_parted.j2 : Nat → Bool → Int → Int → Int → Int → Int → Int → Int → Int → Option (Int × Int × Int × Int)
 | 0, _, _, _, _, _, _, _, _, _ => none
 | k + 1, x37, x322000, x322001, x322002, x322003, x323000, x323001, x323002, x323003 => if x37 = true then ((impl_fromTo.f 0 (wrap64 (x323001 - 1))).bind fun bt328 => (some (bt328.1, bt328.2.1, bt328.2.2.1, bt328.2.2.2))) else ((impl_fromTo.f 0 x322001).bind fun bt332 => (some (bt332.1, bt332.2.1, bt332.2.2.1, bt332.2.2.2)))
end
def impl_parted.f (k : Nat) (a0 : Int) (a1_0 : Int) (a1_1 : Int) (a1_2 : Int) (a1_3 : Int) (a2_0 : Int) (a2_1 : Int) (a2_2 : Int) (a2_3 : Int) : Option (Int × Int × Int × Int) := if a0 = 10 then (impl_parted.j0 k a0 (decide (a2_0 > 0)) a1_0 a1_1 a1_2 a1_3 a2_0 a2_1 a2_2 a2_3) else (impl_parted.j0 k a0 false a1_0 a1_1 a1_2 a1_3 a2_0 a2_1 a2_2 a2_3)


def impl_parted.T2 : Bool × List (List Nat × List Nat) := (true, [([], []), ([0], [0]), ([], []), ([2], [2]), ([1, 3], [1, 3]), ([], []), ([5], [5]), ([], []), ([7], [7]), ([6, 8], [6, 8]), ([4, 9], [4, 9]), ([10, 10, 0, 1, 2, 3, 4, 5, 6, 7, 8, 9, 10], [10])])
def impl_parted.B2 : List Nat := [0, 1, 0, 4, 15, 0, 32, 0, 128, 480, 1023, 2047]
theorem impl_parted.tab2 : rtab .any (opsOf Try.f47 2) = impl_parted.T2 := by kernel_rfl
theorem impl_parted.bits2 : waitsOk impl_parted.T2.2 impl_parted.B2 = true := by kernel_rfl
set_option maxHeartbeats 8000000 in
set_option maxRecDepth 100000 in
theorem impl_parted.calls (k : Nat) (a0 : Int) (a1_0 : Int) (a1_1 : Int) (a1_2 : Int) (a1_3 : Int) (a2_0 : Int) (a2_1 : Int) (a2_2 : Int) (a2_3 : Int) (r1 : Int) (r2 : Int) (r3 : Int) (r4 : Int) (w : World) (h : impl_parted.f k a0 a1_0 a1_1 a1_2 a1_3 a2_0 a2_1 a2_2 a2_3 = some (r1, r2, r3, r4)) :
  Calls Try.prog 47 #[.int .i64 a0, .agg #[.int .i64 a1_0, .int .i64 a1_1, .int .i64 a1_2, .int .i64 a1_3], .agg #[.int .i64 a2_0, .int .i64 a2_1, .int .i64 a2_2, .int .i64 a2_3]] w fun e w' => e = .returned (.agg #[.int .i64 r1, .int .i64 r2, .int .i64 r3, .int .i64 r4]) ∧ Below w.heap.size w w' := by
 have hu24 := Try.underlying24
 have HB := Aside0.mk (Below.refl w.heap.size w)
 have H : (if a0 = 10 then (impl_parted.j0 k a0 (decide (a2_0 > 0)) a1_0 a1_1 a1_2 a1_3 a2_0 a2_1 a2_2 a2_3) else (impl_parted.j0 k a0 false a1_0 a1_1 a1_2 a1_3 a2_0 a2_1 a2_2 a2_3)) = some (r1, r2, r3, r4) := h
 clear h
 have HC4 := Aside0.mk H
 clear H
 go_enter Try.func47, Try.ntmps47
 go_upto_region 1 with (first | ((with_reducible refine gate_dst (N := 4) rfl ?_); refine be 4 #[.int .i64 a1_0, .int .i64 a1_1, .int .i64 a1_2, .int .i64 a1_3] 24 ?_; intro gb321 hg w5 hbox hb; have BK321 := Aside0.mk hbox; have GW321 := zW hg; replace HB := zS hb; have GE321 := GW321; clear hb hbox hg) | ((with_reducible refine gate_dst (N := 5) rfl ?_); refine be 5 #[.int .i64 a2_0, .int .i64 a2_1, .int .i64 a2_2, .int .i64 a2_3] 24 ?_; intro gb322 hg w6 hbox hb; have BK322 := Aside0.mk hbox; have GW322 := zW hg; replace HB := zS hb; have GE322 := GW322; have NB321_322 := zl BK321 hg rfl; have NB322_321 := zg BK321 hg rfl; replace BK321 := zb BK321 hb rfl; clear hb hbox hg) | ((with_reducible refine gate_dst (N := 6) rfl ?_); refine be 6 #[.int .i64 0, .int .i64 0, .int .i64 0, .int .i64 0] 24 ?_; intro gb323 hg w7 hbox hb; have BK323 := Aside0.mk hbox; have GW323 := zW hg; replace HB := zS hb; have GE323 := GW323; have NB321_323 := zl BK321 hg rfl; have NB323_321 := zg BK321 hg rfl; replace BK321 := zb BK321 hb rfl; have NB322_323 := zl BK322 hg rfl; have NB323_322 := zg BK322 hg rfl; replace BK322 := zb BK322 hb rfl; clear hb hbox hg))
 (try simp only [Act.put, List.setIfInBounds_toArray, List.set_cons_zero, List.set_cons_succ])
 go_cut [7] (fun v7 wc => ∃ (kq : Nat) (x7_3 : Bool), v7 = .bool x7_3 ∧ Aside0 (impl_parted.j0 kq a0 x7_3 a1_0 a1_1 a1_2 a1_3 a2_0 a2_1 a2_2 a2_3 = some (r1, r2, r3, r4)) ∧ Aside0 (kq ≤ k) ∧ Aside0 (wc.heap[gb321]? = some (.cells #[.int .i64 a1_0, .int .i64 a1_1, .int .i64 a1_2, .int .i64 a1_3] 24 (0, 0))) ∧ Aside0 (wc.heap[gb322]? = some (.cells #[.int .i64 a2_0, .int .i64 a2_1, .int .i64 a2_2, .int .i64 a2_3] 24 (0, 0))) ∧ Aside0 (wc.heap[gb323]? = some (.cells #[.int .i64 0, .int .i64 0, .int .i64 0, .int .i64 0] 24 (0, 0))) ∧ Aside0 (Below w.heap.size w wc))
 case first =>
  have H := HC4.out
  clear HC4
  by_cases c8 : a0 = 10
  ·rw [if_pos c8] at H
   have c8b0 : (a0 == 10) = true := beq_iff_eq.mpr c8
   have c8b1 : (a0 != 10) = false := bne_eq_false_iff_eq.mpr c8
   clear c8
   (first | rw [c8b0] | (simp only [i64_w, i32_w]; rw [c8b0]) | skip)
   have H' := Aside0.mk H
   clear H
   have hnb9 := NB322_321.out
   have hnc9 := NB321_322.out
   have hnb10 := NB322_323.out
   have hnc10 := NB323_322.out
   obtain ⟨hcz11_0, hcz11_1, hcz11_2, hcz11_3, hfz11_0, hfz11_1, hfz11_2, hfz11_3⟩ := zc4 BK322
   go_wp2
   go_meet
   case rel => exact ⟨_, (decide (a2_0 > 0)), (by first | rfl | (simp; done) | (simp [*]; done)), H', ⟨by first | omega | exact Nat.le_refl _⟩, ⟨by exact bq BK321.out⟩, ⟨by exact bq BK322.out⟩, ⟨by exact bq BK323.out⟩, ⟨zB⟩⟩
  ·rw [if_neg c8] at H
   have c8b0 : (a0 == 10) = false := beq_eq_false_iff_ne.mpr c8
   have c8b1 : (a0 != 10) = true := bne_iff_ne.mpr c8
   (first | rw [c8b0] | (simp only [i64_w, i32_w]; rw [c8b0]) | skip)
   have H' := Aside0.mk H
   clear H
   go_wp2
   go_meet
   case rel => exact ⟨_, (false), (by first | rfl | (simp; done) | (simp [*]; done)), H', ⟨by first | omega | exact Nat.le_refl _⟩, ⟨by exact bq BK321.out⟩, ⟨by exact bq BK322.out⟩, ⟨by exact bq BK323.out⟩, ⟨zB⟩⟩
 case rest =>
  clear HC4
  try clear c1
  try clear p2
  try clear c4
  try clear c8
  try clear c8b0
  try clear c8b1
  try clear c9
  try clear c10
  try clear hcz11_0 hcz11_1 hcz11_2 hcz11_3 hfz11_0 hfz11_1 hfz11_2 hfz11_3
  obtain ⟨kq, x7_3, rfl, HA, HJ3, BK321, BK322, BK323, HB⟩ := hcut
  cases kq with
  | zero => exact absurd HA.out (by simp [impl_parted.j0])
  | succ kj3 =>
   have H := HA.out
   clear HA
   simp only [impl_parted.j0] at H
   by_cases c12 : x7_3 = true
   ·subst c12
    rw [if_pos rfl] at H
    by_cases c13 : a2_1 = 0
    ·rw [if_pos c13] at H
     exact absurd H (by simp)
    ·rw [if_neg c13] at H
     have c13b0 : (a2_1 == 0) = false := beq_eq_false_iff_ne.mpr c13
     have c13b1 : (a2_1 != 0) = true := bne_iff_ne.mpr c13
     by_cases c14 : a2_0 = 0
     ·rw [if_pos c14] at H
      exact absurd H (by simp)
     ·rw [if_neg c14] at H
      have c14b0 : (a2_0 == 0) = false := beq_eq_false_iff_ne.mpr c14
      have c14b1 : (a2_0 != 0) = true := bne_iff_ne.mpr c14
      replace H := Option.bind_eq_some_iff.mp H
      obtain ⟨⟨t324, t325, t326, t327⟩, A150, H⟩ := H
      try dsimp only at H
      have A15 := Aside0.mk A150
      clear A150
      simp only [Option.some.injEq, Prod.mk.injEq] at H
      obtain ⟨rfl, rfl, rfl, rfl⟩ := H
      try go_wp2
      replace BK321 := Aside0.mk (blk_drew BK321.out)
      replace BK322 := Aside0.mk (blk_drew BK322.out)
      replace BK323 := Aside0.mk (blk_drew BK323.out)
      replace HB := Aside0.mk (below_drew1 HB.out)
      refine start_ (n := 12) (S := fun w' => w'.cell? ⟨gb321, 0, none⟩ = some (.int .i64 a1_0) ∧ w'.cell? ⟨gb321, 1, none⟩ = some (.int .i64 a1_1) ∧ w'.cell? ⟨gb321, 2, none⟩ = some (.int .i64 a1_2) ∧ w'.cell? ⟨gb321, 3, none⟩ = some (.int .i64 a1_3) ∧ w'.cell? ⟨gb322, 0, none⟩ = some (.int .i64 a2_0) ∧ w'.cell? ⟨gb322, 1, none⟩ = some (.int .i64 a2_1) ∧ w'.cell? ⟨gb322, 2, none⟩ = some (.int .i64 a2_2) ∧ w'.cell? ⟨gb322, 3, none⟩ = some (.int .i64 a2_3)) (ds := []) #[false, false, false, false, false, false, false, false, false, false, false, false] (by kernel_rfl) rfl rfl ⟨(blk_cell BK321.out 0).trans rfl, (blk_cell BK321.out 1).trans rfl, (blk_cell BK321.out 2).trans rfl, (blk_cell BK321.out 3).trans rfl, (blk_cell BK322.out 0).trans rfl, (blk_cell BK322.out 1).trans rfl, (blk_cell BK322.out 2).trans rfl, (blk_cell BK322.out 3).trans rfl⟩ (fun hHeld => ?_); refine with_tabW impl_parted.tab2 impl_parted.bits2 (fun HT_ HW_ => ?_)
      generalize wc.drew = w16 at BK321 BK322 BK323 HB hHeld ⊢
      refine pz 0 15 ?_
      refine pz 2 17 ?_
      refine pz 5 20 ?_
      refine pz 7 22 ?_
      refine tz 1 16 ?_
      refine tz 3 18 ?_
      refine pz 4 19 ?_
      refine tz 6 21 ?_
      refine tz 8 23 ?_
      refine pz 9 24 ?_
      refine oz 10 25 fun K hK => ?_
      refine gz Try.func43 #[.int .i64 (wrap64 (Int.tdiv a1_0 a2_1)), .int .i64 (wrap64 (Int.tdiv a1_1 a2_0))] ?_
      with_reducible refine (impl_fromTo.calls (wrap64 (Int.tdiv a1_0 a2_1)) (wrap64 (Int.tdiv a1_1 a2_0)) t324 t325 t326 t327 _ A15.out).mono ?_
      rintro e w17 ⟨rfl, hb⟩
      refine ⟨_, rfl, ?_⟩
      replace BK321 := zb BK321 hb rfl
      replace BK322 := zb BK322 hb rfl
      replace BK323 := zb BK323 hb rfl
      replace HB := zS hb
      try clear hb
      refine hK.out _ _ ⟨(blk_cell BK321.out 0).trans rfl, (blk_cell BK321.out 1).trans rfl, (blk_cell BK321.out 2).trans rfl, (blk_cell BK321.out 3).trans rfl, (blk_cell BK322.out 0).trans rfl, (blk_cell BK322.out 1).trans rfl, (blk_cell BK322.out 2).trans rfl, (blk_cell BK322.out 3).trans rfl⟩ (fun hHeld => ?_)
      clear hK K
      refine nz ?_
      refine oN 11 fun K hK => ?_
      have hs18 : w17.cell? ⟨gb323, 0, none⟩ = some (.int .i64 0) := (blk_cell BK323.out 0).trans rfl
      have hfs18 := blk_frozen BK323.out 0
      have hns18_0 := NB321_323.out
      have hns18_1 := NB322_323.out
      have hms18_0 := NB323_321.out
      have hms18_1 := NB323_322.out
      have hs19 : w17.cell? ⟨gb323, 1, none⟩ = some (.int .i64 0) := (blk_cell BK323.out 1).trans rfl
      have hfs19 := blk_frozen BK323.out 1
      have hns19_0 := NB321_323.out
      have hns19_1 := NB322_323.out
      have hms19_0 := NB323_321.out
      have hms19_1 := NB323_322.out
      have hs20 : w17.cell? ⟨gb323, 2, none⟩ = some (.int .i64 0) := (blk_cell BK323.out 2).trans rfl
      have hfs20 := blk_frozen BK323.out 2
      have hns20_0 := NB321_323.out
      have hns20_1 := NB322_323.out
      have hms20_0 := NB323_321.out
      have hms20_1 := NB323_322.out
      have hs21 : w17.cell? ⟨gb323, 3, none⟩ = some (.int .i64 0) := (blk_cell BK323.out 3).trans rfl
      have hfs21 := blk_frozen BK323.out 3
      have hns21_0 := NB321_323.out
      have hns21_1 := NB322_323.out
      have hms21_0 := NB323_321.out
      have hms21_1 := NB323_322.out
      refine skip_ (w1 := ?_) (by rfl) rfl ?_ ?_
      rotate_left
      ·go_simp
       rfl
      refine hK.out _ _ ⟨((cell_far (p := ⟨gb323, _, none⟩) NB321_323.out _).trans (((cell_far (p := ⟨gb323, _, none⟩) NB321_323.out _).trans (((cell_far (p := ⟨gb323, _, none⟩) NB321_323.out _).trans (((cell_far (p := ⟨gb323, _, none⟩) NB321_323.out _).trans (hHeld.1)))))))), ((cell_far (p := ⟨gb323, _, none⟩) NB321_323.out _).trans (((cell_far (p := ⟨gb323, _, none⟩) NB321_323.out _).trans (((cell_far (p := ⟨gb323, _, none⟩) NB321_323.out _).trans (((cell_far (p := ⟨gb323, _, none⟩) NB321_323.out _).trans (hHeld.2.1)))))))), ((cell_far (p := ⟨gb323, _, none⟩) NB321_323.out _).trans (((cell_far (p := ⟨gb323, _, none⟩) NB321_323.out _).trans (((cell_far (p := ⟨gb323, _, none⟩) NB321_323.out _).trans (((cell_far (p := ⟨gb323, _, none⟩) NB321_323.out _).trans (hHeld.2.2.1)))))))), ((cell_far (p := ⟨gb323, _, none⟩) NB321_323.out _).trans (((cell_far (p := ⟨gb323, _, none⟩) NB321_323.out _).trans (((cell_far (p := ⟨gb323, _, none⟩) NB321_323.out _).trans (((cell_far (p := ⟨gb323, _, none⟩) NB321_323.out _).trans (hHeld.2.2.2.1)))))))), ((cell_far (p := ⟨gb323, _, none⟩) NB322_323.out _).trans (((cell_far (p := ⟨gb323, _, none⟩) NB322_323.out _).trans (((cell_far (p := ⟨gb323, _, none⟩) NB322_323.out _).trans (((cell_far (p := ⟨gb323, _, none⟩) NB322_323.out _).trans (hHeld.2.2.2.2.1)))))))), ((cell_far (p := ⟨gb323, _, none⟩) NB322_323.out _).trans (((cell_far (p := ⟨gb323, _, none⟩) NB322_323.out _).trans (((cell_far (p := ⟨gb323, _, none⟩) NB322_323.out _).trans (((cell_far (p := ⟨gb323, _, none⟩) NB322_323.out _).trans (hHeld.2.2.2.2.2.1)))))))), ((cell_far (p := ⟨gb323, _, none⟩) NB322_323.out _).trans (((cell_far (p := ⟨gb323, _, none⟩) NB322_323.out _).trans (((cell_far (p := ⟨gb323, _, none⟩) NB322_323.out _).trans (((cell_far (p := ⟨gb323, _, none⟩) NB322_323.out _).trans (hHeld.2.2.2.2.2.2.1)))))))), ((cell_far (p := ⟨gb323, _, none⟩) NB322_323.out _).trans (((cell_far (p := ⟨gb323, _, none⟩) NB322_323.out _).trans (((cell_far (p := ⟨gb323, _, none⟩) NB322_323.out _).trans (((cell_far (p := ⟨gb323, _, none⟩) NB322_323.out _).trans (hHeld.2.2.2.2.2.2.2))))))))⟩ (fun hHeld => ?_)
      clear hK K
      refine done_ (done_of HT_.out (by kernel_rfl)) ?_
      try go_wp2
      refine bodyPost_ret (results_cell_row rfl _ _ gb323 24 #[.int .i64 t324, .int .i64 t325, .int .i64 t326, .int .i64 t327] (0, 0) _ rfl (by refine bq ?_; refine blk_put (cs := #[.int .i64 t324, .int .i64 t325, .int .i64 t326, .int .i64 0]) ?_ 3 _ rfl; refine bq ?_; refine blk_put (cs := #[.int .i64 t324, .int .i64 t325, .int .i64 0, .int .i64 0]) ?_ 2 _ rfl; refine bq ?_; refine blk_put (cs := #[.int .i64 t324, .int .i64 0, .int .i64 0, .int .i64 0]) ?_ 1 _ rfl; refine bq ?_; refine blk_put (cs := #[.int .i64 0, .int .i64 0, .int .i64 0, .int .i64 0]) ?_ 0 _ rfl; exact bq BK323.out) Try.underlying24 rfl (by kernel_rfl)) rfl ?_
      exact ⟨zR, zB⟩
   ·replace c12 := Bool.eq_false_iff.mpr c12
    subst c12
    rw [if_neg (show ¬ (false = true) by decide)] at H
    have HC22 := Aside0.mk H
    clear H
    go_upto_region 3 with (fail)
    go_cut [26] (fun v26 wc => ∃ (kq : Nat) (x26_21 : Bool), v26 = .bool x26_21 ∧ Aside0 (impl_parted.j1 kq a0 x26_21 a1_0 a1_1 a1_2 a1_3 a2_0 a2_1 a2_2 a2_3 = some (r1, r2, r3, r4)) ∧ Aside0 (kq ≤ kj3) ∧ Aside0 (wc.heap[gb321]? = some (.cells #[.int .i64 a1_0, .int .i64 a1_1, .int .i64 a1_2, .int .i64 a1_3] 24 (0, 0))) ∧ Aside0 (wc.heap[gb322]? = some (.cells #[.int .i64 a2_0, .int .i64 a2_1, .int .i64 a2_2, .int .i64 a2_3] 24 (0, 0))) ∧ Aside0 (wc.heap[gb323]? = some (.cells #[.int .i64 0, .int .i64 0, .int .i64 0, .int .i64 0] 24 (0, 0))) ∧ Aside0 (Below w.heap.size w wc))
    case first =>
     have H := HC22.out
     clear HC22
     by_cases c23 : a0 = 11
     ·rw [if_pos c23] at H
      have c23b0 : (a0 == 11) = true := beq_iff_eq.mpr c23
      have c23b1 : (a0 != 11) = false := bne_eq_false_iff_eq.mpr c23
      clear c23
      (first | rw [c23b0] | (simp only [i64_w, i32_w]; rw [c23b0]) | skip)
      have H' := Aside0.mk H
      clear H
      have hnb24 := NB321_322.out
      have hnc24 := NB322_321.out
      have hnb25 := NB321_323.out
      have hnc25 := NB323_321.out
      obtain ⟨hcz26_0, hcz26_1, hcz26_2, hcz26_3, hfz26_0, hfz26_1, hfz26_2, hfz26_3⟩ := zc4 BK321
      have hnb27 := NB322_323.out
      have hnc27 := NB323_322.out
      obtain ⟨hcz28_0, hcz28_1, hcz28_2, hcz28_3, hfz28_0, hfz28_1, hfz28_2, hfz28_3⟩ := zc4 BK322
      go_wp2
      go_meet
      case rel => exact ⟨_, (decide (a1_1 < a2_0)), (by first | rfl | (simp; done) | (simp [*]; done)), H', ⟨by have := HJ3.out; first | omega | exact Nat.le_refl _⟩, ⟨by exact bq BK321.out⟩, ⟨by exact bq BK322.out⟩, ⟨by exact bq BK323.out⟩, ⟨zB⟩⟩
     ·rw [if_neg c23] at H
      have c23b0 : (a0 == 11) = false := beq_eq_false_iff_ne.mpr c23
      have c23b1 : (a0 != 11) = true := bne_iff_ne.mpr c23
      (first | rw [c23b0] | (simp only [i64_w, i32_w]; rw [c23b0]) | skip)
      have H' := Aside0.mk H
      clear H
      go_wp2
      go_meet
      case rel => exact ⟨_, (false), (by first | rfl | (simp; done) | (simp [*]; done)), H', ⟨by have := HJ3.out; first | omega | exact Nat.le_refl _⟩, ⟨by exact bq BK321.out⟩, ⟨by exact bq BK322.out⟩, ⟨by exact bq BK323.out⟩, ⟨zB⟩⟩
    case rest =>
     clear HC22
     try clear c1
     try clear c2
     try clear p2 p2
     try clear c4
     try clear p6
     try clear c8
     try clear c8b0
     try clear c8b1
     try clear c9
     try clear c10
     try clear c12
     try clear c13
     try clear c13b0
     try clear c13b1
     try clear c14
     try clear c14b0
     try clear c14b1
     try clear c23
     try clear c23b0
     try clear c23b1
     try clear c24
     try clear c25
     try clear c27
     try clear hcz11_0 hcz11_1 hcz11_2 hcz11_3 hfz11_0 hfz11_1 hfz11_2 hfz11_3
     try clear hcz26_0 hcz26_1 hcz26_2 hcz26_3 hfz26_0 hfz26_1 hfz26_2 hfz26_3
     try clear hcz28_0 hcz28_1 hcz28_2 hcz28_3 hfz28_0 hfz28_1 hfz28_2 hfz28_3
     obtain ⟨kq, x26_21, rfl, HA, HJ21, BK321, BK322, BK323, HB⟩ := hcut
     cases kq with
     | zero => exact absurd HA.out (by simp [impl_parted.j1])
     | succ kj21 =>
      have H := HA.out
      clear HA
      simp only [impl_parted.j1] at H
      by_cases c29 : x26_21 = true
      ·subst c29
       rw [if_pos rfl] at H
       simp only [Option.some.injEq, Prod.mk.injEq] at H
       obtain ⟨rfl, rfl, rfl, rfl⟩ := H
       have hnb30 := NB321_322.out
       have hnc30 := NB322_321.out
       have hnb31 := NB321_323.out
       have hnc31 := NB323_321.out
       obtain ⟨hcz32_0, hcz32_1, hcz32_2, hcz32_3, hfz32_0, hfz32_1, hfz32_2, hfz32_3⟩ := zc4 BK321
       have hnb33 := NB323_322.out
       have hnc33 := NB322_323.out
       obtain ⟨hcz34_0, hcz34_1, hcz34_2, hcz34_3, hfz34_0, hfz34_1, hfz34_2, hfz34_3⟩ := zc4 BK323
       go_wp2
       refine bodyPost_ret (results_cell_row rfl _ _ gb323 24 #[.int .i64 a1_0, .int .i64 a1_1, .int .i64 a1_2, .int .i64 a1_3] (0, 0) _ rfl (by refine bq ?_; refine blk_put (cs := #[.int .i64 a1_0, .int .i64 a1_1, .int .i64 a1_2, .int .i64 0]) ?_ 3 _ rfl; refine bq ?_; refine blk_put (cs := #[.int .i64 a1_0, .int .i64 a1_1, .int .i64 0, .int .i64 0]) ?_ 2 _ rfl; refine bq ?_; refine blk_put (cs := #[.int .i64 a1_0, .int .i64 0, .int .i64 0, .int .i64 0]) ?_ 1 _ rfl; refine bq ?_; refine blk_put (cs := #[.int .i64 0, .int .i64 0, .int .i64 0, .int .i64 0]) ?_ 0 _ rfl; exact bq BK323.out) Try.underlying24 rfl (by kernel_rfl)) rfl ?_
       exact ⟨zR, zB⟩
      ·replace c29 := Bool.eq_false_iff.mpr c29
       subst c29
       rw [if_neg (show ¬ (false = true) by decide)] at H
       have HC35 := Aside0.mk H
       clear H
       go_upto_region 5 with (fail)
       go_cut [37] (fun v37 wc => ∃ (kq : Nat) (x37_34 : Bool), v37 = .bool x37_34 ∧ Aside0 (impl_parted.j2 kq x37_34 a1_0 a1_1 a1_2 a1_3 a2_0 a2_1 a2_2 a2_3 = some (r1, r2, r3, r4)) ∧ Aside0 (kq ≤ kj21) ∧ Aside0 (wc.heap[gb321]? = some (.cells #[.int .i64 a1_0, .int .i64 a1_1, .int .i64 a1_2, .int .i64 a1_3] 24 (0, 0))) ∧ Aside0 (wc.heap[gb322]? = some (.cells #[.int .i64 a2_0, .int .i64 a2_1, .int .i64 a2_2, .int .i64 a2_3] 24 (0, 0))) ∧ Aside0 (wc.heap[gb323]? = some (.cells #[.int .i64 0, .int .i64 0, .int .i64 0, .int .i64 0] 24 (0, 0))) ∧ Aside0 (Below w.heap.size w wc))
       case first =>
        have H := HC35.out
        clear HC35
        by_cases c36 : a0 = 11
        ·rw [if_pos c36] at H
         have c36b0 : (a0 == 11) = true := beq_iff_eq.mpr c36
         have c36b1 : (a0 != 11) = false := bne_eq_false_iff_eq.mpr c36
         clear c36
         (first | rw [c36b0] | (simp only [i64_w, i32_w]; rw [c36b0]) | skip)
         by_cases c37 : a2_0 > 0
         ·rw [if_pos c37] at H
          have c37b0 : decide (0 < a2_0) = true := decide_eq_true c37
          clear c37
          have H' := Aside0.mk H
          clear H
          have hnb38 := NB322_321.out
          have hnc38 := NB321_322.out
          have hnb39 := NB322_323.out
          have hnc39 := NB323_322.out
          obtain ⟨hcz40_0, hcz40_1, hcz40_2, hcz40_3, hfz40_0, hfz40_1, hfz40_2, hfz40_3⟩ := zc4 BK322
          have hnb41 := NB321_323.out
          have hnc41 := NB323_321.out
          obtain ⟨hcz42_0, hcz42_1, hcz42_2, hcz42_3, hfz42_0, hfz42_1, hfz42_2, hfz42_3⟩ := zc4 BK321
          go_wp2
          go_meet
          case rel => exact ⟨_, (decide ((wrap64 (a2_1 - 1)) < a1_1)), (by first | rfl | (simp; done) | (simp [*]; done)), H', ⟨by have := HJ3.out; have := HJ21.out; first | omega | exact Nat.le_refl _⟩, ⟨by exact bq BK321.out⟩, ⟨by exact bq BK322.out⟩, ⟨by exact bq BK323.out⟩, ⟨zB⟩⟩
         ·rw [if_neg c37] at H
          have c37b0 : decide (0 < a2_0) = false := decide_eq_false c37
          clear c37
          have H' := Aside0.mk H
          clear H
          have hnb43 := NB322_321.out
          have hnc43 := NB321_322.out
          have hnb44 := NB322_323.out
          have hnc44 := NB323_322.out
          obtain ⟨hcz45_0, hcz45_1, hcz45_2, hcz45_3, hfz45_0, hfz45_1, hfz45_2, hfz45_3⟩ := zc4 BK322
          go_wp2
          go_meet
          case rel => exact ⟨_, (false), (by first | rfl | (simp; done) | (simp [*]; done)), H', ⟨by have := HJ3.out; have := HJ21.out; first | omega | exact Nat.le_refl _⟩, ⟨by exact bq BK321.out⟩, ⟨by exact bq BK322.out⟩, ⟨by exact bq BK323.out⟩, ⟨zB⟩⟩
        ·rw [if_neg c36] at H
         have c36b0 : (a0 == 11) = false := beq_eq_false_iff_ne.mpr c36
         have c36b1 : (a0 != 11) = true := bne_iff_ne.mpr c36
         (first | rw [c36b0] | (simp only [i64_w, i32_w]; rw [c36b0]) | skip)
         have H' := Aside0.mk H
         clear H
         go_wp2
         go_meet
         case rel => exact ⟨_, (false), (by first | rfl | (simp; done) | (simp [*]; done)), H', ⟨by have := HJ3.out; have := HJ21.out; first | omega | exact Nat.le_refl _⟩, ⟨by exact bq BK321.out⟩, ⟨by exact bq BK322.out⟩, ⟨by exact bq BK323.out⟩, ⟨zB⟩⟩
       case rest =>
        clear HC35
        try clear c1
        try clear c2
        try clear p2 p2
        try clear c3
        try clear c4
        try clear p6 p6
        try clear c8
        try clear c8b0
        try clear c8b1
        try clear c9
        try clear c10
        try clear c12
        try clear c13
        try clear c13b0
        try clear c13b1
        try clear c14
        try clear c14b0
        try clear c14b1
        try clear c23
        try clear c23b0
        try clear c23b1
        try clear c24
        try clear c25
        try clear c27
        try clear c29
        try clear c30
        try clear c31
        try clear c33
        try clear c36
        try clear c36b0
        try clear c36b1
        try clear c37
        try clear c37b0
        try clear c38
        try clear c39
        try clear c41
        try clear c43
        try clear c44
        try clear hcz11_0 hcz11_1 hcz11_2 hcz11_3 hfz11_0 hfz11_1 hfz11_2 hfz11_3
        try clear hcz26_0 hcz26_1 hcz26_2 hcz26_3 hfz26_0 hfz26_1 hfz26_2 hfz26_3
        try clear hcz28_0 hcz28_1 hcz28_2 hcz28_3 hfz28_0 hfz28_1 hfz28_2 hfz28_3
        try clear hcz32_0 hcz32_1 hcz32_2 hcz32_3 hfz32_0 hfz32_1 hfz32_2 hfz32_3
        try clear hcz34_0 hcz34_1 hcz34_2 hcz34_3 hfz34_0 hfz34_1 hfz34_2 hfz34_3
        try clear hcz40_0 hcz40_1 hcz40_2 hcz40_3 hfz40_0 hfz40_1 hfz40_2 hfz40_3
        try clear hcz42_0 hcz42_1 hcz42_2 hcz42_3 hfz42_0 hfz42_1 hfz42_2 hfz42_3
        try clear hcz45_0 hcz45_1 hcz45_2 hcz45_3 hfz45_0 hfz45_1 hfz45_2 hfz45_3
        obtain ⟨kq, x37_34, rfl, HA, HJ34, BK321, BK322, BK323, HB⟩ := hcut
        cases kq with
        | zero => exact absurd HA.out (by simp [impl_parted.j2])
        | succ kj34 =>
         have H := HA.out
         clear HA
         simp only [impl_parted.j2] at H
         by_cases c46 : x37_34 = true
         ·subst c46
          rw [if_pos rfl] at H
          replace H := Option.bind_eq_some_iff.mp H
          obtain ⟨⟨t328, t329, t330, t331⟩, A470, H⟩ := H
          try dsimp only at H
          have A47 := Aside0.mk A470
          clear A470
          simp only [Option.some.injEq, Prod.mk.injEq] at H
          obtain ⟨rfl, rfl, rfl, rfl⟩ := H
          have hnb48 := NB322_321.out
          have hnc48 := NB321_322.out
          have hnb49 := NB322_323.out
          have hnc49 := NB323_322.out
          obtain ⟨hcz50_0, hcz50_1, hcz50_2, hcz50_3, hfz50_0, hfz50_1, hfz50_2, hfz50_3⟩ := zc4 BK322
          go_wp2_with (first | ((with_reducible refine gate_callee (f := 43) rfl ?_); refine gl 56 Try.func43 #[.int .i64 0, .int .i64 (wrap64 (a2_1 - 1))] ?_; (with_reducible refine (impl_fromTo.calls 0 (wrap64 (a2_1 - 1)) t328 t329 t330 t331 _ A47.out).mono ?_); rintro e w51 ⟨rfl, hb⟩; refine ⟨_, rfl, ?_⟩; replace BK321 := zb BK321 hb rfl; replace BK322 := zb BK322 hb rfl; replace BK323 := zb BK323 hb rfl; replace HB := zS hb; try clear hb; have hnb52 := NB323_321.out; have hnc52 := NB321_323.out; obtain ⟨hcz53_0, hcz53_1, hcz53_2, hcz53_3, hfz53_0, hfz53_1, hfz53_2, hfz53_3⟩ := zc4 BK323))
          refine bodyPost_ret (results_cell_row rfl _ _ gb323 24 #[.int .i64 t328, .int .i64 t329, .int .i64 t330, .int .i64 t331] (0, 0) _ rfl (by refine bq ?_; refine blk_put (cs := #[.int .i64 t328, .int .i64 t329, .int .i64 t330, .int .i64 0]) ?_ 3 _ rfl; refine bq ?_; refine blk_put (cs := #[.int .i64 t328, .int .i64 t329, .int .i64 0, .int .i64 0]) ?_ 2 _ rfl; refine bq ?_; refine blk_put (cs := #[.int .i64 t328, .int .i64 0, .int .i64 0, .int .i64 0]) ?_ 1 _ rfl; refine bq ?_; refine blk_put (cs := #[.int .i64 0, .int .i64 0, .int .i64 0, .int .i64 0]) ?_ 0 _ rfl; exact bq BK323.out) Try.underlying24 rfl (by kernel_rfl)) rfl ?_
          exact ⟨zR, zB⟩
         ·replace c46 := Bool.eq_false_iff.mpr c46
          subst c46
          rw [if_neg (show ¬ (false = true) by decide)] at H
          replace H := Option.bind_eq_some_iff.mp H
          obtain ⟨⟨t332, t333, t334, t335⟩, A540, H⟩ := H
          try dsimp only at H
          have A54 := Aside0.mk A540
          clear A540
          simp only [Option.some.injEq, Prod.mk.injEq] at H
          obtain ⟨rfl, rfl, rfl, rfl⟩ := H
          have hnb55 := NB321_322.out
          have hnc55 := NB322_321.out
          have hnb56 := NB321_323.out
          have hnc56 := NB323_321.out
          obtain ⟨hcz57_0, hcz57_1, hcz57_2, hcz57_3, hfz57_0, hfz57_1, hfz57_2, hfz57_3⟩ := zc4 BK321
          go_wp2_with (first | ((with_reducible refine gate_callee (f := 43) rfl ?_); refine gl 59 Try.func43 #[.int .i64 0, .int .i64 a1_1] ?_; (with_reducible refine (impl_fromTo.calls 0 a1_1 t332 t333 t334 t335 _ A54.out).mono ?_); rintro e w58 ⟨rfl, hb⟩; refine ⟨_, rfl, ?_⟩; replace BK321 := zb BK321 hb rfl; replace BK322 := zb BK322 hb rfl; replace BK323 := zb BK323 hb rfl; replace HB := zS hb; try clear hb; have hnb59 := NB323_322.out; have hnc59 := NB322_323.out; obtain ⟨hcz60_0, hcz60_1, hcz60_2, hcz60_3, hfz60_0, hfz60_1, hfz60_2, hfz60_3⟩ := zc4 BK323))
          refine bodyPost_ret (results_cell_row rfl _ _ gb323 24 #[.int .i64 t332, .int .i64 t333, .int .i64 t334, .int .i64 t335] (0, 0) _ rfl (by refine bq ?_; refine blk_put (cs := #[.int .i64 t332, .int .i64 t333, .int .i64 t334, .int .i64 0]) ?_ 3 _ rfl; refine bq ?_; refine blk_put (cs := #[.int .i64 t332, .int .i64 t333, .int .i64 0, .int .i64 0]) ?_ 2 _ rfl; refine bq ?_; refine blk_put (cs := #[.int .i64 t332, .int .i64 0, .int .i64 0, .int .i64 0]) ?_ 1 _ rfl; refine bq ?_; refine blk_put (cs := #[.int .i64 0, .int .i64 0, .int .i64 0, .int .i64 0]) ?_ 0 _ rfl; exact bq BK323.out) Try.underlying24 rfl (by kernel_rfl)) rfl ?_
          exact ⟨zR, zB⟩

end Go.Proofs.Ytdhijcfohbkpoaa.Q
