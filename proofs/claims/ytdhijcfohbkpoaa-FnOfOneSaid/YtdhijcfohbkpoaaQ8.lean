/- The machine's side of this seat's laws: Go functions as Lean functions, and their contracts. By a program of this work over the kit's print. -/
import Derived.Test.YtdhijcfohbkpoaaQ0
import Derived.Test.YtdhijcfohbkpoaaQ7
namespace Go.Proofs.Ytdhijcfohbkpoaa.Q
open Go.RowKit Go.Proofs.YtdhijcfohbkpoaaW.PrintWords Go.Proofs.YtdhijcfohbkpoaaW.PrintLast Go.Proofs.YtdhijcfohbkpoaaW.PrintMore
attribute [local go_sem] max2_int min2_int max_two min_two max_three min_three max_four min_four Go.Proofs.YtdhijcfohbkpoaaN.not_i64 Go.Proofs.YtdhijcfohbkpoaaN.isSome_setCell   -- for this text's walks alone
set_option linter.unusedVariables false
set_option linter.unusedSimpArgs false

/-! ### impl_added: function 41 -/
def impl_added.j0 : Nat → Int → Int → Int → Int → Option (Int × Int × Int × Int)
 | 0, _, _, _, _ => none
 | k + 1, x270000, x270001, x270002, x270003 => (impl_Range_tidy.f x270000 x270001 x270002 x270003).bind fun bt270 => (some (bt270.1, bt270.2.1, bt270.2.2.1, bt270.2.2.2))
def impl_added.f (k : Nat) (a0_0 : Int) (a0_1 : Int) (a0_2 : Int) (a0_3 : Int) (a1_0 : Int) (a1_1 : Int) (a1_2 : Int) (a1_3 : Int) : Option (Int × Int × Int × Int) := if (wrap64 (a0_1 + a1_1)) ≤ 4294967295 then (impl_added.j0 k (wrap64 (a0_0 + a1_0)) (wrap64 (a0_1 + a1_1)) (Go.bits .and .i64 (Go.bits .andNot .i64 (wrap64 (a0_2 + a1_2)) (Go.bits .and .i64 (Go.bits .or .i64 (Go.bits .or .i64 (Go.bits .xor .i64 (wrap64 (a0_2 + a1_2)) (wrap64 ((wrap64 ((wrap64 (a0_2 + a1_2)) + a0_3)) + a1_3))) a0_3) a1_3) 4294967295)) 4294967295) (Go.bits .and .i64 (Go.bits .or .i64 (Go.bits .or .i64 (Go.bits .xor .i64 (wrap64 (a0_2 + a1_2)) (wrap64 ((wrap64 ((wrap64 (a0_2 + a1_2)) + a0_3)) + a1_3))) a0_3) a1_3) 4294967295)) else (impl_added.j0 k 0 4294967295 (Go.bits .and .i64 (Go.bits .andNot .i64 (wrap64 (a0_2 + a1_2)) (Go.bits .and .i64 (Go.bits .or .i64 (Go.bits .or .i64 (Go.bits .xor .i64 (wrap64 (a0_2 + a1_2)) (wrap64 ((wrap64 ((wrap64 (a0_2 + a1_2)) + a0_3)) + a1_3))) a0_3) a1_3) 4294967295)) 4294967295) (Go.bits .and .i64 (Go.bits .or .i64 (Go.bits .or .i64 (Go.bits .xor .i64 (wrap64 (a0_2 + a1_2)) (wrap64 ((wrap64 ((wrap64 (a0_2 + a1_2)) + a0_3)) + a1_3))) a0_3) a1_3) 4294967295))


def impl_added.T1 : Bool × List (List Nat × List Nat) := (true, [([], []), ([0], [0]), ([], []), ([2], [2]), ([1, 3], [1, 3]), ([], []), ([5], [5]), ([], []), ([7], [7]), ([6, 8], [6, 8]), ([], []), ([10], [10]), ([9, 11], [9, 11]), ([], []), ([13], [13]), ([12, 14], [12, 14]), ([4, 0, 1, 2, 3, 4], [4]), ([15, 16, 0, 1, 2, 3, 4, 5, 6, 7, 8, 9, 10, 11, 12, 13, 14, 15, 16], [15])])
def impl_added.B1 : List Nat := [0, 1, 0, 4, 15, 0, 32, 0, 128, 480, 0, 1024, 4064, 0, 8192, 32736, 31, 131071]
theorem impl_added.tab1 : rtab .any (opsOf Try.f41 1) = impl_added.T1 := by kernel_rfl
theorem impl_added.bits1 : waitsOk impl_added.T1.2 impl_added.B1 = true := by kernel_rfl
def impl_added.T5 : Bool × List (List Nat × List Nat) := (true, [([], []), ([0], [0]), ([], []), ([2], [2]), ([1, 3], [1, 3]), ([], []), ([5], [5]), ([], []), ([7], [7]), ([6, 8], [6, 8]), ([0, 1, 2, 3, 4], []), ([10, 4, 0, 1, 2, 3, 4], [4, 10]), ([0, 1, 2, 3, 4, 5, 6, 7, 8, 9, 10, 11], []), ([12, 9, 11, 0, 1, 2, 3, 4, 5, 6, 7, 8, 9, 10, 11], [9, 12])])
def impl_added.B5 : List Nat := [0, 1, 0, 4, 15, 0, 32, 0, 128, 480, 31, 1055, 4095, 8191]
theorem impl_added.tab5 : rtab .any (opsOf Try.f41 5) = impl_added.T5 := by kernel_rfl
theorem impl_added.bits5 : waitsOk impl_added.T5.2 impl_added.B5 = true := by kernel_rfl
set_option maxHeartbeats 8000000 in
set_option maxRecDepth 100000 in
theorem impl_added.calls (k : Nat) (a0_0 : Int) (a0_1 : Int) (a0_2 : Int) (a0_3 : Int) (a1_0 : Int) (a1_1 : Int) (a1_2 : Int) (a1_3 : Int) (r1 : Int) (r2 : Int) (r3 : Int) (r4 : Int) (w : World) (h : impl_added.f k a0_0 a0_1 a0_2 a0_3 a1_0 a1_1 a1_2 a1_3 = some (r1, r2, r3, r4)) :
  Calls Try.prog 41 #[.agg #[.int .i64 a0_0, .int .i64 a0_1, .int .i64 a0_2, .int .i64 a0_3], .agg #[.int .i64 a1_0, .int .i64 a1_1, .int .i64 a1_2, .int .i64 a1_3]] w fun e w' => e = .returned (.agg #[.int .i64 r1, .int .i64 r2, .int .i64 r3, .int .i64 r4]) ∧ Below w.heap.size w w' := by
 have hu24 := Try.underlying24
 have HB := Aside0.mk (Below.refl w.heap.size w)
 have H : (if (wrap64 (a0_1 + a1_1)) ≤ 4294967295 then (impl_added.j0 k (wrap64 (a0_0 + a1_0)) (wrap64 (a0_1 + a1_1)) (Go.bits .and .i64 (Go.bits .andNot .i64 (wrap64 (a0_2 + a1_2)) (Go.bits .and .i64 (Go.bits .or .i64 (Go.bits .or .i64 (Go.bits .xor .i64 (wrap64 (a0_2 + a1_2)) (wrap64 ((wrap64 ((wrap64 (a0_2 + a1_2)) + a0_3)) + a1_3))) a0_3) a1_3) 4294967295)) 4294967295) (Go.bits .and .i64 (Go.bits .or .i64 (Go.bits .or .i64 (Go.bits .xor .i64 (wrap64 (a0_2 + a1_2)) (wrap64 ((wrap64 ((wrap64 (a0_2 + a1_2)) + a0_3)) + a1_3))) a0_3) a1_3) 4294967295)) else (impl_added.j0 k 0 4294967295 (Go.bits .and .i64 (Go.bits .andNot .i64 (wrap64 (a0_2 + a1_2)) (Go.bits .and .i64 (Go.bits .or .i64 (Go.bits .or .i64 (Go.bits .xor .i64 (wrap64 (a0_2 + a1_2)) (wrap64 ((wrap64 ((wrap64 (a0_2 + a1_2)) + a0_3)) + a1_3))) a0_3) a1_3) 4294967295)) 4294967295) (Go.bits .and .i64 (Go.bits .or .i64 (Go.bits .or .i64 (Go.bits .xor .i64 (wrap64 (a0_2 + a1_2)) (wrap64 ((wrap64 ((wrap64 (a0_2 + a1_2)) + a0_3)) + a1_3))) a0_3) a1_3) 4294967295))) = some (r1, r2, r3, r4) := h
 clear h
 have HC3 := Aside0.mk H
 clear H
 go_enter Try.func41, Try.ntmps41
 try go_wp2_with (first | ((with_reducible refine gate_dst (N := 2) rfl ?_); refine be 2 #[.int .i64 a0_0, .int .i64 a0_1, .int .i64 a0_2, .int .i64 a0_3] 24 ?_; intro gb266 hg w4 hbox hb; have BK266 := Aside0.mk hbox; have GW266 := zW hg; replace HB := zS hb; have GE266 := GW266; clear hb hbox hg) | ((with_reducible refine gate_dst (N := 3) rfl ?_); refine be 3 #[.int .i64 a1_0, .int .i64 a1_1, .int .i64 a1_2, .int .i64 a1_3] 24 ?_; intro gb267 hg w5 hbox hb; have BK267 := Aside0.mk hbox; have GW267 := zW hg; replace HB := zS hb; have GE267 := GW267; have NB266_267 := zl BK266 hg rfl; have NB267_266 := zg BK266 hg rfl; replace BK266 := zb BK266 hb rfl; clear hb hbox hg) | ((with_reducible refine gate_dst (N := 4) rfl ?_); refine be 4 #[.int .i64 0, .int .i64 0, .int .i64 0, .int .i64 0] 24 ?_; intro gb268 hg w6 hbox hb; have BK268 := Aside0.mk hbox; have GW268 := zW hg; replace HB := zS hb; have GE268 := GW268; have NB266_268 := zl BK266 hg rfl; have NB268_266 := zg BK266 hg rfl; replace BK266 := zb BK266 hb rfl; have NB267_268 := zl BK267 hg rfl; have NB268_267 := zg BK267 hg rfl; replace BK267 := zb BK267 hb rfl; clear hb hbox hg))
 replace BK266 := Aside0.mk (blk_drew BK266.out)
 replace BK267 := Aside0.mk (blk_drew BK267.out)
 replace BK268 := Aside0.mk (blk_drew BK268.out)
 replace HB := Aside0.mk (below_drew1 HB.out)
 refine start_ (n := 18) (S := fun w' => w'.cell? ⟨gb266, 0, none⟩ = some (.int .i64 a0_0) ∧ w'.cell? ⟨gb266, 1, none⟩ = some (.int .i64 a0_1) ∧ w'.cell? ⟨gb266, 2, none⟩ = some (.int .i64 a0_2) ∧ w'.cell? ⟨gb266, 3, none⟩ = some (.int .i64 a0_3) ∧ w'.cell? ⟨gb267, 0, none⟩ = some (.int .i64 a1_0) ∧ w'.cell? ⟨gb267, 1, none⟩ = some (.int .i64 a1_1) ∧ w'.cell? ⟨gb267, 2, none⟩ = some (.int .i64 a1_2) ∧ w'.cell? ⟨gb267, 3, none⟩ = some (.int .i64 a1_3)) (ds := []) #[false, false, false, false, false, false, false, false, false, false, false, false, false, false, false, false, false, false] (by kernel_rfl) rfl rfl ⟨(blk_cell BK266.out 0).trans rfl, (blk_cell BK266.out 1).trans rfl, (blk_cell BK266.out 2).trans rfl, (blk_cell BK266.out 3).trans rfl, (blk_cell BK267.out 0).trans rfl, (blk_cell BK267.out 1).trans rfl, (blk_cell BK267.out 2).trans rfl, (blk_cell BK267.out 3).trans rfl⟩ (fun hHeld => ?_); refine with_tabW impl_added.tab1 impl_added.bits1 (fun HT_ HW_ => ?_)
 generalize w6.drew = w7 at BK266 BK267 BK268 HB hHeld ⊢
 refine pz 0 9 ?_
 refine pz 2 11 ?_
 refine pz 5 14 ?_
 refine pz 7 16 ?_
 refine pz 10 19 ?_
 refine pz 13 22 ?_
 refine tz 1 10 ?_
 refine tz 3 12 ?_
 refine pz 4 13 ?_
 refine pz 16 5 ?_
 refine tz 6 15 ?_
 refine tz 8 17 ?_
 refine pz 9 18 ?_
 refine tz 11 20 ?_
 refine pz 12 21 ?_
 refine tz 14 23 ?_
 refine pz 15 24 ?_
 refine pz 17 6 ?_
 refine done_ (done_of HT_.out (by kernel_rfl)) ?_
 have hnb8 := NB266_267.out
 have hnc8 := NB267_266.out
 have hnb9 := NB266_268.out
 have hnc9 := NB268_266.out
 obtain ⟨hcz10_0, hcz10_1, hcz10_2, hcz10_3, hfz10_0, hfz10_1, hfz10_2, hfz10_3⟩ := zc4 BK266
 have hnb11 := NB267_268.out
 have hnc11 := NB268_267.out
 obtain ⟨hcz12_0, hcz12_1, hcz12_2, hcz12_3, hfz12_0, hfz12_1, hfz12_2, hfz12_3⟩ := zc4 BK267
 go_upto_if 46 with (first | ((with_reducible refine gate_dst (N := 8) rfl ?_); refine be 8 #[.int .i64 0, .int .i64 0, .int .i64 0, .int .i64 0] 24 ?_; intro gb269 hg w13 hbox hb; have BK269 := Aside0.mk hbox; have GW269 := zW hg; replace HB := zS hb; have GE269 := GW269; have NB266_269 := zl BK266 hg rfl; have NB269_266 := zg BK266 hg rfl; replace BK266 := zb BK266 hb rfl; have NB267_269 := zl BK267 hg rfl; have NB269_267 := zg BK267 hg rfl; replace BK267 := zb BK267 hb rfl; have NB268_269 := zl BK268 hg rfl; have NB269_268 := zg BK268 hg rfl; replace BK268 := zb BK268 hb rfl; clear hb hbox hg; have hnb14 := NB269_266.out; have hnc14 := NB266_269.out; have hnb15 := NB269_267.out; have hnc15 := NB267_269.out; have hnb16 := NB269_268.out; have hnc16 := NB268_269.out; obtain ⟨hcz17_0, hcz17_1, hcz17_2, hcz17_3, hfz17_0, hfz17_1, hfz17_2, hfz17_3⟩ := zc4 BK269; obtain ⟨hcz18_0, hcz18_1, hcz18_2, hcz18_3, hfz18_0, hfz18_1, hfz18_2, hfz18_3⟩ := zc4 BK266; obtain ⟨hcz19_0, hcz19_1, hcz19_2, hcz19_3, hfz19_0, hfz19_1, hfz19_2, hfz19_3⟩ := zc4 BK267))
 (try simp only [Act.put, List.setIfInBounds_toArray, List.set_cons_zero, List.set_cons_succ])
 go_cut [] (fun wc => ∃ (kq : Nat) (x270000_2 : Int) (x270001_2 : Int), Aside0 (impl_added.j0 kq x270000_2 x270001_2 (Go.bits .and .i64 (Go.bits .andNot .i64 (wrap64 (a0_2 + a1_2)) (Go.bits .and .i64 (Go.bits .or .i64 (Go.bits .or .i64 (Go.bits .xor .i64 (wrap64 (a0_2 + a1_2)) (wrap64 ((wrap64 ((wrap64 (a0_2 + a1_2)) + a0_3)) + a1_3))) a0_3) a1_3) 4294967295)) 4294967295) (Go.bits .and .i64 (Go.bits .or .i64 (Go.bits .or .i64 (Go.bits .xor .i64 (wrap64 (a0_2 + a1_2)) (wrap64 ((wrap64 ((wrap64 (a0_2 + a1_2)) + a0_3)) + a1_3))) a0_3) a1_3) 4294967295) = some (r1, r2, r3, r4)) ∧ Aside0 (kq ≤ k) ∧ Aside0 (wc.heap[gb266]? = some (.cells #[.int .i64 a0_0, .int .i64 a0_1, .int .i64 a0_2, .int .i64 a0_3] 24 (0, 0))) ∧ Aside0 (wc.heap[gb267]? = some (.cells #[.int .i64 a1_0, .int .i64 a1_1, .int .i64 a1_2, .int .i64 a1_3] 24 (0, 0))) ∧ Aside0 (wc.heap[gb268]? = some (.cells #[.int .i64 0, .int .i64 0, .int .i64 0, .int .i64 0] 24 (0, 0))) ∧ Aside0 (wc.heap[gb269]? = some (.cells #[.int .i64 x270000_2, .int .i64 x270001_2, .int .i64 (Go.bits .and .i64 (Go.bits .andNot .i64 (wrap64 (a0_2 + a1_2)) (Go.bits .and .i64 (Go.bits .or .i64 (Go.bits .or .i64 (Go.bits .xor .i64 (wrap64 (a0_2 + a1_2)) (wrap64 ((wrap64 ((wrap64 (a0_2 + a1_2)) + a0_3)) + a1_3))) a0_3) a1_3) 4294967295)) 4294967295), .int .i64 (Go.bits .and .i64 (Go.bits .or .i64 (Go.bits .or .i64 (Go.bits .xor .i64 (wrap64 (a0_2 + a1_2)) (wrap64 ((wrap64 ((wrap64 (a0_2 + a1_2)) + a0_3)) + a1_3))) a0_3) a1_3) 4294967295)] 24 (0, 0))) ∧ Aside0 (Below w.heap.size w wc))
 case first =>
  have H := HC3.out
  clear HC3
  by_cases c20 : (wrap64 (a0_1 + a1_1)) ≤ 4294967295
  ·rw [if_pos c20] at H
   have c20b0 : decide ((wrap64 (a0_1 + a1_1)) ≤ 4294967295) = true := decide_eq_true c20
   clear c20
   (first | rw [c20b0] | (simp only [i64_w, i32_w]; rw [c20b0]) | skip)
   have H' := Aside0.mk H
   clear H
   try go_wp2
   have n0_ : Aside0 (((((w13.setCell ⟨gb269, 0, none⟩ (.int .i64 0)).setCell ⟨gb269, 1, none⟩ (.int .i64 4294967295)).setCell ⟨gb269, 2, none⟩ (.int .i64 (Go.bits .and .i64 (Go.bits .andNot .i64 (wrap64 (a0_2 + a1_2)) (Go.bits .and .i64 (Go.bits .or .i64 (Go.bits .or .i64 (Go.bits .xor .i64 (wrap64 (a0_2 + a1_2)) (wrap64 ((wrap64 ((wrap64 (a0_2 + a1_2)) + a0_3)) + a1_3))) a0_3) a1_3) 4294967295)) 4294967295))).setCell ⟨gb269, 3, none⟩ (.int .i64 (Go.bits .and .i64 (Go.bits .or .i64 (Go.bits .or .i64 (Go.bits .xor .i64 (wrap64 (a0_2 + a1_2)) (wrap64 ((wrap64 ((wrap64 (a0_2 + a1_2)) + a0_3)) + a1_3))) a0_3) a1_3) 4294967295))).heap[gb266]? = some (.cells #[.int .i64 a0_0, .int .i64 a0_1, .int .i64 a0_2, .int .i64 a0_3] 24 (0, 0))) := ⟨by refine fq ?_ NB266_269.out; refine fq ?_ NB266_269.out; refine fq ?_ NB266_269.out; refine fq ?_ NB266_269.out; exact bq BK266.out⟩
   have n1_ : Aside0 (((((w13.setCell ⟨gb269, 0, none⟩ (.int .i64 0)).setCell ⟨gb269, 1, none⟩ (.int .i64 4294967295)).setCell ⟨gb269, 2, none⟩ (.int .i64 (Go.bits .and .i64 (Go.bits .andNot .i64 (wrap64 (a0_2 + a1_2)) (Go.bits .and .i64 (Go.bits .or .i64 (Go.bits .or .i64 (Go.bits .xor .i64 (wrap64 (a0_2 + a1_2)) (wrap64 ((wrap64 ((wrap64 (a0_2 + a1_2)) + a0_3)) + a1_3))) a0_3) a1_3) 4294967295)) 4294967295))).setCell ⟨gb269, 3, none⟩ (.int .i64 (Go.bits .and .i64 (Go.bits .or .i64 (Go.bits .or .i64 (Go.bits .xor .i64 (wrap64 (a0_2 + a1_2)) (wrap64 ((wrap64 ((wrap64 (a0_2 + a1_2)) + a0_3)) + a1_3))) a0_3) a1_3) 4294967295))).heap[gb267]? = some (.cells #[.int .i64 a1_0, .int .i64 a1_1, .int .i64 a1_2, .int .i64 a1_3] 24 (0, 0))) := ⟨by refine fq ?_ NB267_269.out; refine fq ?_ NB267_269.out; refine fq ?_ NB267_269.out; refine fq ?_ NB267_269.out; exact bq BK267.out⟩
   have n2_ : Aside0 (((((w13.setCell ⟨gb269, 0, none⟩ (.int .i64 0)).setCell ⟨gb269, 1, none⟩ (.int .i64 4294967295)).setCell ⟨gb269, 2, none⟩ (.int .i64 (Go.bits .and .i64 (Go.bits .andNot .i64 (wrap64 (a0_2 + a1_2)) (Go.bits .and .i64 (Go.bits .or .i64 (Go.bits .or .i64 (Go.bits .xor .i64 (wrap64 (a0_2 + a1_2)) (wrap64 ((wrap64 ((wrap64 (a0_2 + a1_2)) + a0_3)) + a1_3))) a0_3) a1_3) 4294967295)) 4294967295))).setCell ⟨gb269, 3, none⟩ (.int .i64 (Go.bits .and .i64 (Go.bits .or .i64 (Go.bits .or .i64 (Go.bits .xor .i64 (wrap64 (a0_2 + a1_2)) (wrap64 ((wrap64 ((wrap64 (a0_2 + a1_2)) + a0_3)) + a1_3))) a0_3) a1_3) 4294967295))).heap[gb268]? = some (.cells #[.int .i64 0, .int .i64 0, .int .i64 0, .int .i64 0] 24 (0, 0))) := ⟨by refine fq ?_ NB268_269.out; refine fq ?_ NB268_269.out; refine fq ?_ NB268_269.out; refine fq ?_ NB268_269.out; exact bq BK268.out⟩
   have n3_ : Aside0 (((((w13.setCell ⟨gb269, 0, none⟩ (.int .i64 0)).setCell ⟨gb269, 1, none⟩ (.int .i64 4294967295)).setCell ⟨gb269, 2, none⟩ (.int .i64 (Go.bits .and .i64 (Go.bits .andNot .i64 (wrap64 (a0_2 + a1_2)) (Go.bits .and .i64 (Go.bits .or .i64 (Go.bits .or .i64 (Go.bits .xor .i64 (wrap64 (a0_2 + a1_2)) (wrap64 ((wrap64 ((wrap64 (a0_2 + a1_2)) + a0_3)) + a1_3))) a0_3) a1_3) 4294967295)) 4294967295))).setCell ⟨gb269, 3, none⟩ (.int .i64 (Go.bits .and .i64 (Go.bits .or .i64 (Go.bits .or .i64 (Go.bits .xor .i64 (wrap64 (a0_2 + a1_2)) (wrap64 ((wrap64 ((wrap64 (a0_2 + a1_2)) + a0_3)) + a1_3))) a0_3) a1_3) 4294967295))).heap[gb269]? = some (.cells #[.int .i64 0, .int .i64 4294967295, .int .i64 (Go.bits .and .i64 (Go.bits .andNot .i64 (wrap64 (a0_2 + a1_2)) (Go.bits .and .i64 (Go.bits .or .i64 (Go.bits .or .i64 (Go.bits .xor .i64 (wrap64 (a0_2 + a1_2)) (wrap64 ((wrap64 ((wrap64 (a0_2 + a1_2)) + a0_3)) + a1_3))) a0_3) a1_3) 4294967295)) 4294967295), .int .i64 (Go.bits .and .i64 (Go.bits .or .i64 (Go.bits .or .i64 (Go.bits .xor .i64 (wrap64 (a0_2 + a1_2)) (wrap64 ((wrap64 ((wrap64 (a0_2 + a1_2)) + a0_3)) + a1_3))) a0_3) a1_3) 4294967295)] 24 (0, 0))) := ⟨by refine bq ?_; refine blk_put (cs := #[.int .i64 0, .int .i64 4294967295, .int .i64 (Go.bits .and .i64 (Go.bits .andNot .i64 (wrap64 (a0_2 + a1_2)) (Go.bits .and .i64 (Go.bits .or .i64 (Go.bits .or .i64 (Go.bits .xor .i64 (wrap64 (a0_2 + a1_2)) (wrap64 ((wrap64 ((wrap64 (a0_2 + a1_2)) + a0_3)) + a1_3))) a0_3) a1_3) 4294967295)) 4294967295), .int .i64 0]) ?_ 3 _ rfl; refine bq ?_; refine blk_put (cs := #[.int .i64 0, .int .i64 4294967295, .int .i64 0, .int .i64 0]) ?_ 2 _ rfl; refine bq ?_; refine blk_put (cs := #[.int .i64 0, .int .i64 0, .int .i64 0, .int .i64 0]) ?_ 1 _ rfl; refine bq ?_; refine blk_put (cs := #[.int .i64 0, .int .i64 0, .int .i64 0, .int .i64 0]) ?_ 0 _ rfl; exact bq BK269.out⟩
   have n4_ : Aside0 (Below w.heap.size w ((((w13.setCell ⟨gb269, 0, none⟩ (.int .i64 0)).setCell ⟨gb269, 1, none⟩ (.int .i64 4294967295)).setCell ⟨gb269, 2, none⟩ (.int .i64 (Go.bits .and .i64 (Go.bits .andNot .i64 (wrap64 (a0_2 + a1_2)) (Go.bits .and .i64 (Go.bits .or .i64 (Go.bits .or .i64 (Go.bits .xor .i64 (wrap64 (a0_2 + a1_2)) (wrap64 ((wrap64 ((wrap64 (a0_2 + a1_2)) + a0_3)) + a1_3))) a0_3) a1_3) 4294967295)) 4294967295))).setCell ⟨gb269, 3, none⟩ (.int .i64 (Go.bits .and .i64 (Go.bits .or .i64 (Go.bits .or .i64 (Go.bits .xor .i64 (wrap64 (a0_2 + a1_2)) (wrap64 ((wrap64 ((wrap64 (a0_2 + a1_2)) + a0_3)) + a1_3))) a0_3) a1_3) 4294967295)))) := ⟨zB⟩
   (try clear BK266)
   (try clear BK267)
   (try clear BK268)
   (try clear BK269)
   (try clear HB)
   generalize ((((w13.setCell ⟨gb269, 0, none⟩ (.int .i64 0)).setCell ⟨gb269, 1, none⟩ (.int .i64 4294967295)).setCell ⟨gb269, 2, none⟩ (.int .i64 (Go.bits .and .i64 (Go.bits .andNot .i64 (wrap64 (a0_2 + a1_2)) (Go.bits .and .i64 (Go.bits .or .i64 (Go.bits .or .i64 (Go.bits .xor .i64 (wrap64 (a0_2 + a1_2)) (wrap64 ((wrap64 ((wrap64 (a0_2 + a1_2)) + a0_3)) + a1_3))) a0_3) a1_3) 4294967295)) 4294967295))).setCell ⟨gb269, 3, none⟩ (.int .i64 (Go.bits .and .i64 (Go.bits .or .i64 (Go.bits .or .i64 (Go.bits .xor .i64 (wrap64 (a0_2 + a1_2)) (wrap64 ((wrap64 ((wrap64 (a0_2 + a1_2)) + a0_3)) + a1_3))) a0_3) a1_3) 4294967295))) = w21 at n0_ n1_ n2_ n3_ n4_ ⊢
   have BK266 := n0_
   have BK267 := n1_
   have BK268 := n2_
   have BK269 := n3_
   have HB := n4_
   clear n0_ n1_ n2_ n3_ n4_
   replace BK266 := Aside0.mk (blk_drew BK266.out)
   replace BK267 := Aside0.mk (blk_drew BK267.out)
   replace BK268 := Aside0.mk (blk_drew BK268.out)
   replace BK269 := Aside0.mk (blk_drew BK269.out)
   replace HB := Aside0.mk (below_drew1 HB.out)
   refine start_ (n := 14) (S := fun w' => w'.cell? ⟨gb266, 0, none⟩ = some (.int .i64 a0_0) ∧ w'.cell? ⟨gb266, 1, none⟩ = some (.int .i64 a0_1) ∧ w'.cell? ⟨gb266, 2, none⟩ = some (.int .i64 a0_2) ∧ w'.cell? ⟨gb266, 3, none⟩ = some (.int .i64 a0_3) ∧ w'.cell? ⟨gb267, 0, none⟩ = some (.int .i64 a1_0) ∧ w'.cell? ⟨gb267, 1, none⟩ = some (.int .i64 a1_1) ∧ w'.cell? ⟨gb267, 2, none⟩ = some (.int .i64 a1_2) ∧ w'.cell? ⟨gb267, 3, none⟩ = some (.int .i64 a1_3)) (ds := []) #[false, false, false, false, false, false, false, false, false, false, false, false, false, false] (by kernel_rfl) rfl rfl ⟨(blk_cell BK266.out 0).trans rfl, (blk_cell BK266.out 1).trans rfl, (blk_cell BK266.out 2).trans rfl, (blk_cell BK266.out 3).trans rfl, (blk_cell BK267.out 0).trans rfl, (blk_cell BK267.out 1).trans rfl, (blk_cell BK267.out 2).trans rfl, (blk_cell BK267.out 3).trans rfl⟩ (fun hHeld => ?_); refine with_tabW impl_added.tab5 impl_added.bits5 (fun HT_ HW_ => ?_)
   generalize w21.drew = w22 at BK266 BK267 BK268 BK269 HB hHeld ⊢
   refine pz 0 47 ?_
   refine pz 2 49 ?_
   refine pz 5 52 ?_
   refine pz 7 54 ?_
   refine tz 1 48 ?_
   refine tz 3 50 ?_
   refine pz 4 51 ?_
   refine pz 10 57 ?_
   refine tz 6 53 ?_
   refine tz 8 55 ?_
   refine pz 9 56 ?_
   refine oN 11 fun K hK => ?_
   have hs23 : w22.cell? ⟨gb269, 0, none⟩ = some (.int .i64 0) := (blk_cell BK269.out 0).trans rfl
   have hfs23 := blk_frozen BK269.out 0
   have hns23_0 := NB266_269.out
   have hns23_1 := NB267_269.out
   have hns23_2 := NB268_269.out
   have hms23_0 := NB269_266.out
   have hms23_1 := NB269_267.out
   have hms23_2 := NB269_268.out
   refine skip_ (w1 := ?_) (by rfl) rfl ?_ ?_
   rotate_left
   ·go_simp
    rfl
   refine hK.out _ _ ⟨((cell_far (p := ⟨gb269, _, none⟩) NB266_269.out _).trans (hHeld.1)), ((cell_far (p := ⟨gb269, _, none⟩) NB266_269.out _).trans (hHeld.2.1)), ((cell_far (p := ⟨gb269, _, none⟩) NB266_269.out _).trans (hHeld.2.2.1)), ((cell_far (p := ⟨gb269, _, none⟩) NB266_269.out _).trans (hHeld.2.2.2.1)), ((cell_far (p := ⟨gb269, _, none⟩) NB267_269.out _).trans (hHeld.2.2.2.2.1)), ((cell_far (p := ⟨gb269, _, none⟩) NB267_269.out _).trans (hHeld.2.2.2.2.2.1)), ((cell_far (p := ⟨gb269, _, none⟩) NB267_269.out _).trans (hHeld.2.2.2.2.2.2.1)), ((cell_far (p := ⟨gb269, _, none⟩) NB267_269.out _).trans (hHeld.2.2.2.2.2.2.2))⟩ (fun hHeld => ?_)
   clear hK K
   refine pz 12 58 ?_
   refine oN 13 fun K hK => ?_
   have hs24 : w22.cell? ⟨gb269, 1, none⟩ = some (.int .i64 4294967295) := (blk_cell BK269.out 1).trans rfl
   have hfs24 := blk_frozen BK269.out 1
   have hns24_0 := NB266_269.out
   have hns24_1 := NB267_269.out
   have hns24_2 := NB268_269.out
   have hms24_0 := NB269_266.out
   have hms24_1 := NB269_267.out
   have hms24_2 := NB269_268.out
   refine skip_ (w1 := ?_) (by rfl) rfl ?_ ?_
   rotate_left
   ·go_simp
    rfl
   refine hK.out _ _ ⟨((cell_far (p := ⟨gb269, _, none⟩) NB266_269.out _).trans (hHeld.1)), ((cell_far (p := ⟨gb269, _, none⟩) NB266_269.out _).trans (hHeld.2.1)), ((cell_far (p := ⟨gb269, _, none⟩) NB266_269.out _).trans (hHeld.2.2.1)), ((cell_far (p := ⟨gb269, _, none⟩) NB266_269.out _).trans (hHeld.2.2.2.1)), ((cell_far (p := ⟨gb269, _, none⟩) NB267_269.out _).trans (hHeld.2.2.2.2.1)), ((cell_far (p := ⟨gb269, _, none⟩) NB267_269.out _).trans (hHeld.2.2.2.2.2.1)), ((cell_far (p := ⟨gb269, _, none⟩) NB267_269.out _).trans (hHeld.2.2.2.2.2.2.1)), ((cell_far (p := ⟨gb269, _, none⟩) NB267_269.out _).trans (hHeld.2.2.2.2.2.2.2))⟩ (fun hHeld => ?_)
   clear hK K
   refine done_ (done_of HT_.out (by kernel_rfl)) ?_
   try go_wp2
   go_meet
   case rel => exact ⟨_, (wrap64 (a0_0 + a1_0)), (wrap64 (a0_1 + a1_1)), H', ⟨by first | omega | exact Nat.le_refl _⟩, ⟨by refine fq ?_ NB266_269.out; refine fq ?_ NB266_269.out; exact bq BK266.out⟩, ⟨by refine fq ?_ NB267_269.out; refine fq ?_ NB267_269.out; exact bq BK267.out⟩, ⟨by refine fq ?_ NB268_269.out; refine fq ?_ NB268_269.out; exact bq BK268.out⟩, ⟨by refine bq ?_; refine blk_put (cs := #[.int .i64 (wrap64 (a0_0 + a1_0)), .int .i64 4294967295, .int .i64 (Go.bits .and .i64 (Go.bits .andNot .i64 (wrap64 (a0_2 + a1_2)) (Go.bits .and .i64 (Go.bits .or .i64 (Go.bits .or .i64 (Go.bits .xor .i64 (wrap64 (a0_2 + a1_2)) (wrap64 ((wrap64 ((wrap64 (a0_2 + a1_2)) + a0_3)) + a1_3))) a0_3) a1_3) 4294967295)) 4294967295), .int .i64 (Go.bits .and .i64 (Go.bits .or .i64 (Go.bits .or .i64 (Go.bits .xor .i64 (wrap64 (a0_2 + a1_2)) (wrap64 ((wrap64 ((wrap64 (a0_2 + a1_2)) + a0_3)) + a1_3))) a0_3) a1_3) 4294967295)]) ?_ 1 _ rfl; refine bq ?_; refine blk_put (cs := #[.int .i64 0, .int .i64 4294967295, .int .i64 (Go.bits .and .i64 (Go.bits .andNot .i64 (wrap64 (a0_2 + a1_2)) (Go.bits .and .i64 (Go.bits .or .i64 (Go.bits .or .i64 (Go.bits .xor .i64 (wrap64 (a0_2 + a1_2)) (wrap64 ((wrap64 ((wrap64 (a0_2 + a1_2)) + a0_3)) + a1_3))) a0_3) a1_3) 4294967295)) 4294967295), .int .i64 (Go.bits .and .i64 (Go.bits .or .i64 (Go.bits .or .i64 (Go.bits .xor .i64 (wrap64 (a0_2 + a1_2)) (wrap64 ((wrap64 ((wrap64 (a0_2 + a1_2)) + a0_3)) + a1_3))) a0_3) a1_3) 4294967295)]) ?_ 0 _ rfl; exact bq BK269.out⟩, ⟨zB⟩⟩
  ·rw [if_neg c20] at H
   have c20b0 : decide ((wrap64 (a0_1 + a1_1)) ≤ 4294967295) = false := decide_eq_false c20
   clear c20
   (first | rw [c20b0] | (simp only [i64_w, i32_w]; rw [c20b0]) | skip)
   have H' := Aside0.mk H
   clear H
   go_wp2
   go_meet
   case rel => exact ⟨_, (0), (4294967295), H', ⟨by first | omega | exact Nat.le_refl _⟩, ⟨by refine fq ?_ NB266_269.out; refine fq ?_ NB266_269.out; refine fq ?_ NB266_269.out; refine fq ?_ NB266_269.out; exact bq BK266.out⟩, ⟨by refine fq ?_ NB267_269.out; refine fq ?_ NB267_269.out; refine fq ?_ NB267_269.out; refine fq ?_ NB267_269.out; exact bq BK267.out⟩, ⟨by refine fq ?_ NB268_269.out; refine fq ?_ NB268_269.out; refine fq ?_ NB268_269.out; refine fq ?_ NB268_269.out; exact bq BK268.out⟩, ⟨by refine bq ?_; refine blk_put (cs := #[.int .i64 0, .int .i64 4294967295, .int .i64 (Go.bits .and .i64 (Go.bits .andNot .i64 (wrap64 (a0_2 + a1_2)) (Go.bits .and .i64 (Go.bits .or .i64 (Go.bits .or .i64 (Go.bits .xor .i64 (wrap64 (a0_2 + a1_2)) (wrap64 ((wrap64 ((wrap64 (a0_2 + a1_2)) + a0_3)) + a1_3))) a0_3) a1_3) 4294967295)) 4294967295), .int .i64 0]) ?_ 3 _ rfl; refine bq ?_; refine blk_put (cs := #[.int .i64 0, .int .i64 4294967295, .int .i64 0, .int .i64 0]) ?_ 2 _ rfl; refine bq ?_; refine blk_put (cs := #[.int .i64 0, .int .i64 0, .int .i64 0, .int .i64 0]) ?_ 1 _ rfl; refine bq ?_; refine blk_put (cs := #[.int .i64 0, .int .i64 0, .int .i64 0, .int .i64 0]) ?_ 0 _ rfl; exact bq BK269.out⟩, ⟨zB⟩⟩
 case rest =>
  clear HC3
  try clear c1
  try clear c2
  try clear p2
  try clear c4
  try clear p6
  try clear c8
  try clear c9
  try clear c11
  try clear c14
  try clear c15
  try clear c16
  try clear c20
  try clear c20b0
  try clear hcz10_0 hcz10_1 hcz10_2 hcz10_3 hfz10_0 hfz10_1 hfz10_2 hfz10_3
  try clear hcz12_0 hcz12_1 hcz12_2 hcz12_3 hfz12_0 hfz12_1 hfz12_2 hfz12_3
  try clear hcz17_0 hcz17_1 hcz17_2 hcz17_3 hfz17_0 hfz17_1 hfz17_2 hfz17_3
  try clear hcz18_0 hcz18_1 hcz18_2 hcz18_3 hfz18_0 hfz18_1 hfz18_2 hfz18_3
  try clear hcz19_0 hcz19_1 hcz19_2 hcz19_3 hfz19_0 hfz19_1 hfz19_2 hfz19_3
  obtain ⟨kq, x270000_2, x270001_2, HA, HJ2, BK266, BK267, BK268, BK269, HB⟩ := hcut
  cases kq with
  | zero => exact absurd HA.out (by simp [impl_added.j0])
  | succ kj2 =>
   have H := HA.out
   clear HA
   simp only [impl_added.j0] at H
   replace H := Option.bind_eq_some_iff.mp H
   obtain ⟨⟨t270, t271, t272, t273⟩, A250, H⟩ := H
   try dsimp only at H
   have A25 := Aside0.mk A250
   clear A250
   simp only [Option.some.injEq, Prod.mk.injEq] at H
   obtain ⟨rfl, rfl, rfl, rfl⟩ := H
   have hnb26 := NB269_266.out
   have hnc26 := NB266_269.out
   have hnb27 := NB269_267.out
   have hnc27 := NB267_269.out
   have hnb28 := NB269_268.out
   have hnc28 := NB268_269.out
   have hcz29_0 : wc.cell? ⟨gb269, 0, none⟩ = some (.int .i64 x270000_2) := (blk_cell BK269.out 0).trans rfl
   have hcz29_1 : wc.cell? ⟨gb269, 1, none⟩ = some (.int .i64 x270001_2) := (blk_cell BK269.out 1).trans rfl
   have hcz29_2 : wc.cell? ⟨gb269, 2, none⟩ = some (.int .i64 (Go.bits .and .i64 (Go.bits .andNot .i64 (wrap64 (a0_2 + a1_2)) (Go.bits .and .i64 (Go.bits .or .i64 (Go.bits .or .i64 (Go.bits .xor .i64 (wrap64 (a0_2 + a1_2)) (wrap64 ((wrap64 ((wrap64 (a0_2 + a1_2)) + a0_3)) + a1_3))) a0_3) a1_3) 4294967295)) 4294967295)) := (blk_cell BK269.out 2).trans rfl
   have hcz29_3 : wc.cell? ⟨gb269, 3, none⟩ = some (.int .i64 (Go.bits .and .i64 (Go.bits .or .i64 (Go.bits .or .i64 (Go.bits .xor .i64 (wrap64 (a0_2 + a1_2)) (wrap64 ((wrap64 ((wrap64 (a0_2 + a1_2)) + a0_3)) + a1_3))) a0_3) a1_3) 4294967295)) := (blk_cell BK269.out 3).trans rfl
   have hfz29_0 := blk_frozen BK269.out 0
   have hfz29_1 := blk_frozen BK269.out 1
   have hfz29_2 := blk_frozen BK269.out 2
   have hfz29_3 := blk_frozen BK269.out 3
   go_wp2_with (first | ((with_reducible refine gate_callee (f := 40) rfl ?_); refine gl 60 Try.func40 #[.agg #[.int .i64 x270000_2, .int .i64 x270001_2, .int .i64 (Go.bits .and .i64 (Go.bits .andNot .i64 (wrap64 (a0_2 + a1_2)) (Go.bits .and .i64 (Go.bits .or .i64 (Go.bits .or .i64 (Go.bits .xor .i64 (wrap64 (a0_2 + a1_2)) (wrap64 ((wrap64 ((wrap64 (a0_2 + a1_2)) + a0_3)) + a1_3))) a0_3) a1_3) 4294967295)) 4294967295), .int .i64 (Go.bits .and .i64 (Go.bits .or .i64 (Go.bits .or .i64 (Go.bits .xor .i64 (wrap64 (a0_2 + a1_2)) (wrap64 ((wrap64 ((wrap64 (a0_2 + a1_2)) + a0_3)) + a1_3))) a0_3) a1_3) 4294967295)]] ?_; (with_reducible refine (impl_Range_tidy.calls x270000_2 x270001_2 (Go.bits .and .i64 (Go.bits .andNot .i64 (wrap64 (a0_2 + a1_2)) (Go.bits .and .i64 (Go.bits .or .i64 (Go.bits .or .i64 (Go.bits .xor .i64 (wrap64 (a0_2 + a1_2)) (wrap64 ((wrap64 ((wrap64 (a0_2 + a1_2)) + a0_3)) + a1_3))) a0_3) a1_3) 4294967295)) 4294967295) (Go.bits .and .i64 (Go.bits .or .i64 (Go.bits .or .i64 (Go.bits .xor .i64 (wrap64 (a0_2 + a1_2)) (wrap64 ((wrap64 ((wrap64 (a0_2 + a1_2)) + a0_3)) + a1_3))) a0_3) a1_3) 4294967295) t270 t271 t272 t273 _ A25.out).mono ?_); rintro e w30 ⟨rfl, hb⟩; refine ⟨_, rfl, ?_⟩; replace BK266 := zb BK266 hb rfl; replace BK267 := zb BK267 hb rfl; replace BK268 := zb BK268 hb rfl; replace BK269 := zb BK269 hb rfl; replace HB := zS hb; try clear hb; have hnb31 := NB268_266.out; have hnc31 := NB266_268.out; have hnb32 := NB268_267.out; have hnc32 := NB267_268.out; obtain ⟨hcz33_0, hcz33_1, hcz33_2, hcz33_3, hfz33_0, hfz33_1, hfz33_2, hfz33_3⟩ := zc4 BK268))
   refine bodyPost_ret (results_cell_row rfl _ _ gb268 24 #[.int .i64 t270, .int .i64 t271, .int .i64 t272, .int .i64 t273] (0, 0) _ rfl (by refine bq ?_; refine blk_put (cs := #[.int .i64 t270, .int .i64 t271, .int .i64 t272, .int .i64 0]) ?_ 3 _ rfl; refine bq ?_; refine blk_put (cs := #[.int .i64 t270, .int .i64 t271, .int .i64 0, .int .i64 0]) ?_ 2 _ rfl; refine bq ?_; refine blk_put (cs := #[.int .i64 t270, .int .i64 0, .int .i64 0, .int .i64 0]) ?_ 1 _ rfl; refine bq ?_; refine blk_put (cs := #[.int .i64 0, .int .i64 0, .int .i64 0, .int .i64 0]) ?_ 0 _ rfl; exact bq BK268.out) Try.underlying24 rfl (by kernel_rfl)) rfl ?_
   exact ⟨zR, zB⟩

/-! ### impl_rangeAll: function 42 -/
def impl_rangeAll.f  : Option (Int × Int × Int × Int) := some (0, 4294967295, 0, 4294967295)
set_option maxHeartbeats 8000000 in
set_option maxRecDepth 100000 in
theorem impl_rangeAll.calls  (r1 : Int) (r2 : Int) (r3 : Int) (r4 : Int) (w : World) (h : impl_rangeAll.f  = some (r1, r2, r3, r4)) :
  Calls Try.prog 42 #[] w fun e w' => e = .returned (.agg #[.int .i64 r1, .int .i64 r2, .int .i64 r3, .int .i64 r4]) ∧ Below w.heap.size w w' := by
 have hu24 := Try.underlying24
 have HB := Aside0.mk (Below.refl w.heap.size w)
 have H : (some (0, 4294967295, 0, 4294967295)) = some (r1, r2, r3, r4) := h
 clear h
 simp only [Option.some.injEq, Prod.mk.injEq] at H
 obtain ⟨rfl, rfl, rfl, rfl⟩ := H
 go_enter Try.func42, Try.ntmps42
 go_wp2_with (first | ((with_reducible refine gate_dst (N := 0) rfl ?_); refine be 0 #[.int .i64 0, .int .i64 0, .int .i64 0, .int .i64 0] 24 ?_; intro gb274 hg w1 hbox hb; have BK274 := Aside0.mk hbox; have GW274 := zW hg; replace HB := zS hb; have GE274 := GW274; clear hb hbox hg; obtain ⟨hcz2_0, hcz2_1, hcz2_2, hcz2_3, hfz2_0, hfz2_1, hfz2_2, hfz2_3⟩ := zc4 BK274))
 refine bodyPost_ret (results_cell_row rfl _ _ gb274 24 #[.int .i64 0, .int .i64 4294967295, .int .i64 0, .int .i64 4294967295] (0, 0) _ rfl (by refine bq ?_; refine blk_put (cs := #[.int .i64 0, .int .i64 4294967295, .int .i64 0, .int .i64 0]) ?_ 3 _ rfl; refine bq ?_; refine blk_put (cs := #[.int .i64 0, .int .i64 4294967295, .int .i64 0, .int .i64 0]) ?_ 2 _ rfl; refine bq ?_; refine blk_put (cs := #[.int .i64 0, .int .i64 0, .int .i64 0, .int .i64 0]) ?_ 1 _ rfl; refine bq ?_; refine blk_put (cs := #[.int .i64 0, .int .i64 0, .int .i64 0, .int .i64 0]) ?_ 0 _ rfl; exact bq BK274.out) Try.underlying24 rfl (by kernel_rfl)) rfl ?_
 exact ⟨zR, zB⟩

/-! ### impl_fromTo: function 43 -/
def impl_fromTo.f (a0 : Int) (a1 : Int) : Option (Int × Int × Int × Int) := (impl_Range_tidy.f a0 a1 0 4294967295).bind fun bt276 => (some (bt276.1, bt276.2.1, bt276.2.2.1, bt276.2.2.2))
set_option maxHeartbeats 8000000 in
set_option maxRecDepth 100000 in
theorem impl_fromTo.calls (a0 : Int) (a1 : Int) (r1 : Int) (r2 : Int) (r3 : Int) (r4 : Int) (w : World) (h : impl_fromTo.f a0 a1 = some (r1, r2, r3, r4)) :
  Calls Try.prog 43 #[.int .i64 a0, .int .i64 a1] w fun e w' => e = .returned (.agg #[.int .i64 r1, .int .i64 r2, .int .i64 r3, .int .i64 r4]) ∧ Below w.heap.size w w' := by
 have hu24 := Try.underlying24
 have HB := Aside0.mk (Below.refl w.heap.size w)
 have H : ((impl_Range_tidy.f a0 a1 0 4294967295).bind fun bt276 => (some (bt276.1, bt276.2.1, bt276.2.2.1, bt276.2.2.2))) = some (r1, r2, r3, r4) := h
 clear h
 replace H := Option.bind_eq_some_iff.mp H
 obtain ⟨⟨t276, t277, t278, t279⟩, A30, H⟩ := H
 try dsimp only at H
 have A3 := Aside0.mk A30
 clear A30
 simp only [Option.some.injEq, Prod.mk.injEq] at H
 obtain ⟨rfl, rfl, rfl, rfl⟩ := H
 go_enter Try.func43, Try.ntmps43
 go_wp2_with (first | ((with_reducible refine gate_dst (N := 4) rfl ?_); refine be 4 #[.int .i64 0, .int .i64 0, .int .i64 0, .int .i64 0] 24 ?_; intro gb275 hg w4 hbox hb; have BK275 := Aside0.mk hbox; have GW275 := zW hg; replace HB := zS hb; have GE275 := GW275; clear hb hbox hg) | ((with_reducible refine gate_callee (f := 40) rfl ?_); refine gl 8 Try.func40 #[.agg #[.int .i64 a0, .int .i64 a1, .int .i64 0, .int .i64 4294967295]] ?_; (with_reducible refine (impl_Range_tidy.calls a0 a1 0 4294967295 t276 t277 t278 t279 _ A3.out).mono ?_); rintro e w5 ⟨rfl, hb⟩; refine ⟨_, rfl, ?_⟩; replace BK275 := zb BK275 hb rfl; replace HB := zS hb; try clear hb; obtain ⟨hcz6_0, hcz6_1, hcz6_2, hcz6_3, hfz6_0, hfz6_1, hfz6_2, hfz6_3⟩ := zc4 BK275))
 refine bodyPost_ret (results_cell_row rfl _ _ gb275 24 #[.int .i64 t276, .int .i64 t277, .int .i64 t278, .int .i64 t279] (0, 0) _ rfl (by refine bq ?_; refine blk_put (cs := #[.int .i64 t276, .int .i64 t277, .int .i64 t278, .int .i64 0]) ?_ 3 _ rfl; refine bq ?_; refine blk_put (cs := #[.int .i64 t276, .int .i64 t277, .int .i64 0, .int .i64 0]) ?_ 2 _ rfl; refine bq ?_; refine blk_put (cs := #[.int .i64 t276, .int .i64 0, .int .i64 0, .int .i64 0]) ?_ 1 _ rfl; refine bq ?_; refine blk_put (cs := #[.int .i64 0, .int .i64 0, .int .i64 0, .int .i64 0]) ?_ 0 _ rfl; exact bq BK275.out) Try.underlying24 rfl (by kernel_rfl)) rfl ?_
 exact ⟨zR, zB⟩

/-! ### bits_Mul64: function 59 -/
def bits_Mul64.f (a0 : Int) (a1 : Int) : Option (Int × Int) := some (IntKind.u64.wrap ((IntKind.u64.wrap ((IntKind.u64.wrap ((a0 / 4294967296) * (a1 / 4294967296))) + ((IntKind.u64.wrap ((IntKind.u64.wrap ((a0 / 4294967296) * (Go.bits .and .u64 a1 4294967295))) + ((IntKind.u64.wrap ((Go.bits .and .u64 a0 4294967295) * (Go.bits .and .u64 a1 4294967295))) / 4294967296))) / 4294967296))) + ((IntKind.u64.wrap ((Go.bits .and .u64 (IntKind.u64.wrap ((IntKind.u64.wrap ((a0 / 4294967296) * (Go.bits .and .u64 a1 4294967295))) + ((IntKind.u64.wrap ((Go.bits .and .u64 a0 4294967295) * (Go.bits .and .u64 a1 4294967295))) / 4294967296))) 4294967295) + (IntKind.u64.wrap ((Go.bits .and .u64 a0 4294967295) * (a1 / 4294967296))))) / 4294967296)), IntKind.u64.wrap (a0 * a1))
set_option maxHeartbeats 8000000 in
set_option maxRecDepth 100000 in
theorem bits_Mul64.calls (a0 : Int) (a1 : Int) (r1 : Int) (r2 : Int) (w : World) (h : bits_Mul64.f a0 a1 = some (r1, r2)) :
  Calls Try.prog 59 #[.int .u64 a0, .int .u64 a1] w fun e w' => e = .returned (.tuple #[.int .u64 r1, .int .u64 r2]) ∧ Drawn0 w w' := by
 have H : (some (IntKind.u64.wrap ((IntKind.u64.wrap ((IntKind.u64.wrap ((a0 / 4294967296) * (a1 / 4294967296))) + ((IntKind.u64.wrap ((IntKind.u64.wrap ((a0 / 4294967296) * (Go.bits .and .u64 a1 4294967295))) + ((IntKind.u64.wrap ((Go.bits .and .u64 a0 4294967295) * (Go.bits .and .u64 a1 4294967295))) / 4294967296))) / 4294967296))) + ((IntKind.u64.wrap ((Go.bits .and .u64 (IntKind.u64.wrap ((IntKind.u64.wrap ((a0 / 4294967296) * (Go.bits .and .u64 a1 4294967295))) + ((IntKind.u64.wrap ((Go.bits .and .u64 a0 4294967295) * (Go.bits .and .u64 a1 4294967295))) / 4294967296))) 4294967295) + (IntKind.u64.wrap ((Go.bits .and .u64 a0 4294967295) * (a1 / 4294967296))))) / 4294967296)), IntKind.u64.wrap (a0 * a1))) = some (r1, r2) := h
 clear h
 simp only [Option.some.injEq, Prod.mk.injEq] at H
 obtain ⟨rfl, rfl⟩ := H
 go_enter Try.func59, Try.ntmps59
 go_wp2
 go_ret2
 exact ⟨by first | rfl | (simp; done) | (simp [*]; done), by repeat (first | exact Drawn0.refl _ | apply Drawn0.step)⟩

/-! ### impl_times: function 44 -/
def impl_times.j0 : Nat → Bool → Int → Int → Int → Int → Int → Int → Int → Int → Option (Int × Int × Int × Int)
 | 0, _, _, _, _, _, _, _, _, _ => none
 | k + 1, x22, x281000, x281001, x281002, x281003, x282000, x282001, x282002, x282003 => if x22 = true then ((impl_rangeAll.f).bind fun bt285 => (some (bt285.1, bt285.2.1, bt285.2.2.1, bt285.2.2.2))) else ((impl_fromTo.f (wrap64 (x281000 * x282000)) (wrap64 (x281001 * x282001))).bind fun bt289 => (some (bt289.1, bt289.2.1, bt289.2.2.1, bt289.2.2.2)))
def impl_times.f (k : Nat) (a0_0 : Int) (a0_1 : Int) (a0_2 : Int) (a0_3 : Int) (a1_0 : Int) (a1_1 : Int) (a1_2 : Int) (a1_3 : Int) : Option (Int × Int × Int × Int) := (bits_Mul64.f (IntKind.u64.wrap (a0_1)) (IntKind.u64.wrap (a1_1))).bind fun bt283 => (if bt283.1 > 0 then (impl_times.j0 k true a0_0 a0_1 a0_2 a0_3 a1_0 a1_1 a1_2 a1_3) else (impl_times.j0 k (decide (bt283.2 > 4294967295)) a0_0 a0_1 a0_2 a0_3 a1_0 a1_1 a1_2 a1_3))


set_option maxHeartbeats 8000000 in
set_option maxRecDepth 100000 in
theorem impl_times.calls (k : Nat) (a0_0 : Int) (a0_1 : Int) (a0_2 : Int) (a0_3 : Int) (a1_0 : Int) (a1_1 : Int) (a1_2 : Int) (a1_3 : Int) (r1 : Int) (r2 : Int) (r3 : Int) (r4 : Int) (w : World) (h : impl_times.f k a0_0 a0_1 a0_2 a0_3 a1_0 a1_1 a1_2 a1_3 = some (r1, r2, r3, r4)) :
  Calls Try.prog 44 #[.agg #[.int .i64 a0_0, .int .i64 a0_1, .int .i64 a0_2, .int .i64 a0_3], .agg #[.int .i64 a1_0, .int .i64 a1_1, .int .i64 a1_2, .int .i64 a1_3]] w fun e w' => e = .returned (.agg #[.int .i64 r1, .int .i64 r2, .int .i64 r3, .int .i64 r4]) ∧ Below w.heap.size w w' := by
 have hu24 := Try.underlying24
 have HB := Aside0.mk (Below.refl w.heap.size w)
 have H : ((bits_Mul64.f (IntKind.u64.wrap (a0_1)) (IntKind.u64.wrap (a1_1))).bind fun bt283 => (if bt283.1 > 0 then (impl_times.j0 k true a0_0 a0_1 a0_2 a0_3 a1_0 a1_1 a1_2 a1_3) else (impl_times.j0 k (decide (bt283.2 > 4294967295)) a0_0 a0_1 a0_2 a0_3 a1_0 a1_1 a1_2 a1_3))) = some (r1, r2, r3, r4) := h
 clear h
 replace H := Option.bind_eq_some_iff.mp H
 obtain ⟨⟨t283, t284⟩, A30, H⟩ := H
 try dsimp only at H
 have A3 := Aside0.mk A30
 clear A30
 have HC4 := Aside0.mk H
 clear H
 go_enter Try.func44, Try.ntmps44
 go_upto_region 2 with (first | ((with_reducible refine gate_dst (N := 2) rfl ?_); refine be 2 #[.int .i64 a0_0, .int .i64 a0_1, .int .i64 a0_2, .int .i64 a0_3] 24 ?_; intro gb280 hg w5 hbox hb; have BK280 := Aside0.mk hbox; have GW280 := zW hg; replace HB := zS hb; have GE280 := GW280; clear hb hbox hg) | ((with_reducible refine gate_dst (N := 3) rfl ?_); refine be 3 #[.int .i64 a1_0, .int .i64 a1_1, .int .i64 a1_2, .int .i64 a1_3] 24 ?_; intro gb281 hg w6 hbox hb; have BK281 := Aside0.mk hbox; have GW281 := zW hg; replace HB := zS hb; have GE281 := GW281; have NB280_281 := zl BK280 hg rfl; have NB281_280 := zg BK280 hg rfl; replace BK280 := zb BK280 hb rfl; clear hb hbox hg) | ((with_reducible refine gate_dst (N := 4) rfl ?_); refine be 4 #[.int .i64 0, .int .i64 0, .int .i64 0, .int .i64 0] 24 ?_; intro gb282 hg w7 hbox hb; have BK282 := Aside0.mk hbox; have GW282 := zW hg; replace HB := zS hb; have GE282 := GW282; have NB280_282 := zl BK280 hg rfl; have NB282_280 := zg BK280 hg rfl; replace BK280 := zb BK280 hb rfl; have NB281_282 := zl BK281 hg rfl; have NB282_281 := zg BK281 hg rfl; replace BK281 := zb BK281 hb rfl; clear hb hbox hg; have hnb8 := NB280_281.out; have hnc8 := NB281_280.out; have hnb9 := NB280_282.out; have hnc9 := NB282_280.out; obtain ⟨hcz10_0, hcz10_1, hcz10_2, hcz10_3, hfz10_0, hfz10_1, hfz10_2, hfz10_3⟩ := zc4 BK280; have hnb11 := NB281_282.out; have hnc11 := NB282_281.out; obtain ⟨hcz12_0, hcz12_1, hcz12_2, hcz12_3, hfz12_0, hfz12_1, hfz12_2, hfz12_3⟩ := zc4 BK281) | ((with_reducible refine gate_callee (f := 59) rfl ?_); refine gl 14 Try.func59 #[.int .u64 (IntKind.u64.wrap (a0_1)), .int .u64 (IntKind.u64.wrap (a1_1))] ?_; (with_reducible refine (bits_Mul64.calls (IntKind.u64.wrap (a0_1)) (IntKind.u64.wrap (a1_1)) t283 t284 _ A3.out).mono ?_); rintro e w' ⟨rfl, ⟨nd, rfl⟩⟩; refine ⟨_, rfl, ?_⟩))
 (try simp only [Act.put, List.setIfInBounds_toArray, List.set_cons_zero, List.set_cons_succ])
 go_cut [22] (fun v22 wc => ∃ (kq : Nat) (x22_3 : Bool), v22 = .bool x22_3 ∧ Aside0 (impl_times.j0 kq x22_3 a0_0 a0_1 a0_2 a0_3 a1_0 a1_1 a1_2 a1_3 = some (r1, r2, r3, r4)) ∧ Aside0 (kq ≤ k) ∧ Aside0 (wc.heap[gb280]? = some (.cells #[.int .i64 a0_0, .int .i64 a0_1, .int .i64 a0_2, .int .i64 a0_3] 24 (0, 0))) ∧ Aside0 (wc.heap[gb281]? = some (.cells #[.int .i64 a1_0, .int .i64 a1_1, .int .i64 a1_2, .int .i64 a1_3] 24 (0, 0))) ∧ Aside0 (wc.heap[gb282]? = some (.cells #[.int .i64 0, .int .i64 0, .int .i64 0, .int .i64 0] 24 (0, 0))) ∧ Aside0 (Below w.heap.size w wc))
 case first =>
  have H := HC4.out
  clear HC4
  by_cases c13 : t283 > 0
  ·rw [if_pos c13] at H
   have c13b0 : decide (0 < t283) = true := decide_eq_true c13
   clear c13
   (first | rw [c13b0] | (simp only [i64_w, i32_w]; rw [c13b0]) | skip)
   have H' := Aside0.mk H
   clear H
   go_wp2
   go_meet
   case rel => exact ⟨_, (true), (by first | rfl | (simp; done) | (simp [*]; done)), H', ⟨by first | omega | exact Nat.le_refl _⟩, ⟨by exact bq BK280.out⟩, ⟨by exact bq BK281.out⟩, ⟨by exact bq BK282.out⟩, ⟨zB⟩⟩
  ·rw [if_neg c13] at H
   have c13b0 : decide (0 < t283) = false := decide_eq_false c13
   clear c13
   (first | rw [c13b0] | (simp only [i64_w, i32_w]; rw [c13b0]) | skip)
   have H' := Aside0.mk H
   clear H
   go_wp2
   go_meet
   case rel => exact ⟨_, (decide (t284 > 4294967295)), (by first | rfl | (simp; done) | (simp [*]; done)), H', ⟨by first | omega | exact Nat.le_refl _⟩, ⟨by exact bq BK280.out⟩, ⟨by exact bq BK281.out⟩, ⟨by exact bq BK282.out⟩, ⟨zB⟩⟩
 case rest =>
  clear HC4
  try clear c1
  try clear p2
  try clear c4
  try clear c5
  try clear c8
  try clear c9
  try clear c11
  try clear c13
  try clear c13b0
  try clear hcz10_0 hcz10_1 hcz10_2 hcz10_3 hfz10_0 hfz10_1 hfz10_2 hfz10_3
  try clear hcz12_0 hcz12_1 hcz12_2 hcz12_3 hfz12_0 hfz12_1 hfz12_2 hfz12_3
  obtain ⟨kq, x22_3, rfl, HA, HJ3, BK280, BK281, BK282, HB⟩ := hcut
  cases kq with
  | zero => exact absurd HA.out (by simp [impl_times.j0])
  | succ kj3 =>
   have H := HA.out
   clear HA
   simp only [impl_times.j0] at H
   by_cases c14 : x22_3 = true
   ·subst c14
    rw [if_pos rfl] at H
    replace H := Option.bind_eq_some_iff.mp H
    obtain ⟨⟨t285, t286, t287, t288⟩, A150, H⟩ := H
    try dsimp only at H
    have A15 := Aside0.mk A150
    clear A150
    simp only [Option.some.injEq, Prod.mk.injEq] at H
    obtain ⟨rfl, rfl, rfl, rfl⟩ := H
    go_wp2_with (first | ((with_reducible refine gate_callee (f := 42) rfl ?_); refine gl 23 Try.func42 #[] ?_; (with_reducible refine (impl_rangeAll.calls  t285 t286 t287 t288 _ A15.out).mono ?_); rintro e w16 ⟨rfl, hb⟩; refine ⟨_, rfl, ?_⟩; replace BK280 := zb BK280 hb rfl; replace BK281 := zb BK281 hb rfl; replace BK282 := zb BK282 hb rfl; replace HB := zS hb; try clear hb; have hnb17 := NB282_280.out; have hnc17 := NB280_282.out; have hnb18 := NB282_281.out; have hnc18 := NB281_282.out; obtain ⟨hcz19_0, hcz19_1, hcz19_2, hcz19_3, hfz19_0, hfz19_1, hfz19_2, hfz19_3⟩ := zc4 BK282))
    refine bodyPost_ret (results_cell_row rfl _ _ gb282 24 #[.int .i64 t285, .int .i64 t286, .int .i64 t287, .int .i64 t288] (0, 0) _ rfl (by refine bq ?_; refine blk_put (cs := #[.int .i64 t285, .int .i64 t286, .int .i64 t287, .int .i64 0]) ?_ 3 _ rfl; refine bq ?_; refine blk_put (cs := #[.int .i64 t285, .int .i64 t286, .int .i64 0, .int .i64 0]) ?_ 2 _ rfl; refine bq ?_; refine blk_put (cs := #[.int .i64 t285, .int .i64 0, .int .i64 0, .int .i64 0]) ?_ 1 _ rfl; refine bq ?_; refine blk_put (cs := #[.int .i64 0, .int .i64 0, .int .i64 0, .int .i64 0]) ?_ 0 _ rfl; exact bq BK282.out) Try.underlying24 rfl (by kernel_rfl)) rfl ?_
    exact ⟨zR, zB⟩
   ·replace c14 := Bool.eq_false_iff.mpr c14
    subst c14
    rw [if_neg (show ¬ (false = true) by decide)] at H
    replace H := Option.bind_eq_some_iff.mp H
    obtain ⟨⟨t289, t290, t291, t292⟩, A200, H⟩ := H
    try dsimp only at H
    have A20 := Aside0.mk A200
    clear A200
    simp only [Option.some.injEq, Prod.mk.injEq] at H
    obtain ⟨rfl, rfl, rfl, rfl⟩ := H
    have hnb21 := NB280_281.out
    have hnc21 := NB281_280.out
    have hnb22 := NB280_282.out
    have hnc22 := NB282_280.out
    obtain ⟨hcz23_0, hcz23_1, hcz23_2, hcz23_3, hfz23_0, hfz23_1, hfz23_2, hfz23_3⟩ := zc4 BK280
    have hnb24 := NB281_282.out
    have hnc24 := NB282_281.out
    obtain ⟨hcz25_0, hcz25_1, hcz25_2, hcz25_3, hfz25_0, hfz25_1, hfz25_2, hfz25_3⟩ := zc4 BK281
    go_wp2_with (first | ((with_reducible refine gate_callee (f := 43) rfl ?_); refine gl 34 Try.func43 #[.int .i64 (wrap64 (a0_0 * a1_0)), .int .i64 (wrap64 (a0_1 * a1_1))] ?_; (with_reducible refine (impl_fromTo.calls (wrap64 (a0_0 * a1_0)) (wrap64 (a0_1 * a1_1)) t289 t290 t291 t292 _ A20.out).mono ?_); rintro e w26 ⟨rfl, hb⟩; refine ⟨_, rfl, ?_⟩; replace BK280 := zb BK280 hb rfl; replace BK281 := zb BK281 hb rfl; replace BK282 := zb BK282 hb rfl; replace HB := zS hb; try clear hb; obtain ⟨hcz27_0, hcz27_1, hcz27_2, hcz27_3, hfz27_0, hfz27_1, hfz27_2, hfz27_3⟩ := zc4 BK282))
    refine bodyPost_ret (results_cell_row rfl _ _ gb282 24 #[.int .i64 t289, .int .i64 t290, .int .i64 t291, .int .i64 t292] (0, 0) _ rfl (by refine bq ?_; refine blk_put (cs := #[.int .i64 t289, .int .i64 t290, .int .i64 t291, .int .i64 0]) ?_ 3 _ rfl; refine bq ?_; refine blk_put (cs := #[.int .i64 t289, .int .i64 t290, .int .i64 0, .int .i64 0]) ?_ 2 _ rfl; refine bq ?_; refine blk_put (cs := #[.int .i64 t289, .int .i64 0, .int .i64 0, .int .i64 0]) ?_ 1 _ rfl; refine bq ?_; refine blk_put (cs := #[.int .i64 0, .int .i64 0, .int .i64 0, .int .i64 0]) ?_ 0 _ rfl; exact bq BK282.out) Try.underlying24 rfl (by kernel_rfl)) rfl ?_
    exact ⟨zR, zB⟩

end Go.Proofs.Ytdhijcfohbkpoaa.Q
