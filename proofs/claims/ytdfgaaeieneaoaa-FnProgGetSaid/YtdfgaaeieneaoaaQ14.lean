/- The machine's side of this seat's laws: Go functions as Lean functions, and their contracts. By a program of this work over the kit's print. -/
import Derived.Test.YtdfgaaeieneaoaaQ0
import Derived.Test.YtdfgaaeieneaoaaQ3
import Derived.Test.YtdfgaaeieneaoaaQ13
namespace Go.Proofs.Ytdfgaaeieneaoaa.Q
open Go.RowKit Go.Proofs.YtdfgaaeieneaoaaW.PrintWords Go.Proofs.YtdfgaaeieneaoaaW.PrintLast Go.Proofs.YtdfgaaeieneaoaaW.PrintMore
attribute [local go_sem] max2_int min2_int max_two min_two max_three min_three max_four min_four Go.Proofs.YtdfgaaeieneaoaaN.not_i64 Go.Proofs.YtdfgaaeieneaoaaN.isSome_setCell   -- for this text's walks alone
set_option linter.unusedVariables false
set_option linter.unusedSimpArgs false
theorem dz14 {p : Prop} [Decidable p] (h : decide p = true := by first | (with_reducible assumption) | assumption) : p := of_decide_eq_true h
mutual
def spec_l1Read.l0 : Nat → List ByteArray → Int → Int → Int → Int → Int → Int → Int → Option (Int × Int × Int × Int × Int × Int)
 | 0, _, _, _, _, _, _, _, _ => none
 | k + 1, x0, x4, x314000, x314001, x314002, x314003, x314004, x314005 => if x4 ≤ 4 then (if 0 < (x0.length : Int) then ((spec_l1Dec.f k x4).bind fun t315 => (if 4 + t315.size ≤ 9223372036854775807 then (if (rdOf ByteArray.empty x0 0).toList = ((⟨#[108, 111, 97, 100]⟩ : ByteArray) ++ t315).toList then (spec_l1Read.j1 k x0 x4 true x314000 x314001 x314002 x314003 x314004 x314005) else ((spec_l1Dec.f k x4).bind fun t317 => (if 5 + t317.size ≤ 9223372036854775807 then (spec_l1Read.j1 k x0 x4 ((rdOf ByteArray.empty x0 0).toList == ((⟨#[115, 116, 111, 114, 101]⟩ : ByteArray) ++ t317).toList) x314000 x314001 x314002 x314003 x314004 x314005) else (none)))) else (none))) else (none)) else ((spec_l1Alu.f x314000).bind fun t324 => (if t324 = true then (if (x0.length : Int) = 3 then (spec_l1Read.j2 k x0 (x0.length : Int) true x314000 x314001 x314002 x314003 x314004 x314005) else ((spec_l1Jump.f x314000).bind fun t325 => (if t325 = true then (spec_l1Read.j2 k x0 (x0.length : Int) ((x0.length : Int) == 4) x314000 x314001 x314002 x314003 x314004 x314005) else (spec_l1Read.j2 k x0 (x0.length : Int) false x314000 x314001 x314002 x314003 x314004 x314005)))) else ((spec_l1Jump.f x314000).bind fun t326 => (if t326 = true then (spec_l1Read.j2 k x0 (x0.length : Int) ((x0.length : Int) == 4) x314000 x314001 x314002 x314003 x314004 x314005) else (spec_l1Read.j2 k x0 (x0.length : Int) false x314000 x314001 x314002 x314003 x314004 x314005)))))
def spec_l1Read.j1 : Nat → List ByteArray → Int → Bool → Int → Int → Int → Int → Int → Int → Option (Int × Int × Int × Int × Int × Int)
 | 0, _, _, _, _, _, _, _, _, _ => none
 | k + 1, x0, x4, x43, x314000, x314001, x314002, x314003, x314004, x314005 => if x43 = true then ((spec_l1Words.f).bind fun t318 => (if 0 < (x0.length : Int) then (if 0 ≤ (wrap64 (((rdOf ByteArray.empty x0 0).size : Int) - 1)) then (if (wrap64 (((rdOf ByteArray.empty x0 0).size : Int) - 1)) ≤ ((rdOf ByteArray.empty x0 0).size : Int) then ((spec_l1Find.f k t318 ((rdOf ByteArray.empty x0 0).extract 0 ((wrap64 (((rdOf ByteArray.empty x0 0).size : Int) - 1)) : Int).toNat)).bind fun t323 => (spec_l1Read.l0 k x0 (wrap64 (x4 * 2)) t323 x314001 x314002 x314003 x314004 x4)) else (none)) else (none)) else (none))) else (spec_l1Read.l0 k x0 (wrap64 (x4 * 2)) x314000 x314001 x314002 x314003 x314004 x314005)
def spec_l1Read.j2 : Nat → List ByteArray → Int → Bool → Int → Int → Int → Int → Int → Int → Option (Int × Int × Int × Int × Int × Int)
 | 0, _, _, _, _, _, _, _, _, _ => none
 | k + 1, x0, x5, x60, x314000, x314001, x314002, x314003, x314004, x314005 => if x60 = true then (if 1 < (x0.length : Int) then ((spec_l1ReadReg.f k (rdOf ByteArray.empty x0 1)).bind fun bt328 => (if 2 < (x0.length : Int) then ((spec_l1ReadReg.f k (rdOf ByteArray.empty x0 2)).bind fun bt331 => (if x5 = 4 then (if 3 < (x0.length : Int) then ((spec_l1Signed.f k (rdOf ByteArray.empty x0 3)).bind fun t334 => (some (x314000, bt328.1, bt331.1, t334, bt331.2, x314005))) else (none)) else (some (x314000, bt328.1, bt331.1, x314003, bt331.2, x314005)))) else (none))) else (none)) else (if x314000 = 16 then (spec_l1Read.j3 k x0 x5 (x5 == 2) x314000 x314001 x314002 x314003 x314004 x314005) else (spec_l1Read.j3 k x0 x5 false x314000 x314001 x314002 x314003 x314004 x314005))
def spec_l1Read.j3 : Nat → List ByteArray → Int → Bool → Int → Int → Int → Int → Int → Int → Option (Int × Int × Int × Int × Int × Int)
 | 0, _, _, _, _, _, _, _, _, _ => none
 | k + 1, x0, x5, x104, x314000, x314001, x314002, x314003, x314004, x314005 => if x104 = true then (if 1 < (x0.length : Int) then ((spec_l1Signed.f k (rdOf ByteArray.empty x0 1)).bind fun t336 => (some (x314000, x314001, x314002, t336, x314004, x314005))) else (none)) else (if x314000 = 17 then (spec_l1Read.j4 k x0 x5 (x5 == 4) x314000 x314001 x314002 x314003 x314004 x314005) else (spec_l1Read.j4 k x0 x5 false x314000 x314001 x314002 x314003 x314004 x314005))
def spec_l1Read.j4 : Nat → List ByteArray → Int → Bool → Int → Int → Int → Int → Int → Int → Option (Int × Int × Int × Int × Int × Int)
 | 0, _, _, _, _, _, _, _, _, _ => none
 | k + 1, x0, x5, x117, x314000, x314001, x314002, x314003, x314004, x314005 => if x117 = true then (if 1 < (x0.length : Int) then ((spec_l1ReadReg.f k (rdOf ByteArray.empty x0 1)).bind fun bt338 => (if 2 < (x0.length : Int) then ((spec_l1ReadReg.f k (rdOf ByteArray.empty x0 2)).bind fun bt341 => (if 3 < (x0.length : Int) then ((spec_l1Signed.f k (rdOf ByteArray.empty x0 3)).bind fun t344 => (some (x314000, bt338.1, bt341.1, t344, x314004, x314005))) else (none))) else (none))) else (none)) else (if x314000 = 18 then (spec_l1Read.j5 k x0 x5 (x5 == 4) x314000 x314001 x314002 x314003 x314004 x314005) else (spec_l1Read.j5 k x0 x5 false x314000 x314001 x314002 x314003 x314004 x314005))
def spec_l1Read.j5 : Nat → List ByteArray → Int → Bool → Int → Int → Int → Int → Int → Int → Option (Int × Int × Int × Int × Int × Int)
 | 0, _, _, _, _, _, _, _, _, _ => none
 | k + 1, x0, x5, x148, x314000, x314001, x314002, x314003, x314004, x314005 => if x148 = true then (if 1 < (x0.length : Int) then ((spec_l1ReadReg.f k (rdOf ByteArray.empty x0 1)).bind fun bt346 => (if 3 < (x0.length : Int) then ((spec_l1ReadReg.f k (rdOf ByteArray.empty x0 3)).bind fun bt349 => (if 2 < (x0.length : Int) then ((spec_l1Signed.f k (rdOf ByteArray.empty x0 2)).bind fun t352 => (some (x314000, bt346.1, bt349.1, t352, bt349.2, x314005))) else (none))) else (none))) else (none)) else (if x314000 = 19 then (spec_l1Read.j6 k x0 (x5 == 2) x314000 x314001 x314002 x314003 x314004 x314005) else (spec_l1Read.j6 k x0 false x314000 x314001 x314002 x314003 x314004 x314005))
def spec_l1Read.j6 : Nat → List ByteArray → Bool → Int → Int → Int → Int → Int → Int → Option (Int × Int × Int × Int × Int × Int)
 | 0, _, _, _, _, _, _, _, _ => none
 | k + 1, x0, x181, x314000, x314001, x314002, x314003, x314004, x314005 => if x181 = true then ((spec_l1Calls.f).bind fun t353 => (if 1 < (x0.length : Int) then ((spec_l1Find.f k t353 (rdOf ByteArray.empty x0 1)).bind fun t357 => (some (x314000, x314001, x314002, x314003, t357, x314005))) else (none))) else (some (x314000, x314001, x314002, x314003, x314004, x314005))
end
def spec_l1Read.f (k : Nat) (l0 : List ByteArray) : Option (Int × Int × Int × Int × Int × Int) := (spec_l1Words.f).bind fun t308 => (if 0 < (l0.length : Int) then ((spec_l1Find.f k t308 (rdOf ByteArray.empty l0 0)).bind fun t312 => (spec_l1Read.l0 k l0 1 t312 0 (-1) 0 0 0)) else (none))
def spec_l1Read.T1 : Bool × List (List Nat × List Nat) := (true, [([], []), ([], []), ([1], [1]), ([2], [2]), ([0, 3, 0], [0, 3]), ([4], [4]), ([], []), ([6, 5, 4, 0, 1, 2, 3, 4, 5, 6], [5, 6])])
def spec_l1Read.B1 : List Nat := [0, 0, 2, 6, 15, 31, 0, 127]
theorem spec_l1Read.tab1 : rtab .any (opsOf Try.f61 1) = spec_l1Read.T1 := by kernel_rfl
theorem spec_l1Read.bits1 : waitsOk spec_l1Read.T1.2 spec_l1Read.B1 = true := by kernel_rfl
def spec_l1Read.T5 : Bool × List (List Nat × List Nat) := (true, [([], []), ([0], [0]), ([1], [1]), ([], []), ([3], [3]), ([4], [4]), ([2, 5], [2, 5]), ([6, 4], [6]), ([7], [7]), ([8, 7], [7, 8]), ([9, 7], [7, 9]), ([7], [7]), ([11, 7, 7], [7, 11]), ([12, 7], [7, 12]), ([10, 13, 7], [7, 10, 13]), ([7, 14], [7, 14])])
def spec_l1Read.B5 : List Nat := [0, 1, 3, 0, 8, 24, 63, 127, 255, 511, 1023, 255, 2303, 6399, 16383, 32767]
theorem spec_l1Read.tab5 : rtab .any (opsOf Try.f61 5) = spec_l1Read.T5 := by kernel_rfl
theorem spec_l1Read.bits5 : waitsOk spec_l1Read.T5.2 spec_l1Read.B5 = true := by kernel_rfl
def spec_l1Read.T6 : Bool × List (List Nat × List Nat) := (true, [([], []), ([], []), ([1], [1]), ([2], [2]), ([], []), ([4], [4]), ([5], [5]), ([6], [6]), ([7], [7]), ([3, 8], [3, 8]), ([0, 9, 0], [0, 9]), ([0, 1, 2, 3, 4, 5, 6, 7, 8, 9, 10], []), ([11, 10, 10, 0, 1, 2, 3, 4, 5, 6, 7, 8, 9, 10], [10, 11])])
def spec_l1Read.B6 : List Nat := [0, 0, 2, 6, 0, 16, 48, 112, 240, 510, 1023, 2047, 4095]
theorem spec_l1Read.tab6 : rtab .any (opsOf Try.f61 6) = spec_l1Read.T6 := by kernel_rfl
theorem spec_l1Read.bits6 : waitsOk spec_l1Read.T6.2 spec_l1Read.B6 = true := by kernel_rfl
set_option maxHeartbeats 8000000 in
set_option maxRecDepth 100000 in
theorem spec_l1Read.way (k : Nat) (A0 : Option Addr) (c0 : Nat) (l0 : List ByteArray) (r1 : Int) (r2 : Int) (r3 : Int) (r4 : Int) (r5 : Int) (r6 : Int) (w : World) (HR0 : Aside0 (Kd.C Kd.string w A0 l0.length l0)) (HC0 : Aside0 (l0.length ≤ c0)) (t308 : List ByteArray) (A2 : Aside0 (spec_l1Words.f = some t308)) (c3b0 : decide (0 < (l0.length : Int)) = true) (c3b1 : decide (0 < l0.length) = true) (t312 : Int) (A4 : Aside0 (spec_l1Find.f k t308 (rdOf ByteArray.empty l0 0) = some t312)) (H' : Aside0 (spec_l1Read.l0 k l0 1 t312 0 (-1) 0 0 0 = some (r1, r2, r3, r4, r5, r6))) (HB : Aside0 (Below w.heap.size w w)) :
  Calls Try.prog 61 #[.slice A0 l0.length c0] w fun e w' => e = .returned (.agg #[.int .i64 r1, .int .i64 r2, .int .i64 r3, .int .i64 r4, .int .i64 r5, .int .i64 r6]) ∧ Below w.heap.size w w' := by
 have hu38 := Try.underlying38
 go_enter Try.func61, Try.ntmps61
 try go_wp2_with (first | ((with_reducible refine gate_dst (N := 2) rfl ?_); refine be 2 #[.int .i64 0, .int .i64 0, .int .i64 0, .int .i64 0, .int .i64 0, .int .i64 0] 38 ?_; intro gb307 hg w5 hbox hb; have BK307 := Aside0.mk hbox; have GW307 := zW hg; replace HB := zS hb; have GE307 := GW307; clear hb hbox hg))
 replace BK307 := Aside0.mk (blk_drew BK307.out)
 replace HB := Aside0.mk (below_drew1 HB.out)
 have p311 : 0 ≤ (0 : Int) := (by omega)
 have q311 : 0 < (l0.length : Int) := dz14
 obtain ⟨ad311, e311, hx311_0⟩ := Kd.at_string HR0.out 0 p311 q311
 have hw311_0 := hx311_0
 (try rw [show ((0 : Int)).toNat = 0 from rfl] at hw311_0)
 (try rw [show 0 * 1 = 0 from rfl] at hw311_0)
 (try rw [Addr.add_zero'] at hw311_0)
 cases e311
 have qi311 : (0 < l0.length) = True := eq_true (by omega)
 (try rw [show ((0 : Int)).toNat = 0 from rfl] at hx311_0)
 (try rw [Addr.add_zero'] at hx311_0)
 replace hx311_0 := (HB.out.cell (World.block_lt_of_cell? w _ hx311_0)).trans hx311_0
 replace p311 := eq_true p311
 replace q311 := eq_true q311
 refine start_ (n := 8) (S := fun w' => w'.cell? ad311 = some (.string (rdOf ByteArray.empty l0 0))) (ds := []) #[false, false, false, false, false, false, false, false] (by kernel_rfl) rfl rfl (((HB.out.cell (World.block_lt_of_cell? w _ hw311_0)).trans hw311_0)) (fun hHeld => ?_); refine with_tabW spec_l1Read.tab1 spec_l1Read.bits1 (fun HT_ HW_ => ?_)
 generalize w5.drew = w6 at BK307 HB hx311_0 hHeld ⊢
 refine pz 1 19 ?_
 refine pz 2 20 ?_
 refine take_ (i := 3) (N := some 21) (v := ?_) (a' := ?_) #[false, true, true, true, false, false, false, false] rfl rfl (take_ofW HT_.out HW_.out (by kernel_rfl)) (fun _ _ _ h => h) (Or.inl ⟨by rfl, ?_⟩) hHeld ?_ ?_
 rotate_left
 ·intro w' s0
  go_simp
  with_reducible rfl
 rotate_left
 ·simp only [Act.put, List.setIfInBounds_toArray, List.set_cons_zero, List.set_cons_succ, i64_w, i32_w]
  rfl
 refine join_ (σ := Value × Nat) 1 #[true, true, true, true, true, true, true, false] (fun s_ => [(18, s_.1), (22, .int .i64 t312), (3, .pointer (some ⟨s_.2, 0, none⟩)), (23, .agg #[.int .i64 t312, .int .i64 0, .int .i64 (-1), .int .i64 0, .int .i64 0, .int .i64 0])]) (fun s_ w' => (w'.cell? ad311 = some (.string (rdOf ByteArray.empty l0 0))) ∧ (Kd.R Kd.string 9 w' w.heap.size (fun _ => True) s_.1 t308) ∧ (w'.heap[gb307]? = some (.cells #[.int .i64 0, .int .i64 0, .int .i64 0, .int .i64 0, .int .i64 0, .int .i64 0] 38 (0, 0))) ∧ (w'.heap[s_.2]? = some (.cells #[.int .i64 0, .int .i64 0, .int .i64 0, .int .i64 0, .int .i64 0, .int .i64 0] 38 (0, 0))) ∧ (w.heap.size ≤ s_.2) ∧ (w.heap.size ≤ s_.2) ∧ (gb307 ≠ s_.2) ∧ (s_.2 ≠ gb307) ∧ (Below w.heap.size w w')) ?_ ?_
 rotate_left
 ·intro hCont
  refine two_ (i := 0) (j := 6) (Ni := some 18) (Nj := some 3) #[true, true, true, true, false, false, false, false] #[false, true, true, true, false, false, true, false] rfl rfl rfl rfl (two_of HT_.out (by kernel_rfl)) (by decide) (by decide) (fun K hK => ?_) (fun K hK => ?_)
  ·skip
   refine gz Try.func65 #[] ?_
   with_reducible refine (spec_l1Words.calls  t308 _ A2.out).mono ?_
   rintro e w7 ⟨v309, rfl, ho0, hb⟩
   refine ⟨_, rfl, ?_⟩
   have HO310 := Aside0.mk (Kd.R_lower ho0 (below_size zB))
   replace BK307 := zb BK307 hb rfl
   replace HB := zS hb
   (try clear hb)
   (try clear hi)
   (try clear ho0)
   obtain ⟨Ao8, co8, eo8⟩ := Kd.R_slice HO310.out
   (first | subst eo8 | (injection eo8 with f1_ f2_ f3_; have f4_ := f1_.symm; have f5_ := f3_.symm; clear f1_ f2_ f3_; subst f4_; subst f5_))
   refine hK.out _ _ (((HB.out.cell (World.block_lt_of_cell? w _ hw311_0)).trans hw311_0)) (fun hHeld => ?_)
   clear hK K
   refine nz ?_
   refine two_ (i := 4) (j := 6) (Ni := some 22) (Nj := some 3) #[true, true, true, true, true, false, false, false] #[true, true, true, true, false, false, true, false] rfl rfl rfl rfl (two_of HT_.out (by kernel_rfl)) (by decide) (by decide) (fun K hK => ?_) (fun K hK => ?_)
   ·skip
    refine gz Try.func64 #[.slice Ao8 t308.length co8, .string (rdOf ByteArray.empty l0 0)] ?_
    with_reducible refine (spec_l1Find.calls k _ _ t308 (rdOf ByteArray.empty l0 0) t312 _ ?side1 ?side2 A4.out).mono ?_
    (case side1 => repeat (first | exact (Kd.R_reads' HO310.out).2.2 | (with_reducible refine Kd.C_alloc ?_ _) | (with_reducible refine Kd.C_drewN ?_ _) | (with_reducible refine Kd.C_drew ?_)))
    (case side2 => exact (Kd.R_reads' HO310.out).2.1)
    rintro e w' ⟨rfl, ⟨nd, rfl⟩⟩
    refine ⟨_, rfl, ?_⟩
    refine hK.out _ _ (((HB.out.cell (World.block_lt_of_cell? w _ hw311_0)).trans hw311_0)) (fun hHeld => ?_)
    clear hK K
    refine nz ?_
    refine pz 5 23 ?_
    refine oz 6 3 fun K hK => ?_
    refine box_step ?hg (N := 3) ?hd (cs := #[.int .i64 0, .int .i64 0, .int .i64 0, .int .i64 0, .int .i64 0, .int .i64 0]) (t := 38) ?hr ?_; (case hd => rfl); (case hg => rfl); (case hr => first | (go_simp; done) | (go_simp; rfl))
    intro gb313 hg w9 hbox hb
    replace HO310 := Aside0.mk (Kd.R_below (by (with_reducible repeat (first | apply Kd.R_alloc | apply Kd.R_drewN | apply Kd.R_drew)); exact HO310.out) hb)
    have BK313 := Aside0.mk hbox
    have GW313 := zW hg
    have GE313 := zW hg
    replace HB := zS hb
    have NB307_313 := zl BK307 hg rfl
    have NB313_307 := zg BK307 hg rfl
    replace BK307 := zb BK307 hb rfl
    clear hb hbox hg
    refine hK.out _ _ (((HB.out.cell (World.block_lt_of_cell? w _ hw311_0)).trans hw311_0)) (fun hHeld => ?_)
    clear hK K
    refine nz ?_
    exact norm_ (by simp only [putAll, Act.put, List.setIfInBounds_toArray, List.set_cons_zero, List.set_cons_succ]) (hCont (.slice Ao8 t308.length co8, gb313) _ ⟨hHeld, (by (with_reducible repeat (first | apply Kd.R_alloc | apply Kd.R_drewN | apply Kd.R_drew)); exact HO310.out), (by exact bq BK307.out), (by exact bq BK313.out), GW313.out, GE313.out, NB307_313.out, NB313_307.out, zB⟩)
   ·skip
    refine box_step ?hg (N := 3) ?hd (cs := #[.int .i64 0, .int .i64 0, .int .i64 0, .int .i64 0, .int .i64 0, .int .i64 0]) (t := 38) ?hr ?_; (case hd => rfl); (case hg => rfl); (case hr => first | (go_simp; done) | (go_simp; rfl))
    intro gb313 hg w8 hbox hb
    replace HO310 := Aside0.mk (Kd.R_below (by (with_reducible repeat (first | apply Kd.R_alloc | apply Kd.R_drewN | apply Kd.R_drew)); exact HO310.out) hb)
    have BK313 := Aside0.mk hbox
    have GW313 := zW hg
    have GE313 := zW hg
    replace HB := zS hb
    have NB307_313 := zl BK307 hg rfl
    have NB313_307 := zg BK307 hg rfl
    replace BK307 := zb BK307 hb rfl
    clear hb hbox hg
    obtain ⟨Ao9, co9, eo9⟩ := Kd.R_slice HO310.out
    (first | subst eo9 | (injection eo9 with f1_ f2_ f3_; have f4_ := f1_.symm; have f5_ := f3_.symm; clear f1_ f2_ f3_; subst f4_; subst f5_))
    refine hK.out _ _ (((HB.out.cell (World.block_lt_of_cell? w _ hw311_0)).trans hw311_0)) (fun hHeld => ?_)
    clear hK K
    refine nz ?_
    refine oz 4 22 fun K hK => ?_
    refine gz Try.func64 #[.slice Ao9 t308.length co9, .string (rdOf ByteArray.empty l0 0)] ?_
    with_reducible refine (spec_l1Find.calls k _ _ t308 (rdOf ByteArray.empty l0 0) t312 _ ?side1 ?side2 A4.out).mono ?_
    (case side1 => repeat (first | exact (Kd.R_reads' HO310.out).2.2 | (with_reducible refine Kd.C_alloc ?_ _) | (with_reducible refine Kd.C_drewN ?_ _) | (with_reducible refine Kd.C_drew ?_)))
    (case side2 => exact (Kd.R_reads' HO310.out).2.1)
    rintro e w' ⟨rfl, ⟨nd, rfl⟩⟩
    refine ⟨_, rfl, ?_⟩
    refine hK.out _ _ (((HB.out.cell (World.block_lt_of_cell? w _ hw311_0)).trans hw311_0)) (fun hHeld => ?_)
    clear hK K
    refine nz ?_
    refine pz 5 23 ?_
    exact norm_ (by simp only [putAll, Act.put, List.setIfInBounds_toArray, List.set_cons_zero, List.set_cons_succ]) (hCont (.slice Ao9 t308.length co9, gb313) _ ⟨hHeld, (by (with_reducible repeat (first | apply Kd.R_alloc | apply Kd.R_drewN | apply Kd.R_drew)); exact HO310.out), (by exact bq BK307.out), (by exact bq BK313.out), GW313.out, GE313.out, NB307_313.out, NB313_307.out, zB⟩)
  ·skip
   refine box_step ?hg (N := 3) ?hd (cs := #[.int .i64 0, .int .i64 0, .int .i64 0, .int .i64 0, .int .i64 0, .int .i64 0]) (t := 38) ?hr ?_; (case hd => rfl); (case hg => rfl); (case hr => first | (go_simp; done) | (go_simp; rfl))
   intro gb313 hg w7 hbox hb
   have BK313 := Aside0.mk hbox
   have GW313 := zW hg
   have GE313 := zW hg
   replace HB := zS hb
   have NB307_313 := zl BK307 hg rfl
   have NB313_307 := zg BK307 hg rfl
   replace BK307 := zb BK307 hb rfl
   clear hb hbox hg
   refine hK.out _ _ (((HB.out.cell (World.block_lt_of_cell? w _ hw311_0)).trans hw311_0)) (fun hHeld => ?_)
   clear hK K
   refine nz ?_
   refine oz 0 18 fun K hK => ?_
   refine gz Try.func65 #[] ?_
   with_reducible refine (spec_l1Words.calls  t308 _ A2.out).mono ?_
   rintro e w8 ⟨v309, rfl, ho0, hb⟩
   refine ⟨_, rfl, ?_⟩
   have HO310 := Aside0.mk (Kd.R_lower ho0 (below_size zB))
   replace BK307 := zb BK307 hb rfl
   replace BK313 := zb BK313 hb rfl
   replace HB := zS hb
   (try clear hb)
   (try clear hi)
   (try clear ho0)
   obtain ⟨Ao9, co9, eo9⟩ := Kd.R_slice HO310.out
   (first | subst eo9 | (injection eo9 with f1_ f2_ f3_; have f4_ := f1_.symm; have f5_ := f3_.symm; clear f1_ f2_ f3_; subst f4_; subst f5_))
   refine hK.out _ _ (((HB.out.cell (World.block_lt_of_cell? w _ hw311_0)).trans hw311_0)) (fun hHeld => ?_)
   clear hK K
   refine nz ?_
   refine oz 4 22 fun K hK => ?_
   refine gz Try.func64 #[.slice Ao9 t308.length co9, .string (rdOf ByteArray.empty l0 0)] ?_
   with_reducible refine (spec_l1Find.calls k _ _ t308 (rdOf ByteArray.empty l0 0) t312 _ ?side1 ?side2 A4.out).mono ?_
   (case side1 => repeat (first | exact (Kd.R_reads' HO310.out).2.2 | (with_reducible refine Kd.C_alloc ?_ _) | (with_reducible refine Kd.C_drewN ?_ _) | (with_reducible refine Kd.C_drew ?_)))
   (case side2 => exact (Kd.R_reads' HO310.out).2.1)
   rintro e w' ⟨rfl, ⟨nd, rfl⟩⟩
   refine ⟨_, rfl, ?_⟩
   refine hK.out _ _ (((HB.out.cell (World.block_lt_of_cell? w _ hw311_0)).trans hw311_0)) (fun hHeld => ?_)
   clear hK K
   refine nz ?_
   refine pz 5 23 ?_
   exact norm_ (by simp only [putAll, Act.put, List.setIfInBounds_toArray, List.set_cons_zero, List.set_cons_succ]) (hCont (.slice Ao9 t308.length co9, gb313) _ ⟨hHeld, (by (with_reducible repeat (first | apply Kd.R_alloc | apply Kd.R_drewN | apply Kd.R_drew)); exact HO310.out), (by exact bq BK307.out), (by exact bq BK313.out), GW313.out, GE313.out, NB307_313.out, NB313_307.out, zB⟩)
 rintro ⟨v309, gb313⟩ w10 ⟨hS_, h0_, h1_, h2_, h3_, h4_, h5_, h6_, h7_⟩
 have n0_ : Aside0 (Kd.R Kd.string 9 w10 w.heap.size (fun _ => True) v309 t308) := ⟨h0_⟩
 have n1_ : Aside0 (w10.heap[gb307]? = some (.cells #[.int .i64 0, .int .i64 0, .int .i64 0, .int .i64 0, .int .i64 0, .int .i64 0] 38 (0, 0))) := ⟨h1_⟩
 have n2_ : Aside0 (w10.heap[gb313]? = some (.cells #[.int .i64 0, .int .i64 0, .int .i64 0, .int .i64 0, .int .i64 0, .int .i64 0] 38 (0, 0))) := ⟨h2_⟩
 have n3_ : Aside0 (w.heap.size ≤ gb313) := ⟨h3_⟩
 have n4_ : Aside0 (w.heap.size ≤ gb313) := ⟨h4_⟩
 have n5_ : Aside0 (gb307 ≠ gb313) := ⟨h5_⟩
 have n6_ : Aside0 (gb313 ≠ gb307) := ⟨h6_⟩
 have n7_ : Aside0 (Below w.heap.size w w10) := ⟨h7_⟩
 clear BK307
 clear HB
 clear h0_ h1_ h2_ h3_ h4_ h5_ h6_ h7_
 have HO310 := n0_
 have BK307 := n1_
 have BK313 := n2_
 have GW313 := n3_
 have GE313 := n4_
 have NB307_313 := n5_
 have NB313_307 := n6_
 have HB := n7_
 clear n0_ n1_ n2_ n3_ n4_ n5_ n6_ n7_
 have hHeld : w10.cell? ad311 = some (.string (rdOf ByteArray.empty l0 0)) := hS_
 refine norm_ (a' := ?_) ?_ ?_
 rotate_left
 ·simp only [putAll, Act.put, List.setIfInBounds_toArray, List.set_cons_zero, List.set_cons_succ]
  rfl
 refine oN 7 fun K hK => ?_
 have hs11 : w10.cell? ⟨gb313, 0, none⟩ = some (.int .i64 0) := (blk_cell BK313.out 0).trans rfl
 have hfs11 := blk_frozen BK313.out 0
 have hns11_0 := NB307_313.out
 have hms11_0 := NB313_307.out
 have hs12 : w10.cell? ⟨gb313, 1, none⟩ = some (.int .i64 0) := (blk_cell BK313.out 1).trans rfl
 have hfs12 := blk_frozen BK313.out 1
 have hns12_0 := NB307_313.out
 have hms12_0 := NB313_307.out
 have hs13 : w10.cell? ⟨gb313, 2, none⟩ = some (.int .i64 0) := (blk_cell BK313.out 2).trans rfl
 have hfs13 := blk_frozen BK313.out 2
 have hns13_0 := NB307_313.out
 have hms13_0 := NB313_307.out
 have hs14 : w10.cell? ⟨gb313, 3, none⟩ = some (.int .i64 0) := (blk_cell BK313.out 3).trans rfl
 have hfs14 := blk_frozen BK313.out 3
 have hns14_0 := NB307_313.out
 have hms14_0 := NB313_307.out
 have hs15 : w10.cell? ⟨gb313, 4, none⟩ = some (.int .i64 0) := (blk_cell BK313.out 4).trans rfl
 have hfs15 := blk_frozen BK313.out 4
 have hns15_0 := NB307_313.out
 have hms15_0 := NB313_307.out
 have hs16 : w10.cell? ⟨gb313, 5, none⟩ = some (.int .i64 0) := (blk_cell BK313.out 5).trans rfl
 have hfs16 := blk_frozen BK313.out 5
 have hns16_0 := NB307_313.out
 have hms16_0 := NB313_307.out
 refine skip_ (w1 := ?_) (by rfl) rfl ?_ ?_
 rotate_left
 ·go_simp
  rfl
 refine hK.out _ _ (((cell_far (p := ⟨gb313, _, none⟩) (by first | exact Nat.ne_of_lt (Nat.lt_of_lt_of_le (by have := World.block_lt_of_cell? _ _ hw311_0; first | rwa [add_block] at this | exact this) GW313.out) | (rw [add_block]; exact Nat.ne_of_lt (Nat.lt_of_lt_of_le (by have := World.block_lt_of_cell? _ _ hw311_0; first | rwa [add_block] at this | exact this) GW313.out)) | (show (Addr.add _ _).block ≠ _; rw [add_block]; exact Nat.ne_of_lt (Nat.lt_of_lt_of_le (by have := World.block_lt_of_cell? _ _ hw311_0; first | rwa [add_block] at this | exact this) GW313.out)) | (dsimp only; exact Nat.ne_of_lt (Nat.lt_of_lt_of_le (by have := World.block_lt_of_cell? _ _ hw311_0; first | rwa [add_block] at this | exact this) GW313.out))) _).trans (((cell_far (p := ⟨gb313, _, none⟩) (by first | exact Nat.ne_of_lt (Nat.lt_of_lt_of_le (by have := World.block_lt_of_cell? _ _ hw311_0; first | rwa [add_block] at this | exact this) GW313.out) | (rw [add_block]; exact Nat.ne_of_lt (Nat.lt_of_lt_of_le (by have := World.block_lt_of_cell? _ _ hw311_0; first | rwa [add_block] at this | exact this) GW313.out)) | (show (Addr.add _ _).block ≠ _; rw [add_block]; exact Nat.ne_of_lt (Nat.lt_of_lt_of_le (by have := World.block_lt_of_cell? _ _ hw311_0; first | rwa [add_block] at this | exact this) GW313.out)) | (dsimp only; exact Nat.ne_of_lt (Nat.lt_of_lt_of_le (by have := World.block_lt_of_cell? _ _ hw311_0; first | rwa [add_block] at this | exact this) GW313.out))) _).trans (((cell_far (p := ⟨gb313, _, none⟩) (by first | exact Nat.ne_of_lt (Nat.lt_of_lt_of_le (by have := World.block_lt_of_cell? _ _ hw311_0; first | rwa [add_block] at this | exact this) GW313.out) | (rw [add_block]; exact Nat.ne_of_lt (Nat.lt_of_lt_of_le (by have := World.block_lt_of_cell? _ _ hw311_0; first | rwa [add_block] at this | exact this) GW313.out)) | (show (Addr.add _ _).block ≠ _; rw [add_block]; exact Nat.ne_of_lt (Nat.lt_of_lt_of_le (by have := World.block_lt_of_cell? _ _ hw311_0; first | rwa [add_block] at this | exact this) GW313.out)) | (dsimp only; exact Nat.ne_of_lt (Nat.lt_of_lt_of_le (by have := World.block_lt_of_cell? _ _ hw311_0; first | rwa [add_block] at this | exact this) GW313.out))) _).trans (((cell_far (p := ⟨gb313, _, none⟩) (by first | exact Nat.ne_of_lt (Nat.lt_of_lt_of_le (by have := World.block_lt_of_cell? _ _ hw311_0; first | rwa [add_block] at this | exact this) GW313.out) | (rw [add_block]; exact Nat.ne_of_lt (Nat.lt_of_lt_of_le (by have := World.block_lt_of_cell? _ _ hw311_0; first | rwa [add_block] at this | exact this) GW313.out)) | (show (Addr.add _ _).block ≠ _; rw [add_block]; exact Nat.ne_of_lt (Nat.lt_of_lt_of_le (by have := World.block_lt_of_cell? _ _ hw311_0; first | rwa [add_block] at this | exact this) GW313.out)) | (dsimp only; exact Nat.ne_of_lt (Nat.lt_of_lt_of_le (by have := World.block_lt_of_cell? _ _ hw311_0; first | rwa [add_block] at this | exact this) GW313.out))) _).trans (((cell_far (p := ⟨gb313, _, none⟩) (by first | exact Nat.ne_of_lt (Nat.lt_of_lt_of_le (by have := World.block_lt_of_cell? _ _ hw311_0; first | rwa [add_block] at this | exact this) GW313.out) | (rw [add_block]; exact Nat.ne_of_lt (Nat.lt_of_lt_of_le (by have := World.block_lt_of_cell? _ _ hw311_0; first | rwa [add_block] at this | exact this) GW313.out)) | (show (Addr.add _ _).block ≠ _; rw [add_block]; exact Nat.ne_of_lt (Nat.lt_of_lt_of_le (by have := World.block_lt_of_cell? _ _ hw311_0; first | rwa [add_block] at this | exact this) GW313.out)) | (dsimp only; exact Nat.ne_of_lt (Nat.lt_of_lt_of_le (by have := World.block_lt_of_cell? _ _ hw311_0; first | rwa [add_block] at this | exact this) GW313.out))) _).trans (((cell_far (p := ⟨gb313, _, none⟩) (by first | exact Nat.ne_of_lt (Nat.lt_of_lt_of_le (by have := World.block_lt_of_cell? _ _ hw311_0; first | rwa [add_block] at this | exact this) GW313.out) | (rw [add_block]; exact Nat.ne_of_lt (Nat.lt_of_lt_of_le (by have := World.block_lt_of_cell? _ _ hw311_0; first | rwa [add_block] at this | exact this) GW313.out)) | (show (Addr.add _ _).block ≠ _; rw [add_block]; exact Nat.ne_of_lt (Nat.lt_of_lt_of_le (by have := World.block_lt_of_cell? _ _ hw311_0; first | rwa [add_block] at this | exact this) GW313.out)) | (dsimp only; exact Nat.ne_of_lt (Nat.lt_of_lt_of_le (by have := World.block_lt_of_cell? _ _ hw311_0; first | rwa [add_block] at this | exact this) GW313.out))) _).trans (hHeld))))))))))))) (fun hHeld => ?_)
 clear hK K
 refine done_ (done_of HT_.out (by kernel_rfl)) ?_
 try go_wp2
 go_loopg [4] k (fun kq v4 w' => ∃ (x4_1 : Int) (x314000_1 : Int) (x314005_1 : Int), v4 = .int .i64 x4_1 ∧ Aside0 (spec_l1Read.l0 kq l0 x4_1 x314000_1 0 (-1) 0 0 x314005_1 = some (r1, r2, r3, r4, r5, r6)) ∧ Aside0 (kq ≤ k) ∧ Aside0 (w'.heap[gb307]? = some (.cells #[.int .i64 0, .int .i64 0, .int .i64 0, .int .i64 0, .int .i64 0, .int .i64 0] 38 (0, 0))) ∧ Aside0 (w'.heap[gb313]? = some (.cells #[.int .i64 x314000_1, .int .i64 0, .int .i64 (-1), .int .i64 0, .int .i64 0, .int .i64 x314005_1] 38 (0, 0))) ∧ Aside0 (Below w.heap.size w w'))
 case atStart => exact ⟨(1), (t312), (0), (by first | rfl | (simp; done) | (simp [*]; done)), H', ⟨Nat.le_refl _⟩, ⟨by refine fq ?_ NB307_313.out; refine fq ?_ NB307_313.out; refine fq ?_ NB307_313.out; refine fq ?_ NB307_313.out; refine fq ?_ NB307_313.out; refine fq ?_ NB307_313.out; exact bq BK307.out⟩, ⟨by refine bq ?_; refine blk_put (cs := #[.int .i64 t312, .int .i64 0, .int .i64 (-1), .int .i64 0, .int .i64 0, .int .i64 0]) ?_ 5 _ rfl; refine bq ?_; refine blk_put (cs := #[.int .i64 t312, .int .i64 0, .int .i64 (-1), .int .i64 0, .int .i64 0, .int .i64 0]) ?_ 4 _ rfl; refine bq ?_; refine blk_put (cs := #[.int .i64 t312, .int .i64 0, .int .i64 (-1), .int .i64 0, .int .i64 0, .int .i64 0]) ?_ 3 _ rfl; refine bq ?_; refine blk_put (cs := #[.int .i64 t312, .int .i64 0, .int .i64 0, .int .i64 0, .int .i64 0, .int .i64 0]) ?_ 2 _ rfl; refine bq ?_; refine blk_put (cs := #[.int .i64 t312, .int .i64 0, .int .i64 0, .int .i64 0, .int .i64 0, .int .i64 0]) ?_ 1 _ rfl; refine bq ?_; refine blk_put (cs := #[.int .i64 0, .int .i64 0, .int .i64 0, .int .i64 0, .int .i64 0, .int .i64 0]) ?_ 0 _ rfl; exact bq BK313.out⟩, ⟨zB⟩⟩
 case round =>
  clear H'
  try clear p2
  try clear c3
  try clear c3b0
  try clear c3b1
  try clear p3
  try clear q3
  try clear hx3
  try clear qi3
  try clear c6
  try clear hx311_0
  try clear p311
  try clear q311
  obtain ⟨x4_1, x314000_1, x314005_1, rfl, HA, HK1, BK307, BK313, HB⟩ := hrel
  cases gk with
  | zero => exact absurd HA.out (by simp [spec_l1Read.l0])
  | succ k1 =>
   have H := HA.out
   clear HA
   simp only [spec_l1Read.l0] at H
   by_cases c17 : x4_1 ≤ 4
   ·rw [if_pos c17] at H
    have c17b0 : decide (x4_1 ≤ 4) = true := decide_eq_true c17
    clear c17
    have HC18 := Aside0.mk H
    clear H
    go_upto_region 5 with (fail)
    go_cut [43] (fun v43 wc => ∃ (kq : Nat) (x43_17 : Bool), v43 = .bool x43_17 ∧ Aside0 (spec_l1Read.j1 kq l0 x4_1 x43_17 x314000_1 0 (-1) 0 0 x314005_1 = some (r1, r2, r3, r4, r5, r6)) ∧ Aside0 (kq ≤ k1) ∧ Aside0 (wc.heap[gb307]? = some (.cells #[.int .i64 0, .int .i64 0, .int .i64 0, .int .i64 0, .int .i64 0, .int .i64 0] 38 (0, 0))) ∧ Aside0 (wc.heap[gb313]? = some (.cells #[.int .i64 x314000_1, .int .i64 0, .int .i64 (-1), .int .i64 0, .int .i64 0, .int .i64 x314005_1] 38 (0, 0))) ∧ Aside0 (Below w.heap.size w wc))
    case first =>
     have H := HC18.out
     clear HC18
     by_cases c19 : 0 < (l0.length : Int)
     ·rw [if_pos c19] at H
      have c19b0 : decide (0 < (l0.length : Int)) = true := decide_eq_true c19
      have c19b1 : decide (0 < l0.length) = true := decide_eq_true (by omega)
      clear c19
      (first | rw [c19b0] | (simp only [i64_w, i32_w]; rw [c19b0]) | skip)
      replace H := Option.bind_eq_some_iff.mp H
      obtain ⟨t315, A200, H⟩ := H
      try dsimp only at H
      have A20 := Aside0.mk A200
      clear A200
      by_cases c21 : 4 + t315.size ≤ 9223372036854775807
      ·rw [if_pos c21] at H
       have c21b0 := eq_true c21
       have c21b1 : decide (4 + t315.size ≤ 9223372036854775807) = true := decide_eq_true c21
       try have c21b2 : (9223372036854775807 < 4 + t315.size) = False := eq_false (Nat.not_lt.2 c21)
       by_cases c22 : (rdOf ByteArray.empty l0 0).toList = ((⟨#[108, 111, 97, 100]⟩ : ByteArray) ++ t315).toList
       ·rw [if_pos c22] at H
        have c22b0 : ((rdOf ByteArray.empty l0 0).toList == ((⟨#[108, 111, 97, 100]⟩ : ByteArray) ++ t315).toList) = true := beq_iff_eq.mpr c22
        have c22b1 : ((rdOf ByteArray.empty l0 0).toList != ((⟨#[108, 111, 97, 100]⟩ : ByteArray) ++ t315).toList) = false := bne_eq_false_iff_eq.mpr c22
        clear c22
        have H' := Aside0.mk H
        clear H
        try go_wp2
        replace BK307 := Aside0.mk (blk_drew BK307.out)
        replace BK313 := Aside0.mk (blk_drew BK313.out)
        replace HB := Aside0.mk (below_drew1 HB.out)
        have p314 : 0 ≤ (0 : Int) := (by omega)
        have q314 : 0 < (l0.length : Int) := dz14
        obtain ⟨ad314, e314, hx314_0⟩ := Kd.at_string HR0.out 0 p314 q314
        have hw314_0 := hx314_0
        (try rw [show ((0 : Int)).toNat = 0 from rfl] at hw314_0)
        (try rw [show 0 * 1 = 0 from rfl] at hw314_0)
        (try rw [Addr.add_zero'] at hw314_0)
        obtain rfl : ad311 = ad314 := (by injection e314)
        have qi314 : (0 < l0.length) = True := eq_true (by omega)
        (try rw [show ((0 : Int)).toNat = 0 from rfl] at hx314_0)
        (try rw [Addr.add_zero'] at hx314_0)
        replace hx314_0 := (HB.out.cell (World.block_lt_of_cell? w _ hx314_0)).trans hx314_0
        replace p314 := eq_true p314
        replace q314 := eq_true q314
        refine start_ (n := 16) (S := fun w' => w'.cell? ad311 = some (.string (rdOf ByteArray.empty l0 0))) (ds := []) #[false, false, false, false, false, false, false, false, false, false, false, false, false, false, false, false] (by kernel_rfl) rfl rfl (((HB.out.cell (World.block_lt_of_cell? w _ hw314_0)).trans hw314_0)) (fun hHeld => ?_); refine with_tabW spec_l1Read.tab5 spec_l1Read.bits5 (fun HT_ HW_ => ?_)
        generalize wr.drew = w23 at BK307 BK313 HB hx314_0 hHeld ⊢
        refine pz 0 28 ?_
        refine pz 1 29 ?_
        refine pz 3 31 ?_
        refine take_ (i := 2) (N := some 30) (v := ?_) (a' := ?_) #[true, true, true, true, false, false, false, false, false, false, false, false, false, false, false, false] rfl rfl (take_ofW HT_.out HW_.out (by kernel_rfl)) (fun _ _ _ h => h) (Or.inl ⟨by rfl, ?_⟩) hHeld ?_ ?_
        rotate_left
        ·intro w' s0
         go_simp
         with_reducible rfl
        rotate_left
        ·simp only [Act.put, List.setIfInBounds_toArray, List.set_cons_zero, List.set_cons_succ, i64_w, i32_w]
         rfl
        refine oz 4 32 fun K hK => ?_
        refine gz Try.func66 #[.int .i64 x4_1] ?_
        with_reducible refine (spec_l1Dec.calls k1 x4_1 t315 _ A20.out).mono ?_
        rintro e w24 ⟨rfl, hb⟩
        refine ⟨_, rfl, ?_⟩
        replace BK307 := zb BK307 hb rfl
        replace BK313 := zb BK313 hb rfl
        replace HB := zS hb
        try clear hb
        refine hK.out _ _ (((HB.out.cell (World.block_lt_of_cell? w _ hw314_0)).trans hw314_0)) (fun hHeld => ?_)
        clear hK K
        refine nz ?_
        refine pz 5 33 ?_
        refine pz 6 34 ?_
        refine pz 7 35 ?_
        refine uz 8 36 ?_
        refine uz 9 37 ?_
        refine uz 10 38 ?_
        refine uz 11 39 ?_
        refine uz 12 40 ?_
        refine uz 13 41 ?_
        refine uz 14 42 ?_
        refine pz 15 43 ?_
        refine done_ (done_of HT_.out (by kernel_rfl)) ?_
        as_aux_lemma =>
         try go_wp2
         go_meet
         case rel => exact ⟨_, (true), (by first | rfl | (simp; done) | (simp [*]; done)), H', ⟨by have := HK1.out; first | omega | exact Nat.le_refl _⟩, ⟨by exact bq BK307.out⟩, ⟨by exact bq BK313.out⟩, ⟨zB⟩⟩
       ·rw [if_neg c22] at H
        have c22b0 : ((rdOf ByteArray.empty l0 0).toList == ((⟨#[108, 111, 97, 100]⟩ : ByteArray) ++ t315).toList) = false := beq_eq_false_iff_ne.mpr c22
        have c22b1 : ((rdOf ByteArray.empty l0 0).toList != ((⟨#[108, 111, 97, 100]⟩ : ByteArray) ++ t315).toList) = true := bne_iff_ne.mpr c22
        replace H := Option.bind_eq_some_iff.mp H
        obtain ⟨t317, A250, H⟩ := H
        try dsimp only at H
        have A25 := Aside0.mk A250
        clear A250
        by_cases c26 : 5 + t317.size ≤ 9223372036854775807
        ·rw [if_pos c26] at H
         have c26b0 := eq_true c26
         have c26b1 : decide (5 + t317.size ≤ 9223372036854775807) = true := decide_eq_true c26
         try have c26b2 : (9223372036854775807 < 5 + t317.size) = False := eq_false (Nat.not_lt.2 c26)
         have H' := Aside0.mk H
         clear H
         as_aux_lemma =>
          try go_wp2
          replace BK307 := Aside0.mk (blk_drew BK307.out)
          replace BK313 := Aside0.mk (blk_drew BK313.out)
          replace HB := Aside0.mk (below_drew1 HB.out)
          have p314 : 0 ≤ (0 : Int) := (by omega)
          have q314 : 0 < (l0.length : Int) := dz14
          obtain ⟨ad314, e314, hx314_0⟩ := Kd.at_string HR0.out 0 p314 q314
          have hw314_0 := hx314_0
          (try rw [show ((0 : Int)).toNat = 0 from rfl] at hw314_0)
          (try rw [show 0 * 1 = 0 from rfl] at hw314_0)
          (try rw [Addr.add_zero'] at hw314_0)
          obtain rfl : ad311 = ad314 := (by injection e314)
          have qi314 : (0 < l0.length) = True := eq_true (by omega)
          (try rw [show ((0 : Int)).toNat = 0 from rfl] at hx314_0)
          (try rw [Addr.add_zero'] at hx314_0)
          replace hx314_0 := (HB.out.cell (World.block_lt_of_cell? w _ hx314_0)).trans hx314_0
          replace p314 := eq_true p314
          replace q314 := eq_true q314
          have p316 : 0 ≤ (0 : Int) := (by omega)
          have q316 : 0 < (l0.length : Int) := dz14
          obtain ⟨ad316, e316, hx316_0⟩ := Kd.at_string HR0.out 0 p316 q316
          have hw316_0 := hx316_0
          (try rw [show ((0 : Int)).toNat = 0 from rfl] at hw316_0)
          (try rw [show 0 * 1 = 0 from rfl] at hw316_0)
          (try rw [Addr.add_zero'] at hw316_0)
          obtain rfl : ad311 = ad316 := (by injection e316)
          have qi316 : (0 < l0.length) = True := eq_true (by omega)
          (try rw [show ((0 : Int)).toNat = 0 from rfl] at hx316_0)
          (try rw [Addr.add_zero'] at hx316_0)
          replace hx316_0 := (HB.out.cell (World.block_lt_of_cell? w _ hx316_0)).trans hx316_0
          replace p316 := eq_true p316
          replace q316 := eq_true q316
          refine start_ (n := 16) (S := fun w' => w'.cell? ad311 = some (.string (rdOf ByteArray.empty l0 0)) ∧ w'.cell? ad311 = some (.string (rdOf ByteArray.empty l0 0))) (ds := []) #[false, false, false, false, false, false, false, false, false, false, false, false, false, false, false, false] (by kernel_rfl) rfl rfl ⟨((HB.out.cell (World.block_lt_of_cell? w _ hw314_0)).trans hw314_0), ((HB.out.cell (World.block_lt_of_cell? w _ hw316_0)).trans hw316_0)⟩ (fun hHeld => ?_); refine with_tabW spec_l1Read.tab5 spec_l1Read.bits5 (fun HT_ HW_ => ?_)
          generalize wr.drew = w27 at BK307 BK313 HB hx314_0 hx316_0 hHeld ⊢
          refine pz 0 28 ?_
          refine pz 1 29 ?_
          refine pz 3 31 ?_
          refine tz 2 30 ?_
          refine oz 4 32 fun K hK => ?_
          refine gz Try.func66 #[.int .i64 x4_1] ?_
          with_reducible refine (spec_l1Dec.calls k1 x4_1 t315 _ A20.out).mono ?_
          rintro e w28 ⟨rfl, hb⟩
          refine ⟨_, rfl, ?_⟩
          replace BK307 := zb BK307 hb rfl
          replace BK313 := zb BK313 hb rfl
          replace HB := zS hb
          try clear hb
          refine hK.out _ _ ⟨((HB.out.cell (World.block_lt_of_cell? w _ hw314_0)).trans hw314_0), ((HB.out.cell (World.block_lt_of_cell? w _ hw316_0)).trans hw316_0)⟩ (fun hHeld => ?_)
          clear hK K
          refine nz ?_
          refine pz 5 33 ?_
          refine pz 6 34 ?_
          refine pz 7 35 ?_
          refine pz 8 36 ?_
          refine pz 9 37 ?_
          refine pz 11 39 ?_
          refine tz 10 38 ?_
          refine oz 12 40 fun K hK => ?_
          refine gz Try.func66 #[.int .i64 x4_1] ?_
          with_reducible refine (spec_l1Dec.calls k1 x4_1 t317 _ A25.out).mono ?_
          rintro e w29 ⟨rfl, hb⟩
          refine ⟨_, rfl, ?_⟩
          replace BK307 := zb BK307 hb rfl
          replace BK313 := zb BK313 hb rfl
          replace HB := zS hb
          try clear hb
          refine hK.out _ _ ⟨((HB.out.cell (World.block_lt_of_cell? w _ hw314_0)).trans hw314_0), ((HB.out.cell (World.block_lt_of_cell? w _ hw316_0)).trans hw316_0)⟩ (fun hHeld => ?_)
          clear hK K
          refine nz ?_
          refine pz 13 41 ?_
          refine pz 14 42 ?_
          refine pz 15 43 ?_
          refine done_ (done_of HT_.out (by kernel_rfl)) ?_
          try go_wp2
          go_meet
          case rel => exact ⟨_, (((rdOf ByteArray.empty l0 0).toList == ((⟨#[115, 116, 111, 114, 101]⟩ : ByteArray) ++ t317).toList)), (by first | rfl | (simp; done) | (simp [*]; done)), H', ⟨by have := HK1.out; first | omega | exact Nat.le_refl _⟩, ⟨by exact bq BK307.out⟩, ⟨by exact bq BK313.out⟩, ⟨zB⟩⟩
        ·rw [if_neg c26] at H
         exact absurd H (by simp)
      ·rw [if_neg c21] at H
       exact absurd H (by simp)
     ·rw [if_neg c19] at H
      exact absurd H (by simp)
    case rest =>
     clear HC18
     try clear c1
     try clear c2
     try clear p2 p2
     try clear c3
     try clear c3b0
     try clear c3b1
     try clear p3 p3
     try clear q3 q3
     try clear hx3
     try clear qi3
     try clear c6
     try clear c17
     try clear c17b0
     try clear c19
     try clear c19b0
     try clear c19b1
     try clear c21
     try clear c21b0
     try clear c21b1
     try clear c21b2
     try clear c22
     try clear c22b0
     try clear c22b1
     try clear c26
     try clear c26b0
     try clear c26b1
     try clear c26b2
     try clear hx311_0
     try clear hx314_0
     try clear hx316_0
     try clear p311
     try clear p314
     try clear p316
     try clear q311
     try clear q314
     try clear q316
     obtain ⟨kq, x43_17, rfl, HA, HJ17, BK307, BK313, HB⟩ := hcut
     cases kq with
     | zero => exact absurd HA.out (by simp [spec_l1Read.j1])
     | succ kj17 =>
      have H := HA.out
      clear HA
      simp only [spec_l1Read.j1] at H
      by_cases c30 : x43_17 = true
      ·subst c30
       rw [if_pos rfl] at H
       replace H := Option.bind_eq_some_iff.mp H
       obtain ⟨t318, A310, H⟩ := H
       try dsimp only at H
       have A31 := Aside0.mk A310
       clear A310
       by_cases c32 : 0 < (l0.length : Int)
       ·rw [if_pos c32] at H
        have c32b0 : decide (0 < (l0.length : Int)) = true := decide_eq_true c32
        have c32b1 : decide (0 < l0.length) = true := decide_eq_true (by omega)
        clear c32
        obtain ⟨ji33, hji33⟩ : ∃ j_ : Int, (wrap64 (((rdOf ByteArray.empty l0 0).size : Int) - 1)) = j_ := ⟨_, rfl⟩
        replace H : (if 0 ≤ (ji33) then (if (ji33) ≤ ((rdOf ByteArray.empty l0 0).size : Int) then ((spec_l1Find.f kj17 t318 ((rdOf ByteArray.empty l0 0).extract 0 ((ji33) : Int).toNat)).bind fun t323 => (spec_l1Read.l0 kj17 l0 (wrap64 (x4_1 * 2)) t323 0 (-1) 0 0 x4_1)) else (none)) else (none)) = some (r1, r2, r3, r4, r5, r6) := by first | (rw [hji33] at H; exact H) | (simp only [hji33] at H ⊢; exact H)
        (try rw [hji33] at A31)
        have hji33w : (IntKind.i64.wrap (((rdOf ByteArray.empty l0 0).size : Int) - 1)) = ji33 := (i64_w _).trans hji33
        by_cases c34 : 0 ≤ (ji33)
        ·rw [if_pos c34] at H
         have c34b0 := eq_true c34
         have c34b1 : decide (0 ≤ (ji33)) = true := decide_eq_true c34
         clear c34
         by_cases c35 : (ji33) ≤ ((rdOf ByteArray.empty l0 0).size : Int)
         ·rw [if_pos c35] at H
          have c35b0 := eq_true c35
          have c35b1 : decide ((ji33) ≤ ((rdOf ByteArray.empty l0 0).size : Int)) = true := decide_eq_true c35
          clear c35
          replace H := Option.bind_eq_some_iff.mp H
          obtain ⟨t323, A360, H⟩ := H
          try dsimp only at H
          have A36 := Aside0.mk A360
          clear A360
          have H' := Aside0.mk H
          clear H
          try go_wp2
          replace BK307 := Aside0.mk (blk_drew BK307.out)
          replace BK313 := Aside0.mk (blk_drew BK313.out)
          replace HB := Aside0.mk (below_drew1 HB.out)
          have p321 : 0 ≤ (0 : Int) := (by omega)
          have q321 : 0 < (l0.length : Int) := dz14
          obtain ⟨ad321, e321, hx321_0⟩ := Kd.at_string HR0.out 0 p321 q321
          have hw321_0 := hx321_0
          (try rw [show ((0 : Int)).toNat = 0 from rfl] at hw321_0)
          (try rw [show 0 * 1 = 0 from rfl] at hw321_0)
          (try rw [Addr.add_zero'] at hw321_0)
          obtain rfl : ad311 = ad321 := (by injection e321)
          have qi321 : (0 < l0.length) = True := eq_true (by omega)
          (try rw [show ((0 : Int)).toNat = 0 from rfl] at hx321_0)
          (try rw [Addr.add_zero'] at hx321_0)
          replace hx321_0 := (HB.out.cell (World.block_lt_of_cell? w _ hx321_0)).trans hx321_0
          replace p321 := eq_true p321
          replace q321 := eq_true q321
          have p322 : 0 ≤ (0 : Int) := (by omega)
          have q322 : 0 < (l0.length : Int) := dz14
          obtain ⟨ad322, e322, hx322_0⟩ := Kd.at_string HR0.out 0 p322 q322
          have hw322_0 := hx322_0
          (try rw [show ((0 : Int)).toNat = 0 from rfl] at hw322_0)
          (try rw [show 0 * 1 = 0 from rfl] at hw322_0)
          (try rw [Addr.add_zero'] at hw322_0)
          obtain rfl : ad311 = ad322 := (by injection e322)
          have qi322 : (0 < l0.length) = True := eq_true (by omega)
          (try rw [show ((0 : Int)).toNat = 0 from rfl] at hx322_0)
          (try rw [Addr.add_zero'] at hx322_0)
          replace hx322_0 := (HB.out.cell (World.block_lt_of_cell? w _ hx322_0)).trans hx322_0
          replace p322 := eq_true p322
          replace q322 := eq_true q322
          refine start_ (n := 13) (S := fun w' => w'.cell? ad311 = some (.string (rdOf ByteArray.empty l0 0)) ∧ w'.cell? ad311 = some (.string (rdOf ByteArray.empty l0 0))) (ds := []) #[false, false, false, false, false, false, false, false, false, false, false, false, false] (by kernel_rfl) rfl rfl ⟨((HB.out.cell (World.block_lt_of_cell? w _ hw321_0)).trans hw321_0), ((HB.out.cell (World.block_lt_of_cell? w _ hw322_0)).trans hw322_0)⟩ (fun hHeld => ?_); refine with_tabW spec_l1Read.tab6 spec_l1Read.bits6 (fun HT_ HW_ => ?_)
          generalize wc.drew = w37 at BK307 BK313 HB hx321_0 hx322_0 hHeld ⊢
          refine pz 1 45 ?_
          refine pz 2 46 ?_
          refine pz 4 48 ?_
          refine pz 5 49 ?_
          refine tz 3 47 ?_
          refine tz 6 50 ?_
          refine pz 7 51 ?_
          refine pz 8 52 ?_
          refine pz 9 53 ?_
          refine oz 0 44 fun K hK => ?_
          refine gz Try.func65 #[] ?_
          with_reducible refine (spec_l1Words.calls  t318 _ A31.out).mono ?_
          rintro e w38 ⟨v319, rfl, ho0, hb⟩
          refine ⟨_, rfl, ?_⟩
          have HO320 := Aside0.mk (Kd.R_lower ho0 (below_size zB))
          replace BK307 := zb BK307 hb rfl
          replace BK313 := zb BK313 hb rfl
          replace HB := zS hb
          (try clear hb)
          (try clear hi)
          (try clear ho0)
          obtain ⟨Ao39, co39, eo39⟩ := Kd.R_slice HO320.out
          (first | subst eo39 | (injection eo39 with f1_ f2_ f3_; have f4_ := f1_.symm; have f5_ := f3_.symm; clear f1_ f2_ f3_; subst f4_; subst f5_))
          refine hK.out _ _ ⟨((HB.out.cell (World.block_lt_of_cell? w _ hw321_0)).trans hw321_0), ((HB.out.cell (World.block_lt_of_cell? w _ hw322_0)).trans hw322_0)⟩ (fun hHeld => ?_)
          clear hK K
          refine nz ?_
          refine oz 10 54 fun K hK => ?_
          refine goes_ Try.func64 (by kernel_rfl) rfl #[.slice Ao39 t318.length co39, .string ((rdOf ByteArray.empty l0 0).extract 0 ((ji33) : Int).toNat)] (by rfl) rfl rfl (by (try simp only [List.map_toArray, List.map_cons, List.map_nil]); first | done | (simp only [hji33]; rfl) | rfl | (simp only [List.length_drop, List.length_take]; rfl)) ?_
          with_reducible refine (spec_l1Find.calls kj17 _ _ t318 ((rdOf ByteArray.empty l0 0).extract 0 ((ji33) : Int).toNat) t323 _ ?side1 ?side2 A36.out).mono ?_
          (case side1 => repeat (first | exact (Kd.R_reads' HO320.out).2.2 | (with_reducible refine Kd.C_alloc ?_ _) | (with_reducible refine Kd.C_drewN ?_ _) | (with_reducible refine Kd.C_drew ?_)))
          (case side2 => exact (Kd.R_reads' HO320.out).2.1)
          rintro e w' ⟨rfl, ⟨nd, rfl⟩⟩
          refine ⟨_, rfl, ?_⟩
          refine hK.out _ _ ⟨((HB.out.cell (World.block_lt_of_cell? w _ hw321_0)).trans hw321_0), ((HB.out.cell (World.block_lt_of_cell? w _ hw322_0)).trans hw322_0)⟩ (fun hHeld => ?_)
          clear hK K
          refine nz ?_
          refine pz 11 55 ?_
          refine oN 12 fun K hK => ?_
          have hs40 : w38.cell? ⟨gb313, 0, none⟩ = some (.int .i64 x314000_1) := (blk_cell BK313.out 0).trans rfl
          have hfs40 := blk_frozen BK313.out 0
          have hns40_0 := NB307_313.out
          have hms40_0 := NB313_307.out
          refine skip_ (w1 := ?_) (by rfl) rfl ?_ ?_
          rotate_left
          ·go_simp
           rfl
          refine hK.out _ _ ⟨((cell_far (p := ⟨gb313, _, none⟩) (by first | exact Nat.ne_of_lt (Nat.lt_of_lt_of_le (by have := World.block_lt_of_cell? _ _ hw321_0; first | rwa [add_block] at this | exact this) GW313.out) | (rw [add_block]; exact Nat.ne_of_lt (Nat.lt_of_lt_of_le (by have := World.block_lt_of_cell? _ _ hw321_0; first | rwa [add_block] at this | exact this) GW313.out)) | (show (Addr.add _ _).block ≠ _; rw [add_block]; exact Nat.ne_of_lt (Nat.lt_of_lt_of_le (by have := World.block_lt_of_cell? _ _ hw321_0; first | rwa [add_block] at this | exact this) GW313.out)) | (dsimp only; exact Nat.ne_of_lt (Nat.lt_of_lt_of_le (by have := World.block_lt_of_cell? _ _ hw321_0; first | rwa [add_block] at this | exact this) GW313.out))) _).trans (hHeld.1)), ((cell_far (p := ⟨gb313, _, none⟩) (by first | exact Nat.ne_of_lt (Nat.lt_of_lt_of_le (by have := World.block_lt_of_cell? _ _ hw322_0; first | rwa [add_block] at this | exact this) GW313.out) | (rw [add_block]; exact Nat.ne_of_lt (Nat.lt_of_lt_of_le (by have := World.block_lt_of_cell? _ _ hw322_0; first | rwa [add_block] at this | exact this) GW313.out)) | (show (Addr.add _ _).block ≠ _; rw [add_block]; exact Nat.ne_of_lt (Nat.lt_of_lt_of_le (by have := World.block_lt_of_cell? _ _ hw322_0; first | rwa [add_block] at this | exact this) GW313.out)) | (dsimp only; exact Nat.ne_of_lt (Nat.lt_of_lt_of_le (by have := World.block_lt_of_cell? _ _ hw322_0; first | rwa [add_block] at this | exact this) GW313.out))) _).trans (hHeld.2))⟩ (fun hHeld => ?_)
          clear hK K
          refine done_ (done_of HT_.out (by kernel_rfl)) ?_
          have hnb41 := NB313_307.out
          have hnc41 := NB307_313.out
          obtain ⟨hcz42_0, hcz42_1, hcz42_2, hcz42_3, hcz42_4, hcz42_5, hfz42_0, hfz42_1, hfz42_2, hfz42_3, hfz42_4, hfz42_5⟩ := zc6 BK313
          try go_wp2
          go_roundg kj17
          case measure => have := HK1.out; have := HJ17.out; omega
          case rel => exact ⟨(wrap64 (x4_1 * 2)), (t323), (x4_1), (by first | rfl | (simp; done) | (simp [*]; done)), H', ⟨by have := HK1.out; have := HJ17.out; omega⟩, ⟨by refine fq ?_ NB307_313.out; refine fq ?_ NB307_313.out; exact bq BK307.out⟩, ⟨by refine bq ?_; refine blk_put (cs := #[.int .i64 t323, .int .i64 0, .int .i64 (-1), .int .i64 0, .int .i64 0, .int .i64 x314005_1]) ?_ 5 _ rfl; refine bq ?_; refine blk_put (cs := #[.int .i64 x314000_1, .int .i64 0, .int .i64 (-1), .int .i64 0, .int .i64 0, .int .i64 x314005_1]) ?_ 0 _ rfl; exact bq BK313.out⟩, ⟨zB⟩⟩
         ·rw [if_neg c35] at H
          exact absurd H (by simp)
        ·rw [if_neg c34] at H
         exact absurd H (by simp)
       ·rw [if_neg c32] at H
        exact absurd H (by simp)
      ·replace c30 := Bool.eq_false_iff.mpr c30
       subst c30
       rw [if_neg (show ¬ (false = true) by decide)] at H
       have H' := Aside0.mk H
       clear H
       go_wp2
       go_roundg kj17
       case measure => have := HK1.out; have := HJ17.out; omega
       case rel => exact ⟨(wrap64 (x4_1 * 2)), (x314000_1), (x314005_1), (by first | rfl | (simp; done) | (simp [*]; done)), H', ⟨by have := HK1.out; have := HJ17.out; omega⟩, ⟨by exact bq BK307.out⟩, ⟨by exact bq BK313.out⟩, ⟨zB⟩⟩
   ·rw [if_neg c17] at H
    have c17b0 : decide (x4_1 ≤ 4) = false := decide_eq_false c17
    clear c17
    have HC43 := Aside0.mk H
    clear H
    go_upto_region 9 with (fail)
    go_cut [60] (fun v60 wc => ∃ (kq : Nat) (x60_42 : Bool), v60 = .bool x60_42 ∧ Aside0 (spec_l1Read.j2 kq l0 (l0.length : Int) x60_42 x314000_1 0 (-1) 0 0 x314005_1 = some (r1, r2, r3, r4, r5, r6)) ∧ Aside0 (kq ≤ k1) ∧ Aside0 (wc.heap[gb307]? = some (.cells #[.int .i64 0, .int .i64 0, .int .i64 0, .int .i64 0, .int .i64 0, .int .i64 0] 38 (0, 0))) ∧ Aside0 (wc.heap[gb313]? = some (.cells #[.int .i64 x314000_1, .int .i64 0, .int .i64 (-1), .int .i64 0, .int .i64 0, .int .i64 x314005_1] 38 (0, 0))) ∧ Aside0 (Below w.heap.size w wc))
    case first =>
     have H := HC43.out
     clear HC43
     replace H := Option.bind_eq_some_iff.mp H
     obtain ⟨t324, A440, H⟩ := H
     try dsimp only at H
     have A44 := Aside0.mk A440
     clear A440
     by_cases c45 : t324 = true
     ·subst c45
      rw [if_pos rfl] at H
      by_cases c46 : (l0.length : Int) = 3
      ·rw [if_pos c46] at H
       have c46b0 : ((l0.length : Int) == 3) = true := beq_iff_eq.mpr c46
       have c46b1 : ((l0.length : Int) != 3) = false := bne_eq_false_iff_eq.mpr c46
       clear c46
       (first | rw [c46b0] | (simp only [i64_w, i32_w]; rw [c46b0]) | skip)
       have H' := Aside0.mk H
       clear H
       have hnb47 := NB313_307.out
       have hnc47 := NB307_313.out
       obtain ⟨hcz48_0, hcz48_1, hcz48_2, hcz48_3, hcz48_4, hcz48_5, hfz48_0, hfz48_1, hfz48_2, hfz48_3, hfz48_4, hfz48_5⟩ := zc6 BK313
       as_aux_lemma =>
        go_wp2_with (first | ((with_reducible refine gate_callee (f := 60) rfl ?_); refine gl 63 Try.func60 #[.int .i64 x314000_1] ?_; (with_reducible refine (spec_l1Alu.calls x314000_1 true _ A44.out).mono ?_); rintro e w' ⟨rfl, ⟨nd, rfl⟩⟩; refine ⟨_, rfl, ?_⟩))
        go_meet
        case rel => exact ⟨_, (true), (by first | rfl | (simp; done) | (simp [*]; done)), H', ⟨by have := HK1.out; first | omega | exact Nat.le_refl _⟩, ⟨by exact bq BK307.out⟩, ⟨by exact bq BK313.out⟩, ⟨zB⟩⟩
      ·rw [if_neg c46] at H
       have c46b0 : ((l0.length : Int) == 3) = false := beq_eq_false_iff_ne.mpr c46
       have c46b1 : ((l0.length : Int) != 3) = true := bne_iff_ne.mpr c46
       (first | rw [c46b0] | (simp only [i64_w, i32_w]; rw [c46b0]) | skip)
       replace H := Option.bind_eq_some_iff.mp H
       obtain ⟨t325, A490, H⟩ := H
       try dsimp only at H
       have A49 := Aside0.mk A490
       clear A490
       by_cases c50 : t325 = true
       ·subst c50
        rw [if_pos rfl] at H
        have H' := Aside0.mk H
        clear H
        have hnb51 := NB313_307.out
        have hnc51 := NB307_313.out
        obtain ⟨hcz52_0, hcz52_1, hcz52_2, hcz52_3, hcz52_4, hcz52_5, hfz52_0, hfz52_1, hfz52_2, hfz52_3, hfz52_4, hfz52_5⟩ := zc6 BK313
        as_aux_lemma =>
         go_wp2_with (first | ((with_reducible refine gate_callee (f := 60) rfl ?_); refine gl 63 Try.func60 #[.int .i64 x314000_1] ?_; (with_reducible refine (spec_l1Alu.calls x314000_1 true _ A44.out).mono ?_); rintro e w' ⟨rfl, ⟨nd, rfl⟩⟩; refine ⟨_, rfl, ?_⟩) | (go_at_call 39; (with_reducible refine (spec_l1Jump.calls x314000_1 true _ A49.out).mono ?_); rintro e w' ⟨rfl, ⟨nd, rfl⟩⟩))
         go_meet
         case rel => exact ⟨_, (((l0.length : Int) == 4)), (by first | rfl | (simp; done) | (simp [*]; done)), H', ⟨by have := HK1.out; first | omega | exact Nat.le_refl _⟩, ⟨by exact bq BK307.out⟩, ⟨by exact bq BK313.out⟩, ⟨zB⟩⟩
       ·replace c50 := Bool.eq_false_iff.mpr c50
        subst c50
        rw [if_neg (show ¬ (false = true) by decide)] at H
        have H' := Aside0.mk H
        clear H
        have hnb53 := NB313_307.out
        have hnc53 := NB307_313.out
        obtain ⟨hcz54_0, hcz54_1, hcz54_2, hcz54_3, hcz54_4, hcz54_5, hfz54_0, hfz54_1, hfz54_2, hfz54_3, hfz54_4, hfz54_5⟩ := zc6 BK313
        as_aux_lemma =>
         go_wp2_with (first | ((with_reducible refine gate_callee (f := 60) rfl ?_); refine gl 63 Try.func60 #[.int .i64 x314000_1] ?_; (with_reducible refine (spec_l1Alu.calls x314000_1 true _ A44.out).mono ?_); rintro e w' ⟨rfl, ⟨nd, rfl⟩⟩; refine ⟨_, rfl, ?_⟩) | (go_at_call 39; (with_reducible refine (spec_l1Jump.calls x314000_1 false _ A49.out).mono ?_); rintro e w' ⟨rfl, ⟨nd, rfl⟩⟩))
         go_meet
         case rel => exact ⟨_, (false), (by first | rfl | (simp; done) | (simp [*]; done)), H', ⟨by have := HK1.out; first | omega | exact Nat.le_refl _⟩, ⟨by exact bq BK307.out⟩, ⟨by exact bq BK313.out⟩, ⟨zB⟩⟩
     ·replace c45 := Bool.eq_false_iff.mpr c45
      subst c45
      rw [if_neg (show ¬ (false = true) by decide)] at H
      replace H := Option.bind_eq_some_iff.mp H
      obtain ⟨t326, A550, H⟩ := H
      try dsimp only at H
      have A55 := Aside0.mk A550
      clear A550
      by_cases c56 : t326 = true
      ·subst c56
       rw [if_pos rfl] at H
       have H' := Aside0.mk H
       clear H
       have hnb57 := NB313_307.out
       have hnc57 := NB307_313.out
       obtain ⟨hcz58_0, hcz58_1, hcz58_2, hcz58_3, hcz58_4, hcz58_5, hfz58_0, hfz58_1, hfz58_2, hfz58_3, hfz58_4, hfz58_5⟩ := zc6 BK313
       as_aux_lemma =>
        go_wp2_with (first | ((with_reducible refine gate_callee (f := 60) rfl ?_); refine gl 63 Try.func60 #[.int .i64 x314000_1] ?_; (with_reducible refine (spec_l1Alu.calls x314000_1 false _ A44.out).mono ?_); rintro e w' ⟨rfl, ⟨nd, rfl⟩⟩; refine ⟨_, rfl, ?_⟩) | (go_at_call 39; (with_reducible refine (spec_l1Jump.calls x314000_1 true _ A55.out).mono ?_); rintro e w' ⟨rfl, ⟨nd, rfl⟩⟩))
        go_meet
        case rel => exact ⟨_, (((l0.length : Int) == 4)), (by first | rfl | (simp; done) | (simp [*]; done)), H', ⟨by have := HK1.out; first | omega | exact Nat.le_refl _⟩, ⟨by exact bq BK307.out⟩, ⟨by exact bq BK313.out⟩, ⟨zB⟩⟩
      ·replace c56 := Bool.eq_false_iff.mpr c56
       subst c56
       rw [if_neg (show ¬ (false = true) by decide)] at H
       have H' := Aside0.mk H
       clear H
       have hnb59 := NB313_307.out
       have hnc59 := NB307_313.out
       obtain ⟨hcz60_0, hcz60_1, hcz60_2, hcz60_3, hcz60_4, hcz60_5, hfz60_0, hfz60_1, hfz60_2, hfz60_3, hfz60_4, hfz60_5⟩ := zc6 BK313
       as_aux_lemma =>
        go_wp2_with (first | ((with_reducible refine gate_callee (f := 60) rfl ?_); refine gl 63 Try.func60 #[.int .i64 x314000_1] ?_; (with_reducible refine (spec_l1Alu.calls x314000_1 false _ A44.out).mono ?_); rintro e w' ⟨rfl, ⟨nd, rfl⟩⟩; refine ⟨_, rfl, ?_⟩) | (go_at_call 39; (with_reducible refine (spec_l1Jump.calls x314000_1 false _ A55.out).mono ?_); rintro e w' ⟨rfl, ⟨nd, rfl⟩⟩))
        go_meet
        case rel => exact ⟨_, (false), (by first | rfl | (simp; done) | (simp [*]; done)), H', ⟨by have := HK1.out; first | omega | exact Nat.le_refl _⟩, ⟨by exact bq BK307.out⟩, ⟨by exact bq BK313.out⟩, ⟨zB⟩⟩
    case rest =>
     clear HC43
     try clear c1
     try clear c2
     try clear p2 p2
     try clear c3
     try clear c3b0
     try clear c3b1
     try clear p3 p3
     try clear q3 q3
     try clear hx3
     try clear qi3
     try clear c4
     try clear c5
     try clear c6
     try clear p6
     try clear c17
     try clear c17b0
     try clear c19
     try clear c19b0
     try clear c19b1
     try clear c21
     try clear c21b0
     try clear c21b1
     try clear c21b2
     try clear c22
     try clear c22b0
     try clear c22b1
     try clear c26
     try clear c26b0
     try clear c26b1
     try clear c26b2
     try clear c30
     try clear p31
     try clear q31
     try clear hx31
     try clear c32
     try clear c32b0
     try clear c32b1
     try clear p32
     try clear q32
     try clear hx32
     try clear qi32
     try clear c34
     try clear c34b0
     try clear c34b1
     try clear c35
     try clear c35b0
     try clear c35b1
     try clear c41
     try clear c45
     try clear c46
     try clear c46b0
     try clear c46b1
     try clear c47
     try clear c50
     try clear c51
     try clear c53
     try clear c56
     try clear c57
     try clear c59
     try clear c60
     try clear hcz42_0 hcz42_1 hcz42_2 hcz42_3 hcz42_4 hcz42_5 hfz42_0 hfz42_1 hfz42_2 hfz42_3 hfz42_4 hfz42_5
     try clear hcz48_0 hcz48_1 hcz48_2 hcz48_3 hcz48_4 hcz48_5 hfz48_0 hfz48_1 hfz48_2 hfz48_3 hfz48_4 hfz48_5
     try clear hcz52_0 hcz52_1 hcz52_2 hcz52_3 hcz52_4 hcz52_5 hfz52_0 hfz52_1 hfz52_2 hfz52_3 hfz52_4 hfz52_5
     try clear hcz54_0 hcz54_1 hcz54_2 hcz54_3 hcz54_4 hcz54_5 hfz54_0 hfz54_1 hfz54_2 hfz54_3 hfz54_4 hfz54_5
     try clear hcz58_0 hcz58_1 hcz58_2 hcz58_3 hcz58_4 hcz58_5 hfz58_0 hfz58_1 hfz58_2 hfz58_3 hfz58_4 hfz58_5
     try clear hcz60_0 hcz60_1 hcz60_2 hcz60_3 hcz60_4 hcz60_5 hfz60_0 hfz60_1 hfz60_2 hfz60_3 hfz60_4 hfz60_5
     try clear hx311_0
     try clear hx314_0
     try clear hx316_0
     try clear hx321_0
     try clear hx322_0
     try clear p311
     try clear p314
     try clear p316
     try clear p321
     try clear p322
     try clear q311
     try clear q314
     try clear q316
     try clear q321
     try clear q322
     obtain ⟨kq, x60_42, rfl, HA, HJ42, BK307, BK313, HB⟩ := hcut
     cases kq with
     | zero => exact absurd HA.out (by simp [spec_l1Read.j2])
     | succ kj42 =>
      have H := HA.out
      clear HA
      simp only [spec_l1Read.j2] at H
      by_cases c61 : x60_42 = true
      ·subst c61
       rw [if_pos rfl] at H
       by_cases c62 : 1 < (l0.length : Int)
       ·rw [if_pos c62] at H
        have c62b0 : decide (1 < (l0.length : Int)) = true := decide_eq_true c62
        have c62b1 : decide (1 < l0.length) = true := decide_eq_true (by omega)
        clear c62
        replace H := Option.bind_eq_some_iff.mp H
        obtain ⟨⟨t328, t329⟩, A630, H⟩ := H
        try dsimp only at H
        have A63 := Aside0.mk A630
        clear A630
        by_cases c64 : 2 < (l0.length : Int)
        ·rw [if_pos c64] at H
         have c64b0 : decide (2 < (l0.length : Int)) = true := decide_eq_true c64
         have c64b1 : decide (2 < l0.length) = true := decide_eq_true (by omega)
         clear c64
         replace H := Option.bind_eq_some_iff.mp H
         obtain ⟨⟨t331, t332⟩, A650, H⟩ := H
         try dsimp only at H
         have A65 := Aside0.mk A650
         clear A650
         by_cases c66 : (l0.length : Int) = 4
         ·rw [if_pos c66] at H
          have c66b0 : ((l0.length : Int) == 4) = true := beq_iff_eq.mpr c66
          have c66b1 : ((l0.length : Int) != 4) = false := bne_eq_false_iff_eq.mpr c66
          clear c66
          by_cases c67 : 3 < (l0.length : Int)
          ·rw [if_pos c67] at H
           have c67b0 : decide (3 < (l0.length : Int)) = true := decide_eq_true c67
           have c67b1 : decide (3 < l0.length) = true := decide_eq_true (by omega)
           clear c67
           replace H := Option.bind_eq_some_iff.mp H
           obtain ⟨t334, A680, H⟩ := H
           try dsimp only at H
           have A68 := Aside0.mk A680
           clear A680
           simp only [Option.some.injEq, Prod.mk.injEq] at H
           obtain ⟨rfl, rfl, rfl, rfl, rfl, rfl⟩ := H
           have p327 : 0 ≤ (1 : Int) := (by omega)
           have q327 : 1 < (l0.length : Int) := dz14
           obtain ⟨ad327, e327, hx327_0⟩ := Kd.at_string HR0.out 1 p327 q327
           obtain rfl : ad311 = ad327 := (by injection e327)
           (try simp only [show (1 : Int).toNat = 1 from rfl, Nat.reduceMul, Nat.reduceEqDiff, Go.Addr.add, ↓reduceIte] at hx327_0)
           have qi327 : (1 < l0.length) = True := eq_true (by omega)
           (try rw [show ((1 : Int)).toNat = 1 from rfl] at hx327_0)
           replace hx327_0 := (HB.out.cell (World.block_lt_of_cell? w _ hx327_0)).trans hx327_0
           replace p327 := eq_true p327
           replace q327 := eq_true q327
           go_wp2_with (first | ((with_reducible refine gate_callee (f := 67) rfl ?_); refine gl 81 Try.func67 #[.string (rdOf ByteArray.empty l0 1)] ?_; (with_reducible refine (spec_l1ReadReg.calls kj42 (rdOf ByteArray.empty l0 1) t328 t329 _ A63.out).mono ?_); rintro e w' ⟨rfl, ⟨nd, rfl⟩⟩; refine ⟨_, rfl, ?_⟩; (try (rw [drewN_self wc]; generalize hq_ : World.drewN wc _ = wc; have n0_ : Aside0 (wc.heap[gb307]? = some (.cells #[.int .i64 0, .int .i64 0, .int .i64 0, .int .i64 0, .int .i64 0, .int .i64 0] 38 (0, 0))) := ⟨by rw [← hq_]; exact (by exact bq BK307.out)⟩; have n1_ : Aside0 (wc.heap[gb313]? = some (.cells #[.int .i64 x314000_1, .int .i64 0, .int .i64 (-1), .int .i64 0, .int .i64 0, .int .i64 x314005_1] 38 (0, 0))) := ⟨by rw [← hq_]; exact (by exact bq BK313.out)⟩; have n2_ : Aside0 (Below w.heap.size w wc) := ⟨by rw [← hq_]; exact zB⟩; clear BK307 BK313 HB hq_; have BK307 := n0_; have BK313 := n1_; have HB := n2_; clear n0_ n1_ n2_)); have p330 : 0 ≤ (2 : Int) := (by omega); have q330 : 2 < (l0.length : Int) := dz14; obtain ⟨ad330, e330, hx330_0⟩ := Kd.at_string HR0.out 2 p330 q330; obtain rfl : ad311 = ad330 := (by injection e330); (try simp only [show (2 : Int).toNat = 2 from rfl, Nat.reduceMul, Nat.reduceEqDiff, Go.Addr.add, ↓reduceIte] at hx330_0); have qi330 : (2 < l0.length) = True := eq_true (by omega); (try rw [show ((2 : Int)).toNat = 2 from rfl] at hx330_0); replace hx330_0 := (HB.out.cell (World.block_lt_of_cell? w _ hx330_0)).trans hx330_0; replace p330 := eq_true p330; replace q330 := eq_true q330) | ((with_reducible refine gate_callee (f := 67) rfl ?_); refine gl 88 Try.func67 #[.string (rdOf ByteArray.empty l0 2)] ?_; (with_reducible refine (spec_l1ReadReg.calls kj42 (rdOf ByteArray.empty l0 2) t331 t332 _ A65.out).mono ?_); rintro e w' ⟨rfl, ⟨nd, rfl⟩⟩; refine ⟨_, rfl, ?_⟩; (try (rw [drewN_self wc]; generalize hq_ : World.drewN wc _ = wc; have n0_ : Aside0 (wc.heap[gb307]? = some (.cells #[.int .i64 0, .int .i64 0, .int .i64 0, .int .i64 0, .int .i64 0, .int .i64 0] 38 (0, 0))) := ⟨by rw [← hq_]; exact (by exact bq BK307.out)⟩; have n1_ : Aside0 (wc.heap[gb313]? = some (.cells #[.int .i64 x314000_1, .int .i64 0, .int .i64 (-1), .int .i64 0, .int .i64 0, .int .i64 x314005_1] 38 (0, 0))) := ⟨by rw [← hq_]; exact (by exact bq BK313.out)⟩; have n2_ : Aside0 (Below w.heap.size w wc) := ⟨by rw [← hq_]; exact zB⟩; clear BK307 BK313 HB hq_; have BK307 := n0_; have BK313 := n1_; have HB := n2_; clear n0_ n1_ n2_)); have hnb69 := NB313_307.out; have hnc69 := NB307_313.out; obtain ⟨hcz70_0, hcz70_1, hcz70_2, hcz70_3, hcz70_4, hcz70_5, hfz70_0, hfz70_1, hfz70_2, hfz70_3, hfz70_4, hfz70_5⟩ := zc6 BK313; have p333 : 0 ≤ (3 : Int) := (by omega); have q333 : 3 < (l0.length : Int) := dz14; obtain ⟨ad333, e333, hx333_0⟩ := Kd.at_string HR0.out 3 p333 q333; obtain rfl : ad311 = ad333 := (by injection e333); (try simp only [show (3 : Int).toNat = 3 from rfl, Nat.reduceMul, Nat.reduceEqDiff, Go.Addr.add, ↓reduceIte] at hx333_0); have qi333 : (3 < l0.length) = True := eq_true (by omega); (try rw [show ((3 : Int)).toNat = 3 from rfl] at hx333_0); have hn333_0 : ad311.block ≠ gb313 := Nat.ne_of_lt (Nat.lt_of_lt_of_le (by have := World.block_lt_of_cell? _ _ hx333_0; first | rwa [add_block] at this | exact this) GW313.out); have hn333_1 : ad311.block ≠ gb313 := Nat.ne_of_lt (Nat.lt_of_lt_of_le (by have := World.block_lt_of_cell? _ _ hx333_0; first | rwa [add_block] at this | exact this) GW313.out); have hn333_2 : ad311.block ≠ gb313 := Nat.ne_of_lt (Nat.lt_of_lt_of_le (by have := World.block_lt_of_cell? _ _ hx333_0; first | rwa [add_block] at this | exact this) GW313.out); replace hx333_0 := (HB.out.cell (World.block_lt_of_cell? w _ hx333_0)).trans hx333_0; replace hx333_0 := (cell_far (p := ⟨gb313, 1, none⟩) (by first | (rw [add_block]; exact hn333_0) | (show (Addr.add _ _).block ≠ _; rw [add_block]; exact hn333_0) | exact hn333_0) (.int .i64 t328)).trans hx333_0; replace hx333_0 := (cell_far (p := ⟨gb313, 2, none⟩) (by first | (rw [add_block]; exact hn333_1) | (show (Addr.add _ _).block ≠ _; rw [add_block]; exact hn333_1) | exact hn333_1) (.int .i64 t331)).trans hx333_0; replace hx333_0 := (cell_far (p := ⟨gb313, 4, none⟩) (by first | (rw [add_block]; exact hn333_2) | (show (Addr.add _ _).block ≠ _; rw [add_block]; exact hn333_2) | exact hn333_2) (.int .i64 t332)).trans hx333_0; clear hn333_0; clear hn333_1; clear hn333_2; replace p333 := eq_true p333; replace q333 := eq_true q333) | ((with_reducible refine gate_callee (f := 68) rfl ?_); refine gl 102 Try.func68 #[.string (rdOf ByteArray.empty l0 3)] ?_; (with_reducible refine (spec_l1Signed.calls kj42 (rdOf ByteArray.empty l0 3) t334 _ A68.out).mono ?_); rintro e w' ⟨rfl, ⟨nd, rfl⟩⟩; refine ⟨_, rfl, ?_⟩; obtain ⟨hcz71_0, hcz71_1, hcz71_2, hcz71_3, hcz71_4, hcz71_5, hfz71_0, hfz71_1, hfz71_2, hfz71_3, hfz71_4, hfz71_5⟩ := zc6 BK307))
           refine bodyPost_ret (results_cell_row rfl _ _ gb307 38 #[.int .i64 x314000_1, .int .i64 t328, .int .i64 t331, .int .i64 t334, .int .i64 t332, .int .i64 x314005_1] (0, 0) _ rfl (by refine bq ?_; refine blk_put (cs := #[.int .i64 x314000_1, .int .i64 t328, .int .i64 t331, .int .i64 t334, .int .i64 t332, .int .i64 0]) ?_ 5 _ rfl; refine bq ?_; refine blk_put (cs := #[.int .i64 x314000_1, .int .i64 t328, .int .i64 t331, .int .i64 t334, .int .i64 0, .int .i64 0]) ?_ 4 _ rfl; refine bq ?_; refine blk_put (cs := #[.int .i64 x314000_1, .int .i64 t328, .int .i64 t331, .int .i64 0, .int .i64 0, .int .i64 0]) ?_ 3 _ rfl; refine bq ?_; refine blk_put (cs := #[.int .i64 x314000_1, .int .i64 t328, .int .i64 0, .int .i64 0, .int .i64 0, .int .i64 0]) ?_ 2 _ rfl; refine bq ?_; refine blk_put (cs := #[.int .i64 x314000_1, .int .i64 0, .int .i64 0, .int .i64 0, .int .i64 0, .int .i64 0]) ?_ 1 _ rfl; refine bq ?_; refine blk_put (cs := #[.int .i64 0, .int .i64 0, .int .i64 0, .int .i64 0, .int .i64 0, .int .i64 0]) ?_ 0 _ rfl; refine fq ?_ NB307_313.out; refine fq ?_ NB307_313.out; refine fq ?_ NB307_313.out; refine fq ?_ NB307_313.out; exact bq BK307.out) Try.underlying38 rfl (by kernel_rfl)) rfl ?_
           exact ⟨zR, zB⟩
          ·rw [if_neg c67] at H
           exact absurd H (by simp)
         ·rw [if_neg c66] at H
          have c66b0 : ((l0.length : Int) == 4) = false := beq_eq_false_iff_ne.mpr c66
          have c66b1 : ((l0.length : Int) != 4) = true := bne_iff_ne.mpr c66
          simp only [Option.some.injEq, Prod.mk.injEq] at H
          obtain ⟨rfl, rfl, rfl, rfl, rfl, rfl⟩ := H
          have p327 : 0 ≤ (1 : Int) := (by omega)
          have q327 : 1 < (l0.length : Int) := dz14
          obtain ⟨ad327, e327, hx327_0⟩ := Kd.at_string HR0.out 1 p327 q327
          obtain rfl : ad311 = ad327 := (by injection e327)
          (try simp only [show (1 : Int).toNat = 1 from rfl, Nat.reduceMul, Nat.reduceEqDiff, Go.Addr.add, ↓reduceIte] at hx327_0)
          have qi327 : (1 < l0.length) = True := eq_true (by omega)
          (try rw [show ((1 : Int)).toNat = 1 from rfl] at hx327_0)
          replace hx327_0 := (HB.out.cell (World.block_lt_of_cell? w _ hx327_0)).trans hx327_0
          replace p327 := eq_true p327
          replace q327 := eq_true q327
          go_wp2_with (first | ((with_reducible refine gate_callee (f := 67) rfl ?_); refine gl 81 Try.func67 #[.string (rdOf ByteArray.empty l0 1)] ?_; (with_reducible refine (spec_l1ReadReg.calls kj42 (rdOf ByteArray.empty l0 1) t328 t329 _ A63.out).mono ?_); rintro e w' ⟨rfl, ⟨nd, rfl⟩⟩; refine ⟨_, rfl, ?_⟩; (try (rw [drewN_self wc]; generalize hq_ : World.drewN wc _ = wc; have n0_ : Aside0 (wc.heap[gb307]? = some (.cells #[.int .i64 0, .int .i64 0, .int .i64 0, .int .i64 0, .int .i64 0, .int .i64 0] 38 (0, 0))) := ⟨by rw [← hq_]; exact (by exact bq BK307.out)⟩; have n1_ : Aside0 (wc.heap[gb313]? = some (.cells #[.int .i64 x314000_1, .int .i64 0, .int .i64 (-1), .int .i64 0, .int .i64 0, .int .i64 x314005_1] 38 (0, 0))) := ⟨by rw [← hq_]; exact (by exact bq BK313.out)⟩; have n2_ : Aside0 (Below w.heap.size w wc) := ⟨by rw [← hq_]; exact zB⟩; clear BK307 BK313 HB hq_; have BK307 := n0_; have BK313 := n1_; have HB := n2_; clear n0_ n1_ n2_)); have p330 : 0 ≤ (2 : Int) := (by omega); have q330 : 2 < (l0.length : Int) := dz14; obtain ⟨ad330, e330, hx330_0⟩ := Kd.at_string HR0.out 2 p330 q330; obtain rfl : ad311 = ad330 := (by injection e330); (try simp only [show (2 : Int).toNat = 2 from rfl, Nat.reduceMul, Nat.reduceEqDiff, Go.Addr.add, ↓reduceIte] at hx330_0); have qi330 : (2 < l0.length) = True := eq_true (by omega); (try rw [show ((2 : Int)).toNat = 2 from rfl] at hx330_0); replace hx330_0 := (HB.out.cell (World.block_lt_of_cell? w _ hx330_0)).trans hx330_0; replace p330 := eq_true p330; replace q330 := eq_true q330) | ((with_reducible refine gate_callee (f := 67) rfl ?_); refine gl 88 Try.func67 #[.string (rdOf ByteArray.empty l0 2)] ?_; (with_reducible refine (spec_l1ReadReg.calls kj42 (rdOf ByteArray.empty l0 2) t331 t332 _ A65.out).mono ?_); rintro e w' ⟨rfl, ⟨nd, rfl⟩⟩; refine ⟨_, rfl, ?_⟩; (try (rw [drewN_self wc]; generalize hq_ : World.drewN wc _ = wc; have n0_ : Aside0 (wc.heap[gb307]? = some (.cells #[.int .i64 0, .int .i64 0, .int .i64 0, .int .i64 0, .int .i64 0, .int .i64 0] 38 (0, 0))) := ⟨by rw [← hq_]; exact (by exact bq BK307.out)⟩; have n1_ : Aside0 (wc.heap[gb313]? = some (.cells #[.int .i64 x314000_1, .int .i64 0, .int .i64 (-1), .int .i64 0, .int .i64 0, .int .i64 x314005_1] 38 (0, 0))) := ⟨by rw [← hq_]; exact (by exact bq BK313.out)⟩; have n2_ : Aside0 (Below w.heap.size w wc) := ⟨by rw [← hq_]; exact zB⟩; clear BK307 BK313 HB hq_; have BK307 := n0_; have BK313 := n1_; have HB := n2_; clear n0_ n1_ n2_)); have hnb72 := NB313_307.out; have hnc72 := NB307_313.out; obtain ⟨hcz73_0, hcz73_1, hcz73_2, hcz73_3, hcz73_4, hcz73_5, hfz73_0, hfz73_1, hfz73_2, hfz73_3, hfz73_4, hfz73_5⟩ := zc6 BK313; obtain ⟨hcz74_0, hcz74_1, hcz74_2, hcz74_3, hcz74_4, hcz74_5, hfz74_0, hfz74_1, hfz74_2, hfz74_3, hfz74_4, hfz74_5⟩ := zc6 BK307))
          refine bodyPost_ret (results_cell_row rfl _ _ gb307 38 #[.int .i64 x314000_1, .int .i64 t328, .int .i64 t331, .int .i64 0, .int .i64 t332, .int .i64 x314005_1] (0, 0) _ rfl (by refine bq ?_; refine blk_put (cs := #[.int .i64 x314000_1, .int .i64 t328, .int .i64 t331, .int .i64 0, .int .i64 t332, .int .i64 0]) ?_ 5 _ rfl; refine bq ?_; refine blk_put (cs := #[.int .i64 x314000_1, .int .i64 t328, .int .i64 t331, .int .i64 0, .int .i64 0, .int .i64 0]) ?_ 4 _ rfl; refine bq ?_; refine blk_put (cs := #[.int .i64 x314000_1, .int .i64 t328, .int .i64 t331, .int .i64 0, .int .i64 0, .int .i64 0]) ?_ 3 _ rfl; refine bq ?_; refine blk_put (cs := #[.int .i64 x314000_1, .int .i64 t328, .int .i64 0, .int .i64 0, .int .i64 0, .int .i64 0]) ?_ 2 _ rfl; refine bq ?_; refine blk_put (cs := #[.int .i64 x314000_1, .int .i64 0, .int .i64 0, .int .i64 0, .int .i64 0, .int .i64 0]) ?_ 1 _ rfl; refine bq ?_; refine blk_put (cs := #[.int .i64 0, .int .i64 0, .int .i64 0, .int .i64 0, .int .i64 0, .int .i64 0]) ?_ 0 _ rfl; refine fq ?_ NB307_313.out; refine fq ?_ NB307_313.out; refine fq ?_ NB307_313.out; exact bq BK307.out) Try.underlying38 rfl (by kernel_rfl)) rfl ?_
          exact ⟨zR, zB⟩
        ·rw [if_neg c64] at H
         exact absurd H (by simp)
       ·rw [if_neg c62] at H
        exact absurd H (by simp)
      ·replace c61 := Bool.eq_false_iff.mpr c61
       subst c61
       rw [if_neg (show ¬ (false = true) by decide)] at H
       have HC75 := Aside0.mk H
       clear H
       go_upto_region 17 with (fail)
       go_cut [104] (fun v104 wc => ∃ (kq : Nat) (x104_74 : Bool), v104 = .bool x104_74 ∧ Aside0 (spec_l1Read.j3 kq l0 (l0.length : Int) x104_74 x314000_1 0 (-1) 0 0 x314005_1 = some (r1, r2, r3, r4, r5, r6)) ∧ Aside0 (kq ≤ kj42) ∧ Aside0 (wc.heap[gb307]? = some (.cells #[.int .i64 0, .int .i64 0, .int .i64 0, .int .i64 0, .int .i64 0, .int .i64 0] 38 (0, 0))) ∧ Aside0 (wc.heap[gb313]? = some (.cells #[.int .i64 x314000_1, .int .i64 0, .int .i64 (-1), .int .i64 0, .int .i64 0, .int .i64 x314005_1] 38 (0, 0))) ∧ Aside0 (Below w.heap.size w wc))
       case first =>
        have H := HC75.out
        clear HC75
        by_cases c76 : x314000_1 = 16
        ·rw [if_pos c76] at H
         have c76b0 : (x314000_1 == 16) = true := beq_iff_eq.mpr c76
         have c76b1 : (x314000_1 != 16) = false := bne_eq_false_iff_eq.mpr c76
         clear c76
         (first | rw [c76b0] | (simp only [i64_w, i32_w]; rw [c76b0]) | skip)
         have H' := Aside0.mk H
         clear H
         have hnb77 := NB313_307.out
         have hnc77 := NB307_313.out
         obtain ⟨hcz78_0, hcz78_1, hcz78_2, hcz78_3, hcz78_4, hcz78_5, hfz78_0, hfz78_1, hfz78_2, hfz78_3, hfz78_4, hfz78_5⟩ := zc6 BK313
         as_aux_lemma =>
          go_wp2
          go_meet
          case rel => exact ⟨_, (((l0.length : Int) == 2)), (by first | rfl | (simp; done) | (simp [*]; done)), H', ⟨by have := HK1.out; have := HJ42.out; first | omega | exact Nat.le_refl _⟩, ⟨by exact bq BK307.out⟩, ⟨by exact bq BK313.out⟩, ⟨zB⟩⟩
        ·rw [if_neg c76] at H
         have c76b0 : (x314000_1 == 16) = false := beq_eq_false_iff_ne.mpr c76
         have c76b1 : (x314000_1 != 16) = true := bne_iff_ne.mpr c76
         (first | rw [c76b0] | (simp only [i64_w, i32_w]; rw [c76b0]) | skip)
         have H' := Aside0.mk H
         clear H
         have hnb79 := NB313_307.out
         have hnc79 := NB307_313.out
         obtain ⟨hcz80_0, hcz80_1, hcz80_2, hcz80_3, hcz80_4, hcz80_5, hfz80_0, hfz80_1, hfz80_2, hfz80_3, hfz80_4, hfz80_5⟩ := zc6 BK313
         as_aux_lemma =>
          go_wp2
          go_meet
          case rel => exact ⟨_, (false), (by first | rfl | (simp; done) | (simp [*]; done)), H', ⟨by have := HK1.out; have := HJ42.out; first | omega | exact Nat.le_refl _⟩, ⟨by exact bq BK307.out⟩, ⟨by exact bq BK313.out⟩, ⟨zB⟩⟩
       case rest =>
        clear HC75
        try clear c1
        try clear c2
        try clear p2 p2
        try clear c3
        try clear c3b0
        try clear c3b1
        try clear p3 p3
        try clear q3 q3
        try clear hx3
        try clear qi3
        try clear c4
        try clear c5
        try clear c6
        try clear p6 p6
        try clear c7
        try clear c17
        try clear c17b0
        try clear c19
        try clear c19b0
        try clear c19b1
        try clear c21
        try clear c21b0
        try clear c21b1
        try clear c21b2
        try clear c22
        try clear c22b0
        try clear c22b1
        try clear c26
        try clear c26b0
        try clear c26b1
        try clear c26b2
        try clear c30
        try clear p31 p31
        try clear q31 q31
        try clear hx31
        try clear c32
        try clear c32b0
        try clear c32b1
        try clear p32 p32
        try clear q32 q32
        try clear hx32
        try clear qi32
        try clear p33
        try clear q33
        try clear hx33
        try clear qi33
        try clear c34
        try clear c34b0
        try clear c34b1
        try clear c35
        try clear c35b0
        try clear c35b1
        try clear c41
        try clear c45
        try clear c46
        try clear c46b0
        try clear c46b1
        try clear c47
        try clear c50
        try clear c51
        try clear c53
        try clear c56
        try clear c57
        try clear c59
        try clear c60
        try clear c61
        try clear c62
        try clear c62b0
        try clear c62b1
        try clear c64
        try clear c64b0
        try clear c64b1
        try clear p64
        try clear c65
        try clear c66
        try clear c66b0
        try clear c66b1
        try clear c67
        try clear c67b0
        try clear c67b1
        try clear c68
        try clear c69
        try clear c72
        try clear c76
        try clear c76b0
        try clear c76b1
        try clear c77
        try clear c79
        try clear hcz42_0 hcz42_1 hcz42_2 hcz42_3 hcz42_4 hcz42_5 hfz42_0 hfz42_1 hfz42_2 hfz42_3 hfz42_4 hfz42_5
        try clear hcz48_0 hcz48_1 hcz48_2 hcz48_3 hcz48_4 hcz48_5 hfz48_0 hfz48_1 hfz48_2 hfz48_3 hfz48_4 hfz48_5
        try clear hcz52_0 hcz52_1 hcz52_2 hcz52_3 hcz52_4 hcz52_5 hfz52_0 hfz52_1 hfz52_2 hfz52_3 hfz52_4 hfz52_5
        try clear hcz54_0 hcz54_1 hcz54_2 hcz54_3 hcz54_4 hcz54_5 hfz54_0 hfz54_1 hfz54_2 hfz54_3 hfz54_4 hfz54_5
        try clear hcz58_0 hcz58_1 hcz58_2 hcz58_3 hcz58_4 hcz58_5 hfz58_0 hfz58_1 hfz58_2 hfz58_3 hfz58_4 hfz58_5
        try clear hcz60_0 hcz60_1 hcz60_2 hcz60_3 hcz60_4 hcz60_5 hfz60_0 hfz60_1 hfz60_2 hfz60_3 hfz60_4 hfz60_5
        try clear hcz70_0 hcz70_1 hcz70_2 hcz70_3 hcz70_4 hcz70_5 hfz70_0 hfz70_1 hfz70_2 hfz70_3 hfz70_4 hfz70_5
        try clear hcz71_0 hcz71_1 hcz71_2 hcz71_3 hcz71_4 hcz71_5 hfz71_0 hfz71_1 hfz71_2 hfz71_3 hfz71_4 hfz71_5
        try clear hcz73_0 hcz73_1 hcz73_2 hcz73_3 hcz73_4 hcz73_5 hfz73_0 hfz73_1 hfz73_2 hfz73_3 hfz73_4 hfz73_5
        try clear hcz74_0 hcz74_1 hcz74_2 hcz74_3 hcz74_4 hcz74_5 hfz74_0 hfz74_1 hfz74_2 hfz74_3 hfz74_4 hfz74_5
        try clear hcz78_0 hcz78_1 hcz78_2 hcz78_3 hcz78_4 hcz78_5 hfz78_0 hfz78_1 hfz78_2 hfz78_3 hfz78_4 hfz78_5
        try clear hcz80_0 hcz80_1 hcz80_2 hcz80_3 hcz80_4 hcz80_5 hfz80_0 hfz80_1 hfz80_2 hfz80_3 hfz80_4 hfz80_5
        try clear hx311_0
        try clear hx314_0
        try clear hx316_0
        try clear hx321_0
        try clear hx322_0
        try clear hx327_0
        try clear hx330_0
        try clear hx333_0
        try clear p311
        try clear p314
        try clear p316
        try clear p321
        try clear p322
        try clear p327
        try clear p330
        try clear p333
        try clear q311
        try clear q314
        try clear q316
        try clear q321
        try clear q322
        try clear q327
        try clear q330
        try clear q333
        obtain ⟨kq, x104_74, rfl, HA, HJ74, BK307, BK313, HB⟩ := hcut
        cases kq with
        | zero => exact absurd HA.out (by simp [spec_l1Read.j3])
        | succ kj74 =>
         have H := HA.out
         clear HA
         simp only [spec_l1Read.j3] at H
         by_cases c81 : x104_74 = true
         ·subst c81
          rw [if_pos rfl] at H
          by_cases c82 : 1 < (l0.length : Int)
          ·rw [if_pos c82] at H
           have c82b0 : decide (1 < (l0.length : Int)) = true := decide_eq_true c82
           have c82b1 : decide (1 < l0.length) = true := decide_eq_true (by omega)
           clear c82
           replace H := Option.bind_eq_some_iff.mp H
           obtain ⟨t336, A830, H⟩ := H
           try dsimp only at H
           have A83 := Aside0.mk A830
           clear A830
           simp only [Option.some.injEq, Prod.mk.injEq] at H
           obtain ⟨rfl, rfl, rfl, rfl, rfl, rfl⟩ := H
           have p335 : 0 ≤ (1 : Int) := (by omega)
           have q335 : 1 < (l0.length : Int) := dz14
           obtain ⟨ad335, e335, hx335_0⟩ := Kd.at_string HR0.out 1 p335 q335
           obtain rfl : ad311 = ad335 := (by injection e335)
           (try simp only [show (1 : Int).toNat = 1 from rfl, Nat.reduceMul, Nat.reduceEqDiff, Go.Addr.add, ↓reduceIte] at hx335_0)
           have qi335 : (1 < l0.length) = True := eq_true (by omega)
           (try rw [show ((1 : Int)).toNat = 1 from rfl] at hx335_0)
           replace hx335_0 := (HB.out.cell (World.block_lt_of_cell? w _ hx335_0)).trans hx335_0
           replace p335 := eq_true p335
           replace q335 := eq_true q335
           go_wp2_with (first | ((with_reducible refine gate_callee (f := 68) rfl ?_); refine gl 115 Try.func68 #[.string (rdOf ByteArray.empty l0 1)] ?_; (with_reducible refine (spec_l1Signed.calls kj74 (rdOf ByteArray.empty l0 1) t336 _ A83.out).mono ?_); rintro e w' ⟨rfl, ⟨nd, rfl⟩⟩; refine ⟨_, rfl, ?_⟩; (try (rw [drewN_self wc]; generalize hq_ : World.drewN wc _ = wc; have n0_ : Aside0 (wc.heap[gb307]? = some (.cells #[.int .i64 0, .int .i64 0, .int .i64 0, .int .i64 0, .int .i64 0, .int .i64 0] 38 (0, 0))) := ⟨by rw [← hq_]; exact (by exact bq BK307.out)⟩; have n1_ : Aside0 (wc.heap[gb313]? = some (.cells #[.int .i64 x314000_1, .int .i64 0, .int .i64 (-1), .int .i64 0, .int .i64 0, .int .i64 x314005_1] 38 (0, 0))) := ⟨by rw [← hq_]; exact (by exact bq BK313.out)⟩; have n2_ : Aside0 (Below w.heap.size w wc) := ⟨by rw [← hq_]; exact zB⟩; clear BK307 BK313 HB hq_; have BK307 := n0_; have BK313 := n1_; have HB := n2_; clear n0_ n1_ n2_)); have hnb84 := NB313_307.out; have hnc84 := NB307_313.out; obtain ⟨hcz85_0, hcz85_1, hcz85_2, hcz85_3, hcz85_4, hcz85_5, hfz85_0, hfz85_1, hfz85_2, hfz85_3, hfz85_4, hfz85_5⟩ := zc6 BK313; obtain ⟨hcz86_0, hcz86_1, hcz86_2, hcz86_3, hcz86_4, hcz86_5, hfz86_0, hfz86_1, hfz86_2, hfz86_3, hfz86_4, hfz86_5⟩ := zc6 BK307))
           refine bodyPost_ret (results_cell_row rfl _ _ gb307 38 #[.int .i64 x314000_1, .int .i64 0, .int .i64 (-1), .int .i64 t336, .int .i64 0, .int .i64 x314005_1] (0, 0) _ rfl (by refine bq ?_; refine blk_put (cs := #[.int .i64 x314000_1, .int .i64 0, .int .i64 (-1), .int .i64 t336, .int .i64 0, .int .i64 0]) ?_ 5 _ rfl; refine bq ?_; refine blk_put (cs := #[.int .i64 x314000_1, .int .i64 0, .int .i64 (-1), .int .i64 t336, .int .i64 0, .int .i64 0]) ?_ 4 _ rfl; refine bq ?_; refine blk_put (cs := #[.int .i64 x314000_1, .int .i64 0, .int .i64 (-1), .int .i64 0, .int .i64 0, .int .i64 0]) ?_ 3 _ rfl; refine bq ?_; refine blk_put (cs := #[.int .i64 x314000_1, .int .i64 0, .int .i64 0, .int .i64 0, .int .i64 0, .int .i64 0]) ?_ 2 _ rfl; refine bq ?_; refine blk_put (cs := #[.int .i64 x314000_1, .int .i64 0, .int .i64 0, .int .i64 0, .int .i64 0, .int .i64 0]) ?_ 1 _ rfl; refine bq ?_; refine blk_put (cs := #[.int .i64 0, .int .i64 0, .int .i64 0, .int .i64 0, .int .i64 0, .int .i64 0]) ?_ 0 _ rfl; refine fq ?_ NB307_313.out; exact bq BK307.out) Try.underlying38 rfl (by kernel_rfl)) rfl ?_
           exact ⟨zR, zB⟩
          ·rw [if_neg c82] at H
           exact absurd H (by simp)
         ·replace c81 := Bool.eq_false_iff.mpr c81
          subst c81
          rw [if_neg (show ¬ (false = true) by decide)] at H
          have HC87 := Aside0.mk H
          clear H
          go_upto_region 19 with (fail)
          go_cut [117] (fun v117 wc => ∃ (kq : Nat) (x117_86 : Bool), v117 = .bool x117_86 ∧ Aside0 (spec_l1Read.j4 kq l0 (l0.length : Int) x117_86 x314000_1 0 (-1) 0 0 x314005_1 = some (r1, r2, r3, r4, r5, r6)) ∧ Aside0 (kq ≤ kj74) ∧ Aside0 (wc.heap[gb307]? = some (.cells #[.int .i64 0, .int .i64 0, .int .i64 0, .int .i64 0, .int .i64 0, .int .i64 0] 38 (0, 0))) ∧ Aside0 (wc.heap[gb313]? = some (.cells #[.int .i64 x314000_1, .int .i64 0, .int .i64 (-1), .int .i64 0, .int .i64 0, .int .i64 x314005_1] 38 (0, 0))) ∧ Aside0 (Below w.heap.size w wc))
          case first =>
           have H := HC87.out
           clear HC87
           by_cases c88 : x314000_1 = 17
           ·rw [if_pos c88] at H
            have c88b0 : (x314000_1 == 17) = true := beq_iff_eq.mpr c88
            have c88b1 : (x314000_1 != 17) = false := bne_eq_false_iff_eq.mpr c88
            clear c88
            (first | rw [c88b0] | (simp only [i64_w, i32_w]; rw [c88b0]) | skip)
            have H' := Aside0.mk H
            clear H
            have hnb89 := NB313_307.out
            have hnc89 := NB307_313.out
            obtain ⟨hcz90_0, hcz90_1, hcz90_2, hcz90_3, hcz90_4, hcz90_5, hfz90_0, hfz90_1, hfz90_2, hfz90_3, hfz90_4, hfz90_5⟩ := zc6 BK313
            as_aux_lemma =>
             go_wp2
             go_meet
             case rel => exact ⟨_, (((l0.length : Int) == 4)), (by first | rfl | (simp; done) | (simp [*]; done)), H', ⟨by have := HK1.out; have := HJ42.out; have := HJ74.out; first | omega | exact Nat.le_refl _⟩, ⟨by exact bq BK307.out⟩, ⟨by exact bq BK313.out⟩, ⟨zB⟩⟩
           ·rw [if_neg c88] at H
            have c88b0 : (x314000_1 == 17) = false := beq_eq_false_iff_ne.mpr c88
            have c88b1 : (x314000_1 != 17) = true := bne_iff_ne.mpr c88
            (first | rw [c88b0] | (simp only [i64_w, i32_w]; rw [c88b0]) | skip)
            have H' := Aside0.mk H
            clear H
            have hnb91 := NB313_307.out
            have hnc91 := NB307_313.out
            obtain ⟨hcz92_0, hcz92_1, hcz92_2, hcz92_3, hcz92_4, hcz92_5, hfz92_0, hfz92_1, hfz92_2, hfz92_3, hfz92_4, hfz92_5⟩ := zc6 BK313
            as_aux_lemma =>
             go_wp2
             go_meet
             case rel => exact ⟨_, (false), (by first | rfl | (simp; done) | (simp [*]; done)), H', ⟨by have := HK1.out; have := HJ42.out; have := HJ74.out; first | omega | exact Nat.le_refl _⟩, ⟨by exact bq BK307.out⟩, ⟨by exact bq BK313.out⟩, ⟨zB⟩⟩
          case rest =>
           clear HC87
           try clear c1
           try clear c2
           try clear p2 p2
           try clear c3
           try clear c3b0
           try clear c3b1
           try clear p3 p3
           try clear q3 q3
           try clear hx3
           try clear qi3
           try clear c4
           try clear c5
           try clear c6
           try clear p6 p6
           try clear c7
           try clear c8
           try clear c9
           try clear c17
           try clear c17b0
           try clear c19
           try clear c19b0
           try clear c19b1
           try clear c21
           try clear c21b0
           try clear c21b1
           try clear c21b2
           try clear c22
           try clear c22b0
           try clear c22b1
           try clear c26
           try clear c26b0
           try clear c26b1
           try clear c26b2
           try clear c30
           try clear p31 p31
           try clear q31 q31
           try clear hx31
           try clear c32
           try clear c32b0
           try clear c32b1
           try clear p32 p32
           try clear q32 q32
           try clear hx32
           try clear qi32
           try clear p33 p33
           try clear q33 q33
           try clear hx33
           try clear qi33
           try clear c34
           try clear c34b0
           try clear c34b1
           try clear c35
           try clear c35b0
           try clear c35b1
           try clear c41
           try clear c45
           try clear c46
           try clear c46b0
           try clear c46b1
           try clear c47
           try clear c50
           try clear c51
           try clear c53
           try clear c56
           try clear c57
           try clear c59
           try clear c60
           try clear c61
           try clear c62
           try clear c62b0
           try clear c62b1
           try clear c64
           try clear c64b0
           try clear c64b1
           try clear p64 p64
           try clear c65
           try clear c66
           try clear c66b0
           try clear c66b1
           try clear c67
           try clear c67b0
           try clear c67b1
           try clear c68
           try clear c69
           try clear c72
           try clear c76
           try clear c76b0
           try clear c76b1
           try clear c77
           try clear c79
           try clear c81
           try clear c82
           try clear c82b0
           try clear c82b1
           try clear c84
           try clear c88
           try clear c88b0
           try clear c88b1
           try clear c89
           try clear c91
           try clear hcz42_0 hcz42_1 hcz42_2 hcz42_3 hcz42_4 hcz42_5 hfz42_0 hfz42_1 hfz42_2 hfz42_3 hfz42_4 hfz42_5
           try clear hcz48_0 hcz48_1 hcz48_2 hcz48_3 hcz48_4 hcz48_5 hfz48_0 hfz48_1 hfz48_2 hfz48_3 hfz48_4 hfz48_5
           try clear hcz52_0 hcz52_1 hcz52_2 hcz52_3 hcz52_4 hcz52_5 hfz52_0 hfz52_1 hfz52_2 hfz52_3 hfz52_4 hfz52_5
           try clear hcz54_0 hcz54_1 hcz54_2 hcz54_3 hcz54_4 hcz54_5 hfz54_0 hfz54_1 hfz54_2 hfz54_3 hfz54_4 hfz54_5
           try clear hcz58_0 hcz58_1 hcz58_2 hcz58_3 hcz58_4 hcz58_5 hfz58_0 hfz58_1 hfz58_2 hfz58_3 hfz58_4 hfz58_5
           try clear hcz60_0 hcz60_1 hcz60_2 hcz60_3 hcz60_4 hcz60_5 hfz60_0 hfz60_1 hfz60_2 hfz60_3 hfz60_4 hfz60_5
           try clear hcz70_0 hcz70_1 hcz70_2 hcz70_3 hcz70_4 hcz70_5 hfz70_0 hfz70_1 hfz70_2 hfz70_3 hfz70_4 hfz70_5
           try clear hcz71_0 hcz71_1 hcz71_2 hcz71_3 hcz71_4 hcz71_5 hfz71_0 hfz71_1 hfz71_2 hfz71_3 hfz71_4 hfz71_5
           try clear hcz73_0 hcz73_1 hcz73_2 hcz73_3 hcz73_4 hcz73_5 hfz73_0 hfz73_1 hfz73_2 hfz73_3 hfz73_4 hfz73_5
           try clear hcz74_0 hcz74_1 hcz74_2 hcz74_3 hcz74_4 hcz74_5 hfz74_0 hfz74_1 hfz74_2 hfz74_3 hfz74_4 hfz74_5
           try clear hcz78_0 hcz78_1 hcz78_2 hcz78_3 hcz78_4 hcz78_5 hfz78_0 hfz78_1 hfz78_2 hfz78_3 hfz78_4 hfz78_5
           try clear hcz80_0 hcz80_1 hcz80_2 hcz80_3 hcz80_4 hcz80_5 hfz80_0 hfz80_1 hfz80_2 hfz80_3 hfz80_4 hfz80_5
           try clear hcz85_0 hcz85_1 hcz85_2 hcz85_3 hcz85_4 hcz85_5 hfz85_0 hfz85_1 hfz85_2 hfz85_3 hfz85_4 hfz85_5
           try clear hcz86_0 hcz86_1 hcz86_2 hcz86_3 hcz86_4 hcz86_5 hfz86_0 hfz86_1 hfz86_2 hfz86_3 hfz86_4 hfz86_5
           try clear hcz90_0 hcz90_1 hcz90_2 hcz90_3 hcz90_4 hcz90_5 hfz90_0 hfz90_1 hfz90_2 hfz90_3 hfz90_4 hfz90_5
           try clear hcz92_0 hcz92_1 hcz92_2 hcz92_3 hcz92_4 hcz92_5 hfz92_0 hfz92_1 hfz92_2 hfz92_3 hfz92_4 hfz92_5
           try clear hx311_0
           try clear hx314_0
           try clear hx316_0
           try clear hx321_0
           try clear hx322_0
           try clear hx327_0
           try clear hx330_0
           try clear hx333_0
           try clear hx335_0
           try clear p311
           try clear p314
           try clear p316
           try clear p321
           try clear p322
           try clear p327
           try clear p330
           try clear p333
           try clear p335
           try clear q311
           try clear q314
           try clear q316
           try clear q321
           try clear q322
           try clear q327
           try clear q330
           try clear q333
           try clear q335
           obtain ⟨kq, x117_86, rfl, HA, HJ86, BK307, BK313, HB⟩ := hcut
           cases kq with
           | zero => exact absurd HA.out (by simp [spec_l1Read.j4])
           | succ kj86 =>
            have H := HA.out
            clear HA
            simp only [spec_l1Read.j4] at H
            by_cases c93 : x117_86 = true
            ·subst c93
             rw [if_pos rfl] at H
             by_cases c94 : 1 < (l0.length : Int)
             ·rw [if_pos c94] at H
              have c94b0 : decide (1 < (l0.length : Int)) = true := decide_eq_true c94
              have c94b1 : decide (1 < l0.length) = true := decide_eq_true (by omega)
              clear c94
              replace H := Option.bind_eq_some_iff.mp H
              obtain ⟨⟨t338, t339⟩, A950, H⟩ := H
              try dsimp only at H
              have A95 := Aside0.mk A950
              clear A950
              by_cases c96 : 2 < (l0.length : Int)
              ·rw [if_pos c96] at H
               have c96b0 : decide (2 < (l0.length : Int)) = true := decide_eq_true c96
               have c96b1 : decide (2 < l0.length) = true := decide_eq_true (by omega)
               clear c96
               replace H := Option.bind_eq_some_iff.mp H
               obtain ⟨⟨t341, t342⟩, A970, H⟩ := H
               try dsimp only at H
               have A97 := Aside0.mk A970
               clear A970
               by_cases c98 : 3 < (l0.length : Int)
               ·rw [if_pos c98] at H
                have c98b0 : decide (3 < (l0.length : Int)) = true := decide_eq_true c98
                have c98b1 : decide (3 < l0.length) = true := decide_eq_true (by omega)
                clear c98
                replace H := Option.bind_eq_some_iff.mp H
                obtain ⟨t344, A990, H⟩ := H
                try dsimp only at H
                have A99 := Aside0.mk A990
                clear A990
                simp only [Option.some.injEq, Prod.mk.injEq] at H
                obtain ⟨rfl, rfl, rfl, rfl, rfl, rfl⟩ := H
                have p337 : 0 ≤ (1 : Int) := (by omega)
                have q337 : 1 < (l0.length : Int) := dz14
                obtain ⟨ad337, e337, hx337_0⟩ := Kd.at_string HR0.out 1 p337 q337
                obtain rfl : ad311 = ad337 := (by injection e337)
                (try simp only [show (1 : Int).toNat = 1 from rfl, Nat.reduceMul, Nat.reduceEqDiff, Go.Addr.add, ↓reduceIte] at hx337_0)
                have qi337 : (1 < l0.length) = True := eq_true (by omega)
                (try rw [show ((1 : Int)).toNat = 1 from rfl] at hx337_0)
                replace hx337_0 := (HB.out.cell (World.block_lt_of_cell? w _ hx337_0)).trans hx337_0
                replace p337 := eq_true p337
                replace q337 := eq_true q337
                go_wp2_with (first | ((with_reducible refine gate_callee (f := 67) rfl ?_); refine gl 129 Try.func67 #[.string (rdOf ByteArray.empty l0 1)] ?_; (with_reducible refine (spec_l1ReadReg.calls kj86 (rdOf ByteArray.empty l0 1) t338 t339 _ A95.out).mono ?_); rintro e w' ⟨rfl, ⟨nd, rfl⟩⟩; refine ⟨_, rfl, ?_⟩; (try (rw [drewN_self wc]; generalize hq_ : World.drewN wc _ = wc; have n0_ : Aside0 (wc.heap[gb307]? = some (.cells #[.int .i64 0, .int .i64 0, .int .i64 0, .int .i64 0, .int .i64 0, .int .i64 0] 38 (0, 0))) := ⟨by rw [← hq_]; exact (by exact bq BK307.out)⟩; have n1_ : Aside0 (wc.heap[gb313]? = some (.cells #[.int .i64 x314000_1, .int .i64 0, .int .i64 (-1), .int .i64 0, .int .i64 0, .int .i64 x314005_1] 38 (0, 0))) := ⟨by rw [← hq_]; exact (by exact bq BK313.out)⟩; have n2_ : Aside0 (Below w.heap.size w wc) := ⟨by rw [← hq_]; exact zB⟩; clear BK307 BK313 HB hq_; have BK307 := n0_; have BK313 := n1_; have HB := n2_; clear n0_ n1_ n2_)); have p340 : 0 ≤ (2 : Int) := (by omega); have q340 : 2 < (l0.length : Int) := dz14; obtain ⟨ad340, e340, hx340_0⟩ := Kd.at_string HR0.out 2 p340 q340; obtain rfl : ad311 = ad340 := (by injection e340); (try simp only [show (2 : Int).toNat = 2 from rfl, Nat.reduceMul, Nat.reduceEqDiff, Go.Addr.add, ↓reduceIte] at hx340_0); have qi340 : (2 < l0.length) = True := eq_true (by omega); (try rw [show ((2 : Int)).toNat = 2 from rfl] at hx340_0); replace hx340_0 := (HB.out.cell (World.block_lt_of_cell? w _ hx340_0)).trans hx340_0; replace p340 := eq_true p340; replace q340 := eq_true q340) | ((with_reducible refine gate_callee (f := 67) rfl ?_); refine gl 136 Try.func67 #[.string (rdOf ByteArray.empty l0 2)] ?_; (with_reducible refine (spec_l1ReadReg.calls kj86 (rdOf ByteArray.empty l0 2) t341 t342 _ A97.out).mono ?_); rintro e w' ⟨rfl, ⟨nd, rfl⟩⟩; refine ⟨_, rfl, ?_⟩; (try (rw [drewN_self wc]; generalize hq_ : World.drewN wc _ = wc; have n0_ : Aside0 (wc.heap[gb307]? = some (.cells #[.int .i64 0, .int .i64 0, .int .i64 0, .int .i64 0, .int .i64 0, .int .i64 0] 38 (0, 0))) := ⟨by rw [← hq_]; exact (by exact bq BK307.out)⟩; have n1_ : Aside0 (wc.heap[gb313]? = some (.cells #[.int .i64 x314000_1, .int .i64 0, .int .i64 (-1), .int .i64 0, .int .i64 0, .int .i64 x314005_1] 38 (0, 0))) := ⟨by rw [← hq_]; exact (by exact bq BK313.out)⟩; have n2_ : Aside0 (Below w.heap.size w wc) := ⟨by rw [← hq_]; exact zB⟩; clear BK307 BK313 HB hq_; have BK307 := n0_; have BK313 := n1_; have HB := n2_; clear n0_ n1_ n2_)); have hnb100 := NB313_307.out; have hnc100 := NB307_313.out; obtain ⟨hcz101_0, hcz101_1, hcz101_2, hcz101_3, hcz101_4, hcz101_5, hfz101_0, hfz101_1, hfz101_2, hfz101_3, hfz101_4, hfz101_5⟩ := zc6 BK313; have p343 : 0 ≤ (3 : Int) := (by omega); have q343 : 3 < (l0.length : Int) := dz14; obtain ⟨ad343, e343, hx343_0⟩ := Kd.at_string HR0.out 3 p343 q343; obtain rfl : ad311 = ad343 := (by injection e343); (try simp only [show (3 : Int).toNat = 3 from rfl, Nat.reduceMul, Nat.reduceEqDiff, Go.Addr.add, ↓reduceIte] at hx343_0); have qi343 : (3 < l0.length) = True := eq_true (by omega); (try rw [show ((3 : Int)).toNat = 3 from rfl] at hx343_0); have hn343_0 : ad311.block ≠ gb313 := Nat.ne_of_lt (Nat.lt_of_lt_of_le (by have := World.block_lt_of_cell? _ _ hx343_0; first | rwa [add_block] at this | exact this) GW313.out); have hn343_1 : ad311.block ≠ gb313 := Nat.ne_of_lt (Nat.lt_of_lt_of_le (by have := World.block_lt_of_cell? _ _ hx343_0; first | rwa [add_block] at this | exact this) GW313.out); replace hx343_0 := (HB.out.cell (World.block_lt_of_cell? w _ hx343_0)).trans hx343_0; replace hx343_0 := (cell_far (p := ⟨gb313, 1, none⟩) (by first | (rw [add_block]; exact hn343_0) | (show (Addr.add _ _).block ≠ _; rw [add_block]; exact hn343_0) | exact hn343_0) (.int .i64 t338)).trans hx343_0; replace hx343_0 := (cell_far (p := ⟨gb313, 2, none⟩) (by first | (rw [add_block]; exact hn343_1) | (show (Addr.add _ _).block ≠ _; rw [add_block]; exact hn343_1) | exact hn343_1) (.int .i64 t341)).trans hx343_0; clear hn343_0; clear hn343_1; replace p343 := eq_true p343; replace q343 := eq_true q343) | ((with_reducible refine gate_callee (f := 68) rfl ?_); refine gl 146 Try.func68 #[.string (rdOf ByteArray.empty l0 3)] ?_; (with_reducible refine (spec_l1Signed.calls kj86 (rdOf ByteArray.empty l0 3) t344 _ A99.out).mono ?_); rintro e w' ⟨rfl, ⟨nd, rfl⟩⟩; refine ⟨_, rfl, ?_⟩; obtain ⟨hcz102_0, hcz102_1, hcz102_2, hcz102_3, hcz102_4, hcz102_5, hfz102_0, hfz102_1, hfz102_2, hfz102_3, hfz102_4, hfz102_5⟩ := zc6 BK307))
                refine bodyPost_ret (results_cell_row rfl _ _ gb307 38 #[.int .i64 x314000_1, .int .i64 t338, .int .i64 t341, .int .i64 t344, .int .i64 0, .int .i64 x314005_1] (0, 0) _ rfl (by refine bq ?_; refine blk_put (cs := #[.int .i64 x314000_1, .int .i64 t338, .int .i64 t341, .int .i64 t344, .int .i64 0, .int .i64 0]) ?_ 5 _ rfl; refine bq ?_; refine blk_put (cs := #[.int .i64 x314000_1, .int .i64 t338, .int .i64 t341, .int .i64 t344, .int .i64 0, .int .i64 0]) ?_ 4 _ rfl; refine bq ?_; refine blk_put (cs := #[.int .i64 x314000_1, .int .i64 t338, .int .i64 t341, .int .i64 0, .int .i64 0, .int .i64 0]) ?_ 3 _ rfl; refine bq ?_; refine blk_put (cs := #[.int .i64 x314000_1, .int .i64 t338, .int .i64 0, .int .i64 0, .int .i64 0, .int .i64 0]) ?_ 2 _ rfl; refine bq ?_; refine blk_put (cs := #[.int .i64 x314000_1, .int .i64 0, .int .i64 0, .int .i64 0, .int .i64 0, .int .i64 0]) ?_ 1 _ rfl; refine bq ?_; refine blk_put (cs := #[.int .i64 0, .int .i64 0, .int .i64 0, .int .i64 0, .int .i64 0, .int .i64 0]) ?_ 0 _ rfl; refine fq ?_ NB307_313.out; refine fq ?_ NB307_313.out; refine fq ?_ NB307_313.out; exact bq BK307.out) Try.underlying38 rfl (by kernel_rfl)) rfl ?_
                exact ⟨zR, zB⟩
               ·rw [if_neg c98] at H
                exact absurd H (by simp)
              ·rw [if_neg c96] at H
               exact absurd H (by simp)
             ·rw [if_neg c94] at H
              exact absurd H (by simp)
            ·replace c93 := Bool.eq_false_iff.mpr c93
             subst c93
             rw [if_neg (show ¬ (false = true) by decide)] at H
             have HC103 := Aside0.mk H
             clear H
             go_upto_region 25 with (fail)
             go_cut [148] (fun v148 wc => ∃ (kq : Nat) (x148_102 : Bool), v148 = .bool x148_102 ∧ Aside0 (spec_l1Read.j5 kq l0 (l0.length : Int) x148_102 x314000_1 0 (-1) 0 0 x314005_1 = some (r1, r2, r3, r4, r5, r6)) ∧ Aside0 (kq ≤ kj86) ∧ Aside0 (wc.heap[gb307]? = some (.cells #[.int .i64 0, .int .i64 0, .int .i64 0, .int .i64 0, .int .i64 0, .int .i64 0] 38 (0, 0))) ∧ Aside0 (wc.heap[gb313]? = some (.cells #[.int .i64 x314000_1, .int .i64 0, .int .i64 (-1), .int .i64 0, .int .i64 0, .int .i64 x314005_1] 38 (0, 0))) ∧ Aside0 (Below w.heap.size w wc))
             case first =>
              have H := HC103.out
              clear HC103
              by_cases c104 : x314000_1 = 18
              ·rw [if_pos c104] at H
               have c104b0 : (x314000_1 == 18) = true := beq_iff_eq.mpr c104
               have c104b1 : (x314000_1 != 18) = false := bne_eq_false_iff_eq.mpr c104
               clear c104
               (first | rw [c104b0] | (simp only [i64_w, i32_w]; rw [c104b0]) | skip)
               have H' := Aside0.mk H
               clear H
               have hnb105 := NB313_307.out
               have hnc105 := NB307_313.out
               obtain ⟨hcz106_0, hcz106_1, hcz106_2, hcz106_3, hcz106_4, hcz106_5, hfz106_0, hfz106_1, hfz106_2, hfz106_3, hfz106_4, hfz106_5⟩ := zc6 BK313
               as_aux_lemma =>
                go_wp2
                go_meet
                case rel => exact ⟨_, (((l0.length : Int) == 4)), (by first | rfl | (simp; done) | (simp [*]; done)), H', ⟨by have := HK1.out; have := HJ42.out; have := HJ74.out; have := HJ86.out; first | omega | exact Nat.le_refl _⟩, ⟨by exact bq BK307.out⟩, ⟨by exact bq BK313.out⟩, ⟨zB⟩⟩
              ·rw [if_neg c104] at H
               have c104b0 : (x314000_1 == 18) = false := beq_eq_false_iff_ne.mpr c104
               have c104b1 : (x314000_1 != 18) = true := bne_iff_ne.mpr c104
               (first | rw [c104b0] | (simp only [i64_w, i32_w]; rw [c104b0]) | skip)
               have H' := Aside0.mk H
               clear H
               have hnb107 := NB313_307.out
               have hnc107 := NB307_313.out
               obtain ⟨hcz108_0, hcz108_1, hcz108_2, hcz108_3, hcz108_4, hcz108_5, hfz108_0, hfz108_1, hfz108_2, hfz108_3, hfz108_4, hfz108_5⟩ := zc6 BK313
               as_aux_lemma =>
                go_wp2
                go_meet
                case rel => exact ⟨_, (false), (by first | rfl | (simp; done) | (simp [*]; done)), H', ⟨by have := HK1.out; have := HJ42.out; have := HJ74.out; have := HJ86.out; first | omega | exact Nat.le_refl _⟩, ⟨by exact bq BK307.out⟩, ⟨by exact bq BK313.out⟩, ⟨zB⟩⟩
             case rest =>
              clear HC103
              try clear c1
              try clear c2
              try clear p2 p2
              try clear c3
              try clear c3b0
              try clear c3b1
              try clear p3 p3
              try clear q3 q3
              try clear hx3
              try clear qi3
              try clear c4
              try clear c5
              try clear c6
              try clear p6 p6
              try clear c7
              try clear c8
              try clear c9
              try clear c10
              try clear c17
              try clear c17b0
              try clear c19
              try clear c19b0
              try clear c19b1
              try clear c21
              try clear c21b0
              try clear c21b1
              try clear c21b2
              try clear c22
              try clear c22b0
              try clear c22b1
              try clear c26
              try clear c26b0
              try clear c26b1
              try clear c26b2
              try clear c30
              try clear p31 p31
              try clear q31 q31
              try clear hx31
              try clear c32
              try clear c32b0
              try clear c32b1
              try clear p32 p32
              try clear q32 q32
              try clear hx32
              try clear qi32
              try clear p33 p33
              try clear q33 q33
              try clear hx33
              try clear qi33
              try clear c34
              try clear c34b0
              try clear c34b1
              try clear p34
              try clear q34
              try clear hx34
              try clear qi34
              try clear c35
              try clear c35b0
              try clear c35b1
              try clear c41
              try clear c45
              try clear c46
              try clear c46b0
              try clear c46b1
              try clear c47
              try clear c50
              try clear c51
              try clear c53
              try clear c56
              try clear c57
              try clear c59
              try clear c60
              try clear c61
              try clear c62
              try clear c62b0
              try clear c62b1
              try clear c64
              try clear c64b0
              try clear c64b1
              try clear p64 p64
              try clear c65
              try clear c66
              try clear c66b0
              try clear c66b1
              try clear c67
              try clear c67b0
              try clear c67b1
              try clear c68
              try clear c69
              try clear c72
              try clear c76
              try clear c76b0
              try clear c76b1
              try clear c77
              try clear c79
              try clear c81
              try clear c82
              try clear c82b0
              try clear c82b1
              try clear c84
              try clear c88
              try clear c88b0
              try clear c88b1
              try clear c89
              try clear c91
              try clear c93
              try clear c94
              try clear c94b0
              try clear c94b1
              try clear c96
              try clear c96b0
              try clear c96b1
              try clear c98
              try clear c98b0
              try clear c98b1
              try clear c100
              try clear c104
              try clear c104b0
              try clear c104b1
              try clear c105
              try clear c107
              try clear hcz101_0 hcz101_1 hcz101_2 hcz101_3 hcz101_4 hcz101_5 hfz101_0 hfz101_1 hfz101_2 hfz101_3 hfz101_4 hfz101_5
              try clear hcz102_0 hcz102_1 hcz102_2 hcz102_3 hcz102_4 hcz102_5 hfz102_0 hfz102_1 hfz102_2 hfz102_3 hfz102_4 hfz102_5
              try clear hcz106_0 hcz106_1 hcz106_2 hcz106_3 hcz106_4 hcz106_5 hfz106_0 hfz106_1 hfz106_2 hfz106_3 hfz106_4 hfz106_5
              try clear hcz108_0 hcz108_1 hcz108_2 hcz108_3 hcz108_4 hcz108_5 hfz108_0 hfz108_1 hfz108_2 hfz108_3 hfz108_4 hfz108_5
              try clear hcz42_0 hcz42_1 hcz42_2 hcz42_3 hcz42_4 hcz42_5 hfz42_0 hfz42_1 hfz42_2 hfz42_3 hfz42_4 hfz42_5
              try clear hcz48_0 hcz48_1 hcz48_2 hcz48_3 hcz48_4 hcz48_5 hfz48_0 hfz48_1 hfz48_2 hfz48_3 hfz48_4 hfz48_5
              try clear hcz52_0 hcz52_1 hcz52_2 hcz52_3 hcz52_4 hcz52_5 hfz52_0 hfz52_1 hfz52_2 hfz52_3 hfz52_4 hfz52_5
              try clear hcz54_0 hcz54_1 hcz54_2 hcz54_3 hcz54_4 hcz54_5 hfz54_0 hfz54_1 hfz54_2 hfz54_3 hfz54_4 hfz54_5
              try clear hcz58_0 hcz58_1 hcz58_2 hcz58_3 hcz58_4 hcz58_5 hfz58_0 hfz58_1 hfz58_2 hfz58_3 hfz58_4 hfz58_5
              try clear hcz60_0 hcz60_1 hcz60_2 hcz60_3 hcz60_4 hcz60_5 hfz60_0 hfz60_1 hfz60_2 hfz60_3 hfz60_4 hfz60_5
              try clear hcz70_0 hcz70_1 hcz70_2 hcz70_3 hcz70_4 hcz70_5 hfz70_0 hfz70_1 hfz70_2 hfz70_3 hfz70_4 hfz70_5
              try clear hcz71_0 hcz71_1 hcz71_2 hcz71_3 hcz71_4 hcz71_5 hfz71_0 hfz71_1 hfz71_2 hfz71_3 hfz71_4 hfz71_5
              try clear hcz73_0 hcz73_1 hcz73_2 hcz73_3 hcz73_4 hcz73_5 hfz73_0 hfz73_1 hfz73_2 hfz73_3 hfz73_4 hfz73_5
              try clear hcz74_0 hcz74_1 hcz74_2 hcz74_3 hcz74_4 hcz74_5 hfz74_0 hfz74_1 hfz74_2 hfz74_3 hfz74_4 hfz74_5
              try clear hcz78_0 hcz78_1 hcz78_2 hcz78_3 hcz78_4 hcz78_5 hfz78_0 hfz78_1 hfz78_2 hfz78_3 hfz78_4 hfz78_5
              try clear hcz80_0 hcz80_1 hcz80_2 hcz80_3 hcz80_4 hcz80_5 hfz80_0 hfz80_1 hfz80_2 hfz80_3 hfz80_4 hfz80_5
              try clear hcz85_0 hcz85_1 hcz85_2 hcz85_3 hcz85_4 hcz85_5 hfz85_0 hfz85_1 hfz85_2 hfz85_3 hfz85_4 hfz85_5
              try clear hcz86_0 hcz86_1 hcz86_2 hcz86_3 hcz86_4 hcz86_5 hfz86_0 hfz86_1 hfz86_2 hfz86_3 hfz86_4 hfz86_5
              try clear hcz90_0 hcz90_1 hcz90_2 hcz90_3 hcz90_4 hcz90_5 hfz90_0 hfz90_1 hfz90_2 hfz90_3 hfz90_4 hfz90_5
              try clear hcz92_0 hcz92_1 hcz92_2 hcz92_3 hcz92_4 hcz92_5 hfz92_0 hfz92_1 hfz92_2 hfz92_3 hfz92_4 hfz92_5
              try clear hx311_0
              try clear hx314_0
              try clear hx316_0
              try clear hx321_0
              try clear hx322_0
              try clear hx327_0
              try clear hx330_0
              try clear hx333_0
              try clear hx335_0
              try clear hx337_0
              try clear hx340_0
              try clear hx343_0
              try clear p311
              try clear p314
              try clear p316
              try clear p321
              try clear p322
              try clear p327
              try clear p330
              try clear p333
              try clear p335
              try clear p337
              try clear p340
              try clear p343
              try clear q311
              try clear q314
              try clear q316
              try clear q321
              try clear q322
              try clear q327
              try clear q330
              try clear q333
              try clear q335
              try clear q337
              try clear q340
              try clear q343
              obtain ⟨kq, x148_102, rfl, HA, HJ102, BK307, BK313, HB⟩ := hcut
              cases kq with
              | zero => exact absurd HA.out (by simp [spec_l1Read.j5])
              | succ kj102 =>
               have H := HA.out
               clear HA
               simp only [spec_l1Read.j5] at H
               by_cases c109 : x148_102 = true
               ·subst c109
                rw [if_pos rfl] at H
                by_cases c110 : 1 < (l0.length : Int)
                ·rw [if_pos c110] at H
                 have c110b0 : decide (1 < (l0.length : Int)) = true := decide_eq_true c110
                 have c110b1 : decide (1 < l0.length) = true := decide_eq_true (by omega)
                 clear c110
                 replace H := Option.bind_eq_some_iff.mp H
                 obtain ⟨⟨t346, t347⟩, A1110, H⟩ := H
                 try dsimp only at H
                 have A111 := Aside0.mk A1110
                 clear A1110
                 by_cases c112 : 3 < (l0.length : Int)
                 ·rw [if_pos c112] at H
                  have c112b0 : decide (3 < (l0.length : Int)) = true := decide_eq_true c112
                  have c112b1 : decide (3 < l0.length) = true := decide_eq_true (by omega)
                  clear c112
                  replace H := Option.bind_eq_some_iff.mp H
                  obtain ⟨⟨t349, t350⟩, A1130, H⟩ := H
                  try dsimp only at H
                  have A113 := Aside0.mk A1130
                  clear A1130
                  by_cases c114 : 2 < (l0.length : Int)
                  ·rw [if_pos c114] at H
                   have c114b0 : decide (2 < (l0.length : Int)) = true := decide_eq_true c114
                   have c114b1 : decide (2 < l0.length) = true := decide_eq_true (by omega)
                   clear c114
                   replace H := Option.bind_eq_some_iff.mp H
                   obtain ⟨t352, A1150, H⟩ := H
                   try dsimp only at H
                   have A115 := Aside0.mk A1150
                   clear A1150
                   simp only [Option.some.injEq, Prod.mk.injEq] at H
                   obtain ⟨rfl, rfl, rfl, rfl, rfl, rfl⟩ := H
                   have p345 : 0 ≤ (1 : Int) := (by omega)
                   have q345 : 1 < (l0.length : Int) := dz14
                   obtain ⟨ad345, e345, hx345_0⟩ := Kd.at_string HR0.out 1 p345 q345
                   obtain rfl : ad311 = ad345 := (by injection e345)
                   (try simp only [show (1 : Int).toNat = 1 from rfl, Nat.reduceMul, Nat.reduceEqDiff, Go.Addr.add, ↓reduceIte] at hx345_0)
                   have qi345 : (1 < l0.length) = True := eq_true (by omega)
                   (try rw [show ((1 : Int)).toNat = 1 from rfl] at hx345_0)
                   replace hx345_0 := (HB.out.cell (World.block_lt_of_cell? w _ hx345_0)).trans hx345_0
                   replace p345 := eq_true p345
                   replace q345 := eq_true q345
                   go_wp2_with (first | ((with_reducible refine gate_callee (f := 67) rfl ?_); refine gl 160 Try.func67 #[.string (rdOf ByteArray.empty l0 1)] ?_; (with_reducible refine (spec_l1ReadReg.calls kj102 (rdOf ByteArray.empty l0 1) t346 t347 _ A111.out).mono ?_); rintro e w' ⟨rfl, ⟨nd, rfl⟩⟩; refine ⟨_, rfl, ?_⟩; (try (rw [drewN_self wc]; generalize hq_ : World.drewN wc _ = wc; have n0_ : Aside0 (wc.heap[gb307]? = some (.cells #[.int .i64 0, .int .i64 0, .int .i64 0, .int .i64 0, .int .i64 0, .int .i64 0] 38 (0, 0))) := ⟨by rw [← hq_]; exact (by exact bq BK307.out)⟩; have n1_ : Aside0 (wc.heap[gb313]? = some (.cells #[.int .i64 x314000_1, .int .i64 0, .int .i64 (-1), .int .i64 0, .int .i64 0, .int .i64 x314005_1] 38 (0, 0))) := ⟨by rw [← hq_]; exact (by exact bq BK313.out)⟩; have n2_ : Aside0 (Below w.heap.size w wc) := ⟨by rw [← hq_]; exact zB⟩; clear BK307 BK313 HB hq_; have BK307 := n0_; have BK313 := n1_; have HB := n2_; clear n0_ n1_ n2_)); have p348 : 0 ≤ (3 : Int) := (by omega); have q348 : 3 < (l0.length : Int) := dz14; obtain ⟨ad348, e348, hx348_0⟩ := Kd.at_string HR0.out 3 p348 q348; obtain rfl : ad311 = ad348 := (by injection e348); (try simp only [show (3 : Int).toNat = 3 from rfl, Nat.reduceMul, Nat.reduceEqDiff, Go.Addr.add, ↓reduceIte] at hx348_0); have qi348 : (3 < l0.length) = True := eq_true (by omega); (try rw [show ((3 : Int)).toNat = 3 from rfl] at hx348_0); replace hx348_0 := (HB.out.cell (World.block_lt_of_cell? w _ hx348_0)).trans hx348_0; replace p348 := eq_true p348; replace q348 := eq_true q348) | ((with_reducible refine gate_callee (f := 67) rfl ?_); refine gl 167 Try.func67 #[.string (rdOf ByteArray.empty l0 3)] ?_; (with_reducible refine (spec_l1ReadReg.calls kj102 (rdOf ByteArray.empty l0 3) t349 t350 _ A113.out).mono ?_); rintro e w' ⟨rfl, ⟨nd, rfl⟩⟩; refine ⟨_, rfl, ?_⟩; (try (rw [drewN_self wc]; generalize hq_ : World.drewN wc _ = wc; have n0_ : Aside0 (wc.heap[gb307]? = some (.cells #[.int .i64 0, .int .i64 0, .int .i64 0, .int .i64 0, .int .i64 0, .int .i64 0] 38 (0, 0))) := ⟨by rw [← hq_]; exact (by exact bq BK307.out)⟩; have n1_ : Aside0 (wc.heap[gb313]? = some (.cells #[.int .i64 x314000_1, .int .i64 0, .int .i64 (-1), .int .i64 0, .int .i64 0, .int .i64 x314005_1] 38 (0, 0))) := ⟨by rw [← hq_]; exact (by exact bq BK313.out)⟩; have n2_ : Aside0 (Below w.heap.size w wc) := ⟨by rw [← hq_]; exact zB⟩; clear BK307 BK313 HB hq_; have BK307 := n0_; have BK313 := n1_; have HB := n2_; clear n0_ n1_ n2_)); have hnb116 := NB313_307.out; have hnc116 := NB307_313.out; obtain ⟨hcz117_0, hcz117_1, hcz117_2, hcz117_3, hcz117_4, hcz117_5, hfz117_0, hfz117_1, hfz117_2, hfz117_3, hfz117_4, hfz117_5⟩ := zc6 BK313; have p351 : 0 ≤ (2 : Int) := (by omega); have q351 : 2 < (l0.length : Int) := dz14; obtain ⟨ad351, e351, hx351_0⟩ := Kd.at_string HR0.out 2 p351 q351; obtain rfl : ad311 = ad351 := (by injection e351); (try simp only [show (2 : Int).toNat = 2 from rfl, Nat.reduceMul, Nat.reduceEqDiff, Go.Addr.add, ↓reduceIte] at hx351_0); have qi351 : (2 < l0.length) = True := eq_true (by omega); (try rw [show ((2 : Int)).toNat = 2 from rfl] at hx351_0); have hn351_0 : ad311.block ≠ gb313 := Nat.ne_of_lt (Nat.lt_of_lt_of_le (by have := World.block_lt_of_cell? _ _ hx351_0; first | rwa [add_block] at this | exact this) GW313.out); replace hx351_0 := (HB.out.cell (World.block_lt_of_cell? w _ hx351_0)).trans hx351_0; replace hx351_0 := (cell_far (p := ⟨gb313, 1, none⟩) (by first | (rw [add_block]; exact hn351_0) | (show (Addr.add _ _).block ≠ _; rw [add_block]; exact hn351_0) | exact hn351_0) (.int .i64 t346)).trans hx351_0; clear hn351_0; replace p351 := eq_true p351; replace q351 := eq_true q351) | ((with_reducible refine gate_callee (f := 68) rfl ?_); refine gl 175 Try.func68 #[.string (rdOf ByteArray.empty l0 2)] ?_; (with_reducible refine (spec_l1Signed.calls kj102 (rdOf ByteArray.empty l0 2) t352 _ A115.out).mono ?_); rintro e w' ⟨rfl, ⟨nd, rfl⟩⟩; refine ⟨_, rfl, ?_⟩; obtain ⟨hcz118_0, hcz118_1, hcz118_2, hcz118_3, hcz118_4, hcz118_5, hfz118_0, hfz118_1, hfz118_2, hfz118_3, hfz118_4, hfz118_5⟩ := zc6 BK307))
                   refine bodyPost_ret (results_cell_row rfl _ _ gb307 38 #[.int .i64 x314000_1, .int .i64 t346, .int .i64 t349, .int .i64 t352, .int .i64 t350, .int .i64 x314005_1] (0, 0) _ rfl (by refine bq ?_; refine blk_put (cs := #[.int .i64 x314000_1, .int .i64 t346, .int .i64 t349, .int .i64 t352, .int .i64 t350, .int .i64 0]) ?_ 5 _ rfl; refine bq ?_; refine blk_put (cs := #[.int .i64 x314000_1, .int .i64 t346, .int .i64 t349, .int .i64 t352, .int .i64 0, .int .i64 0]) ?_ 4 _ rfl; refine bq ?_; refine blk_put (cs := #[.int .i64 x314000_1, .int .i64 t346, .int .i64 t349, .int .i64 0, .int .i64 0, .int .i64 0]) ?_ 3 _ rfl; refine bq ?_; refine blk_put (cs := #[.int .i64 x314000_1, .int .i64 t346, .int .i64 0, .int .i64 0, .int .i64 0, .int .i64 0]) ?_ 2 _ rfl; refine bq ?_; refine blk_put (cs := #[.int .i64 x314000_1, .int .i64 0, .int .i64 0, .int .i64 0, .int .i64 0, .int .i64 0]) ?_ 1 _ rfl; refine bq ?_; refine blk_put (cs := #[.int .i64 0, .int .i64 0, .int .i64 0, .int .i64 0, .int .i64 0, .int .i64 0]) ?_ 0 _ rfl; refine fq ?_ NB307_313.out; refine fq ?_ NB307_313.out; refine fq ?_ NB307_313.out; refine fq ?_ NB307_313.out; exact bq BK307.out) Try.underlying38 rfl (by kernel_rfl)) rfl ?_
                   exact ⟨zR, zB⟩
                  ·rw [if_neg c114] at H
                   exact absurd H (by simp)
                 ·rw [if_neg c112] at H
                  exact absurd H (by simp)
                ·rw [if_neg c110] at H
                 exact absurd H (by simp)
               ·replace c109 := Bool.eq_false_iff.mpr c109
                subst c109
                rw [if_neg (show ¬ (false = true) by decide)] at H
                have HC119 := Aside0.mk H
                clear H
                go_upto_region 32 with (fail)
                go_cut [181] (fun v181 wc => ∃ (kq : Nat) (x181_118 : Bool), v181 = .bool x181_118 ∧ Aside0 (spec_l1Read.j6 kq l0 x181_118 x314000_1 0 (-1) 0 0 x314005_1 = some (r1, r2, r3, r4, r5, r6)) ∧ Aside0 (kq ≤ kj102) ∧ Aside0 (wc.heap[gb307]? = some (.cells #[.int .i64 0, .int .i64 0, .int .i64 0, .int .i64 0, .int .i64 0, .int .i64 0] 38 (0, 0))) ∧ Aside0 (wc.heap[gb313]? = some (.cells #[.int .i64 x314000_1, .int .i64 0, .int .i64 (-1), .int .i64 0, .int .i64 0, .int .i64 x314005_1] 38 (0, 0))) ∧ Aside0 (Below w.heap.size w wc))
                case first =>
                 have H := HC119.out
                 clear HC119
                 by_cases c120 : x314000_1 = 19
                 ·rw [if_pos c120] at H
                  have c120b0 : (x314000_1 == 19) = true := beq_iff_eq.mpr c120
                  have c120b1 : (x314000_1 != 19) = false := bne_eq_false_iff_eq.mpr c120
                  clear c120
                  (first | rw [c120b0] | (simp only [i64_w, i32_w]; rw [c120b0]) | skip)
                  have H' := Aside0.mk H
                  clear H
                  have hnb121 := NB313_307.out
                  have hnc121 := NB307_313.out
                  obtain ⟨hcz122_0, hcz122_1, hcz122_2, hcz122_3, hcz122_4, hcz122_5, hfz122_0, hfz122_1, hfz122_2, hfz122_3, hfz122_4, hfz122_5⟩ := zc6 BK313
                  as_aux_lemma =>
                   go_wp2
                   go_meet
                   case rel => exact ⟨_, (((l0.length : Int) == 2)), (by first | rfl | (simp; done) | (simp [*]; done)), H', ⟨by have := HK1.out; have := HJ42.out; have := HJ74.out; have := HJ86.out; have := HJ102.out; first | omega | exact Nat.le_refl _⟩, ⟨by exact bq BK307.out⟩, ⟨by exact bq BK313.out⟩, ⟨zB⟩⟩
                 ·rw [if_neg c120] at H
                  have c120b0 : (x314000_1 == 19) = false := beq_eq_false_iff_ne.mpr c120
                  have c120b1 : (x314000_1 != 19) = true := bne_iff_ne.mpr c120
                  (first | rw [c120b0] | (simp only [i64_w, i32_w]; rw [c120b0]) | skip)
                  have H' := Aside0.mk H
                  clear H
                  have hnb123 := NB313_307.out
                  have hnc123 := NB307_313.out
                  obtain ⟨hcz124_0, hcz124_1, hcz124_2, hcz124_3, hcz124_4, hcz124_5, hfz124_0, hfz124_1, hfz124_2, hfz124_3, hfz124_4, hfz124_5⟩ := zc6 BK313
                  as_aux_lemma =>
                   go_wp2
                   go_meet
                   case rel => exact ⟨_, (false), (by first | rfl | (simp; done) | (simp [*]; done)), H', ⟨by have := HK1.out; have := HJ42.out; have := HJ74.out; have := HJ86.out; have := HJ102.out; first | omega | exact Nat.le_refl _⟩, ⟨by exact bq BK307.out⟩, ⟨by exact bq BK313.out⟩, ⟨zB⟩⟩
                case rest =>
                 clear HC119
                 try clear c1
                 try clear c2
                 try clear p2 p2
                 try clear c3
                 try clear c3b0
                 try clear c3b1
                 try clear p3 p3
                 try clear q3 q3
                 try clear hx3
                 try clear qi3
                 try clear c4
                 try clear c5
                 try clear c6
                 try clear p6 p6
                 try clear c7
                 try clear c8
                 try clear c9
                 try clear c10
                 try clear c11
                 try clear c12
                 try clear c17
                 try clear c17b0
                 try clear c19
                 try clear c19b0
                 try clear c19b1
                 try clear c21
                 try clear c21b0
                 try clear c21b1
                 try clear c21b2
                 try clear c22
                 try clear c22b0
                 try clear c22b1
                 try clear c26
                 try clear c26b0
                 try clear c26b1
                 try clear c26b2
                 try clear c30
                 try clear p31 p31
                 try clear q31 q31
                 try clear hx31
                 try clear c32
                 try clear c32b0
                 try clear c32b1
                 try clear p32 p32
                 try clear q32 q32
                 try clear hx32
                 try clear qi32
                 try clear p33 p33
                 try clear q33 q33
                 try clear hx33
                 try clear qi33
                 try clear c34
                 try clear c34b0
                 try clear c34b1
                 try clear p34 p34
                 try clear q34 q34
                 try clear hx34
                 try clear qi34
                 try clear c35
                 try clear c35b0
                 try clear c35b1
                 try clear p35
                 try clear q35
                 try clear hx35
                 try clear qi35
                 try clear c41
                 try clear c45
                 try clear c46
                 try clear c46b0
                 try clear c46b1
                 try clear c47
                 try clear c50
                 try clear c51
                 try clear c53
                 try clear c56
                 try clear c57
                 try clear c59
                 try clear c60
                 try clear c61
                 try clear c62
                 try clear c62b0
                 try clear c62b1
                 try clear c64
                 try clear c64b0
                 try clear c64b1
                 try clear p64 p64
                 try clear c65
                 try clear c66
                 try clear c66b0
                 try clear c66b1
                 try clear c67
                 try clear c67b0
                 try clear c67b1
                 try clear c68
                 try clear c69
                 try clear c72
                 try clear c76
                 try clear c76b0
                 try clear c76b1
                 try clear c77
                 try clear c79
                 try clear c81
                 try clear c82
                 try clear c82b0
                 try clear c82b1
                 try clear c84
                 try clear c88
                 try clear c88b0
                 try clear c88b1
                 try clear c89
                 try clear c91
                 try clear c93
                 try clear c94
                 try clear c94b0
                 try clear c94b1
                 try clear c96
                 try clear c96b0
                 try clear c96b1
                 try clear c98
                 try clear c98b0
                 try clear c98b1
                 try clear c100
                 try clear c104
                 try clear c104b0
                 try clear c104b1
                 try clear c105
                 try clear c107
                 try clear c109
                 try clear c110
                 try clear c110b0
                 try clear c110b1
                 try clear c112
                 try clear c112b0
                 try clear c112b1
                 try clear c114
                 try clear c114b0
                 try clear c114b1
                 try clear c116
                 try clear c120
                 try clear c120b0
                 try clear c120b1
                 try clear c121
                 try clear c123
                 try clear hcz101_0 hcz101_1 hcz101_2 hcz101_3 hcz101_4 hcz101_5 hfz101_0 hfz101_1 hfz101_2 hfz101_3 hfz101_4 hfz101_5
                 try clear hcz102_0 hcz102_1 hcz102_2 hcz102_3 hcz102_4 hcz102_5 hfz102_0 hfz102_1 hfz102_2 hfz102_3 hfz102_4 hfz102_5
                 try clear hcz106_0 hcz106_1 hcz106_2 hcz106_3 hcz106_4 hcz106_5 hfz106_0 hfz106_1 hfz106_2 hfz106_3 hfz106_4 hfz106_5
                 try clear hcz108_0 hcz108_1 hcz108_2 hcz108_3 hcz108_4 hcz108_5 hfz108_0 hfz108_1 hfz108_2 hfz108_3 hfz108_4 hfz108_5
                 try clear hcz117_0 hcz117_1 hcz117_2 hcz117_3 hcz117_4 hcz117_5 hfz117_0 hfz117_1 hfz117_2 hfz117_3 hfz117_4 hfz117_5
                 try clear hcz118_0 hcz118_1 hcz118_2 hcz118_3 hcz118_4 hcz118_5 hfz118_0 hfz118_1 hfz118_2 hfz118_3 hfz118_4 hfz118_5
                 try clear hcz122_0 hcz122_1 hcz122_2 hcz122_3 hcz122_4 hcz122_5 hfz122_0 hfz122_1 hfz122_2 hfz122_3 hfz122_4 hfz122_5
                 try clear hcz124_0 hcz124_1 hcz124_2 hcz124_3 hcz124_4 hcz124_5 hfz124_0 hfz124_1 hfz124_2 hfz124_3 hfz124_4 hfz124_5
                 try clear hcz42_0 hcz42_1 hcz42_2 hcz42_3 hcz42_4 hcz42_5 hfz42_0 hfz42_1 hfz42_2 hfz42_3 hfz42_4 hfz42_5
                 try clear hcz48_0 hcz48_1 hcz48_2 hcz48_3 hcz48_4 hcz48_5 hfz48_0 hfz48_1 hfz48_2 hfz48_3 hfz48_4 hfz48_5
                 try clear hcz52_0 hcz52_1 hcz52_2 hcz52_3 hcz52_4 hcz52_5 hfz52_0 hfz52_1 hfz52_2 hfz52_3 hfz52_4 hfz52_5
                 try clear hcz54_0 hcz54_1 hcz54_2 hcz54_3 hcz54_4 hcz54_5 hfz54_0 hfz54_1 hfz54_2 hfz54_3 hfz54_4 hfz54_5
                 try clear hcz58_0 hcz58_1 hcz58_2 hcz58_3 hcz58_4 hcz58_5 hfz58_0 hfz58_1 hfz58_2 hfz58_3 hfz58_4 hfz58_5
                 try clear hcz60_0 hcz60_1 hcz60_2 hcz60_3 hcz60_4 hcz60_5 hfz60_0 hfz60_1 hfz60_2 hfz60_3 hfz60_4 hfz60_5
                 try clear hcz70_0 hcz70_1 hcz70_2 hcz70_3 hcz70_4 hcz70_5 hfz70_0 hfz70_1 hfz70_2 hfz70_3 hfz70_4 hfz70_5
                 try clear hcz71_0 hcz71_1 hcz71_2 hcz71_3 hcz71_4 hcz71_5 hfz71_0 hfz71_1 hfz71_2 hfz71_3 hfz71_4 hfz71_5
                 try clear hcz73_0 hcz73_1 hcz73_2 hcz73_3 hcz73_4 hcz73_5 hfz73_0 hfz73_1 hfz73_2 hfz73_3 hfz73_4 hfz73_5
                 try clear hcz74_0 hcz74_1 hcz74_2 hcz74_3 hcz74_4 hcz74_5 hfz74_0 hfz74_1 hfz74_2 hfz74_3 hfz74_4 hfz74_5
                 try clear hcz78_0 hcz78_1 hcz78_2 hcz78_3 hcz78_4 hcz78_5 hfz78_0 hfz78_1 hfz78_2 hfz78_3 hfz78_4 hfz78_5
                 try clear hcz80_0 hcz80_1 hcz80_2 hcz80_3 hcz80_4 hcz80_5 hfz80_0 hfz80_1 hfz80_2 hfz80_3 hfz80_4 hfz80_5
                 try clear hcz85_0 hcz85_1 hcz85_2 hcz85_3 hcz85_4 hcz85_5 hfz85_0 hfz85_1 hfz85_2 hfz85_3 hfz85_4 hfz85_5
                 try clear hcz86_0 hcz86_1 hcz86_2 hcz86_3 hcz86_4 hcz86_5 hfz86_0 hfz86_1 hfz86_2 hfz86_3 hfz86_4 hfz86_5
                 try clear hcz90_0 hcz90_1 hcz90_2 hcz90_3 hcz90_4 hcz90_5 hfz90_0 hfz90_1 hfz90_2 hfz90_3 hfz90_4 hfz90_5
                 try clear hcz92_0 hcz92_1 hcz92_2 hcz92_3 hcz92_4 hcz92_5 hfz92_0 hfz92_1 hfz92_2 hfz92_3 hfz92_4 hfz92_5
                 try clear hx311_0
                 try clear hx314_0
                 try clear hx316_0
                 try clear hx321_0
                 try clear hx322_0
                 try clear hx327_0
                 try clear hx330_0
                 try clear hx333_0
                 try clear hx335_0
                 try clear hx337_0
                 try clear hx340_0
                 try clear hx343_0
                 try clear hx345_0
                 try clear hx348_0
                 try clear hx351_0
                 try clear p311
                 try clear p314
                 try clear p316
                 try clear p321
                 try clear p322
                 try clear p327
                 try clear p330
                 try clear p333
                 try clear p335
                 try clear p337
                 try clear p340
                 try clear p343
                 try clear p345
                 try clear p348
                 try clear p351
                 try clear q311
                 try clear q314
                 try clear q316
                 try clear q321
                 try clear q322
                 try clear q327
                 try clear q330
                 try clear q333
                 try clear q335
                 try clear q337
                 try clear q340
                 try clear q343
                 try clear q345
                 try clear q348
                 try clear q351
                 obtain ⟨kq, x181_118, rfl, HA, HJ118, BK307, BK313, HB⟩ := hcut
                 cases kq with
                 | zero => exact absurd HA.out (by simp [spec_l1Read.j6])
                 | succ kj118 =>
                  have H := HA.out
                  clear HA
                  simp only [spec_l1Read.j6] at H
                  by_cases c125 : x181_118 = true
                  ·subst c125
                   rw [if_pos rfl] at H
                   replace H := Option.bind_eq_some_iff.mp H
                   obtain ⟨t353, A1260, H⟩ := H
                   try dsimp only at H
                   have A126 := Aside0.mk A1260
                   clear A1260
                   by_cases c127 : 1 < (l0.length : Int)
                   ·rw [if_pos c127] at H
                    have c127b0 : decide (1 < (l0.length : Int)) = true := decide_eq_true c127
                    have c127b1 : decide (1 < l0.length) = true := decide_eq_true (by omega)
                    clear c127
                    replace H := Option.bind_eq_some_iff.mp H
                    obtain ⟨t357, A1280, H⟩ := H
                    try dsimp only at H
                    have A128 := Aside0.mk A1280
                    clear A1280
                    simp only [Option.some.injEq, Prod.mk.injEq] at H
                    obtain ⟨rfl, rfl, rfl, rfl, rfl, rfl⟩ := H
                    try go_wp2
                    replace BK307 := Aside0.mk (blk_drew BK307.out)
                    replace BK313 := Aside0.mk (blk_drew BK313.out)
                    replace HB := Aside0.mk (below_drew1 HB.out)
                    have p356 : 0 ≤ (1 : Int) := (by omega)
                    have q356 : 1 < (l0.length : Int) := dz14
                    obtain ⟨ad356, e356, hx356_0⟩ := Kd.at_string HR0.out 1 p356 q356
                    have hw356_0 := hx356_0
                    (try rw [show ((1 : Int)).toNat = 1 from rfl] at hw356_0)
                    (try rw [show 1 * 1 = 1 from rfl] at hw356_0)
                    (try simp only [Nat.reduceMul, Nat.reduceEqDiff, Go.Addr.add, ↓reduceIte] at hw356_0)
                    obtain rfl : ad311 = ad356 := (by injection e356)
                    (try simp only [show (1 : Int).toNat = 1 from rfl, Nat.reduceMul, Nat.reduceEqDiff, Go.Addr.add, ↓reduceIte] at hx356_0)
                    have qi356 : (1 < l0.length) = True := eq_true (by omega)
                    (try rw [show ((1 : Int)).toNat = 1 from rfl] at hx356_0)
                    replace hx356_0 := (HB.out.cell (World.block_lt_of_cell? w _ hx356_0)).trans hx356_0
                    replace p356 := eq_true p356
                    replace q356 := eq_true q356
                    refine start_ (n := 7) (S := fun w' => w'.cell? ⟨ad311.block, ad311.off + 1, none⟩ = some (.string (rdOf ByteArray.empty l0 1))) (ds := []) #[false, false, false, false, false, false, false] (by kernel_rfl) rfl rfl (((HB.out.cell (World.block_lt_of_cell? w _ hw356_0)).trans hw356_0)) (fun hHeld => ?_)
                    generalize wc.drew = w129 at BK307 BK313 HB hx356_0 hHeld ⊢
                    refine pz 1 190 ?_
                    refine pz 2 191 ?_
                    refine take_ (i := 3) (N := some 192) (v := ?_) (a' := ?_) #[false, true, true, true, false, false, false] rfl rfl (by kernel_rfl) (fun _ _ _ h => h) (Or.inl ⟨by rfl, ?_⟩) hHeld ?_ ?_
                    rotate_left
                    ·intro w' s0
                     go_simp
                     with_reducible rfl
                    rotate_left
                    ·simp only [Act.put, List.setIfInBounds_toArray, List.set_cons_zero, List.set_cons_succ, i64_w, i32_w]
                     rfl
                    refine oz 0 189 fun K hK => ?_
                    refine gz Try.func69 #[] ?_
                    with_reducible refine (spec_l1Calls.calls  t353 _ A126.out).mono ?_
                    rintro e w130 ⟨v354, rfl, ho0, hb⟩
                    refine ⟨_, rfl, ?_⟩
                    have HO355 := Aside0.mk (Kd.R_lower ho0 (below_size zB))
                    replace BK307 := zb BK307 hb rfl
                    replace BK313 := zb BK313 hb rfl
                    replace HB := zS hb
                    (try clear hb)
                    (try clear hi)
                    (try clear ho0)
                    obtain ⟨Ao131, co131, eo131⟩ := Kd.R_slice HO355.out
                    (first | subst eo131 | (injection eo131 with f1_ f2_ f3_; have f4_ := f1_.symm; have f5_ := f3_.symm; clear f1_ f2_ f3_; subst f4_; subst f5_))
                    refine hK.out _ _ (((HB.out.cell (World.block_lt_of_cell? w _ hw356_0)).trans hw356_0)) (fun hHeld => ?_)
                    clear hK K
                    refine nz ?_
                    refine oz 4 193 fun K hK => ?_
                    refine gz Try.func64 #[.slice Ao131 t353.length co131, .string (rdOf ByteArray.empty l0 1)] ?_
                    with_reducible refine (spec_l1Find.calls kj118 _ _ t353 (rdOf ByteArray.empty l0 1) t357 _ ?side1 ?side2 A128.out).mono ?_
                    (case side1 => repeat (first | exact (Kd.R_reads' HO355.out).2.2 | (with_reducible refine Kd.C_alloc ?_ _) | (with_reducible refine Kd.C_drewN ?_ _) | (with_reducible refine Kd.C_drew ?_)))
                    (case side2 => exact (Kd.R_reads' HO355.out).2.1)
                    rintro e w' ⟨rfl, ⟨nd, rfl⟩⟩
                    refine ⟨_, rfl, ?_⟩
                    refine hK.out _ _ (((HB.out.cell (World.block_lt_of_cell? w _ hw356_0)).trans hw356_0)) (fun hHeld => ?_)
                    clear hK K
                    refine nz ?_
                    refine pz 5 194 ?_
                    refine oN 6 fun K hK => ?_
                    have hs132 : w130.cell? ⟨gb313, 4, none⟩ = some (.int .i64 0) := (blk_cell BK313.out 4).trans rfl
                    have hfs132 := blk_frozen BK313.out 4
                    have hns132_0 := NB307_313.out
                    have hms132_0 := NB313_307.out
                    refine skip_ (w1 := ?_) (by rfl) rfl ?_ ?_
                    rotate_left
                    ·go_simp
                     rfl
                    refine hK.out _ _ (((cell_far (p := ⟨gb313, _, none⟩) (by first | exact Nat.ne_of_lt (Nat.lt_of_lt_of_le (by have := World.block_lt_of_cell? _ _ hw356_0; first | rwa [add_block] at this | exact this) GW313.out) | (rw [add_block]; exact Nat.ne_of_lt (Nat.lt_of_lt_of_le (by have := World.block_lt_of_cell? _ _ hw356_0; first | rwa [add_block] at this | exact this) GW313.out)) | (show (Addr.add _ _).block ≠ _; rw [add_block]; exact Nat.ne_of_lt (Nat.lt_of_lt_of_le (by have := World.block_lt_of_cell? _ _ hw356_0; first | rwa [add_block] at this | exact this) GW313.out)) | (dsimp only; exact Nat.ne_of_lt (Nat.lt_of_lt_of_le (by have := World.block_lt_of_cell? _ _ hw356_0; first | rwa [add_block] at this | exact this) GW313.out))) _).trans (hHeld))) (fun hHeld => ?_)
                    clear hK K
                    refine done_ (by kernel_rfl) ?_
                    have hnb133 := NB313_307.out
                    have hnc133 := NB307_313.out
                    obtain ⟨hcz134_0, hcz134_1, hcz134_2, hcz134_3, hcz134_4, hcz134_5, hfz134_0, hfz134_1, hfz134_2, hfz134_3, hfz134_4, hfz134_5⟩ := zc6 BK313
                    obtain ⟨hcz135_0, hcz135_1, hcz135_2, hcz135_3, hcz135_4, hcz135_5, hfz135_0, hfz135_1, hfz135_2, hfz135_3, hfz135_4, hfz135_5⟩ := zc6 BK307
                    try go_wp2
                    refine bodyPost_ret (results_cell_row rfl _ _ gb307 38 #[.int .i64 x314000_1, .int .i64 0, .int .i64 (-1), .int .i64 0, .int .i64 t357, .int .i64 x314005_1] (0, 0) _ rfl (by refine bq ?_; refine blk_put (cs := #[.int .i64 x314000_1, .int .i64 0, .int .i64 (-1), .int .i64 0, .int .i64 t357, .int .i64 0]) ?_ 5 _ rfl; refine bq ?_; refine blk_put (cs := #[.int .i64 x314000_1, .int .i64 0, .int .i64 (-1), .int .i64 0, .int .i64 0, .int .i64 0]) ?_ 4 _ rfl; refine bq ?_; refine blk_put (cs := #[.int .i64 x314000_1, .int .i64 0, .int .i64 (-1), .int .i64 0, .int .i64 0, .int .i64 0]) ?_ 3 _ rfl; refine bq ?_; refine blk_put (cs := #[.int .i64 x314000_1, .int .i64 0, .int .i64 0, .int .i64 0, .int .i64 0, .int .i64 0]) ?_ 2 _ rfl; refine bq ?_; refine blk_put (cs := #[.int .i64 x314000_1, .int .i64 0, .int .i64 0, .int .i64 0, .int .i64 0, .int .i64 0]) ?_ 1 _ rfl; refine bq ?_; refine blk_put (cs := #[.int .i64 0, .int .i64 0, .int .i64 0, .int .i64 0, .int .i64 0, .int .i64 0]) ?_ 0 _ rfl; refine fq ?_ NB307_313.out; exact bq BK307.out) Try.underlying38 rfl (by kernel_rfl)) rfl ?_
                    exact ⟨zR, zB⟩
                   ·rw [if_neg c127] at H
                    exact absurd H (by simp)
                  ·replace c125 := Bool.eq_false_iff.mpr c125
                   subst c125
                   rw [if_neg (show ¬ (false = true) by decide)] at H
                   simp only [Option.some.injEq, Prod.mk.injEq] at H
                   obtain ⟨rfl, rfl, rfl, rfl, rfl, rfl⟩ := H
                   have hnb136 := NB313_307.out
                   have hnc136 := NB307_313.out
                   obtain ⟨hcz137_0, hcz137_1, hcz137_2, hcz137_3, hcz137_4, hcz137_5, hfz137_0, hfz137_1, hfz137_2, hfz137_3, hfz137_4, hfz137_5⟩ := zc6 BK313
                   obtain ⟨hcz138_0, hcz138_1, hcz138_2, hcz138_3, hcz138_4, hcz138_5, hfz138_0, hfz138_1, hfz138_2, hfz138_3, hfz138_4, hfz138_5⟩ := zc6 BK307
                   go_wp2
                   refine bodyPost_ret (results_cell_row rfl _ _ gb307 38 #[.int .i64 x314000_1, .int .i64 0, .int .i64 (-1), .int .i64 0, .int .i64 0, .int .i64 x314005_1] (0, 0) _ rfl (by refine bq ?_; refine blk_put (cs := #[.int .i64 x314000_1, .int .i64 0, .int .i64 (-1), .int .i64 0, .int .i64 0, .int .i64 0]) ?_ 5 _ rfl; refine bq ?_; refine blk_put (cs := #[.int .i64 x314000_1, .int .i64 0, .int .i64 (-1), .int .i64 0, .int .i64 0, .int .i64 0]) ?_ 4 _ rfl; refine bq ?_; refine blk_put (cs := #[.int .i64 x314000_1, .int .i64 0, .int .i64 (-1), .int .i64 0, .int .i64 0, .int .i64 0]) ?_ 3 _ rfl; refine bq ?_; refine blk_put (cs := #[.int .i64 x314000_1, .int .i64 0, .int .i64 0, .int .i64 0, .int .i64 0, .int .i64 0]) ?_ 2 _ rfl; refine bq ?_; refine blk_put (cs := #[.int .i64 x314000_1, .int .i64 0, .int .i64 0, .int .i64 0, .int .i64 0, .int .i64 0]) ?_ 1 _ rfl; refine bq ?_; refine blk_put (cs := #[.int .i64 0, .int .i64 0, .int .i64 0, .int .i64 0, .int .i64 0, .int .i64 0]) ?_ 0 _ rfl; exact bq BK307.out) Try.underlying38 rfl (by kernel_rfl)) rfl ?_
                   exact ⟨zR, zB⟩
set_option maxHeartbeats 8000000 in
set_option maxRecDepth 100000 in
theorem spec_l1Read.calls (k : Nat) (A0 : Option Addr) (c0 : Nat) (l0 : List ByteArray) (r1 : Int) (r2 : Int) (r3 : Int) (r4 : Int) (r5 : Int) (r6 : Int) (w : World) (hr0 : Kd.C Kd.string w A0 l0.length l0) (hc0 : l0.length ≤ c0) (h : spec_l1Read.f k l0 = some (r1, r2, r3, r4, r5, r6)) :
  Calls Try.prog 61 #[.slice A0 l0.length c0] w fun e w' => e = .returned (.agg #[.int .i64 r1, .int .i64 r2, .int .i64 r3, .int .i64 r4, .int .i64 r5, .int .i64 r6]) ∧ Below w.heap.size w w' := by
 have hu38 := Try.underlying38
 have HR0 := Aside0.mk hr0
 have HC0 := Aside0.mk hc0
 clear hr0 hc0
 have HB := Aside0.mk (Below.refl w.heap.size w)
 have H : ((spec_l1Words.f).bind fun t308 => (if 0 < (l0.length : Int) then ((spec_l1Find.f k t308 (rdOf ByteArray.empty l0 0)).bind fun t312 => (spec_l1Read.l0 k l0 1 t312 0 (-1) 0 0 0)) else (none))) = some (r1, r2, r3, r4, r5, r6) := h
 clear h
 replace H := Option.bind_eq_some_iff.mp H
 obtain ⟨t308, A20, H⟩ := H
 try dsimp only at H
 have A2 := Aside0.mk A20
 clear A20
 by_cases c3 : 0 < (l0.length : Int)
 ·rw [if_pos c3] at H
  have c3b0 : decide (0 < (l0.length : Int)) = true := decide_eq_true c3
  have c3b1 : decide (0 < l0.length) = true := decide_eq_true (by omega)
  clear c3
  replace H := Option.bind_eq_some_iff.mp H
  obtain ⟨t312, A40, H⟩ := H
  try dsimp only at H
  have A4 := Aside0.mk A40
  clear A40
  exact spec_l1Read.way k A0 c0 l0 r1 r2 r3 r4 r5 r6 w HR0 HC0 t308 A2 c3b0 c3b1 t312 A4 ⟨H⟩ HB
 ·rw [if_neg c3] at H
  exact absurd H (by simp)
end Go.Proofs.Ytdfgaaeieneaoaa.Q
