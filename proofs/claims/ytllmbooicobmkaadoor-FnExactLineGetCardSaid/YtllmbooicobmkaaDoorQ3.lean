/- The machine's side of this seat's laws: Go functions as Lean functions, and their contracts. By a program of this work over the kit's print. -/
import Derived.Test.YtllmbooicobmkaaDoorQ0
import Derived.Test.YtllmbooicobmkaaDoorQ2
namespace Go.Proofs.YtllmbooicobmkaaDoor.Q
open Go.RowKit Go.Proofs.YtllmbooicobmkaaDoorW.PrintWords Go.Proofs.YtllmbooicobmkaaDoorW.PrintLast Go.Proofs.YtllmbooicobmkaaDoorW.PrintMore
attribute [local go_sem] max2_int min2_int max_two min_two max_three min_three max_four min_four Go.Proofs.YtllmbooicobmkaaDoorN.not_i64 Go.Proofs.YtllmbooicobmkaaDoorN.isSome_setCell   -- for this text's walks alone
set_option linter.unusedVariables false
set_option linter.unusedSimpArgs false

/-! ### spec_l1Read: function 11 -/
mutual
def spec_l1Read.l0 : Nat → List ByteArray → Int → Int → Int → Int → Int → Int → Int → Option (Int × Int × Int × Int × Int × Int)
 | 0, _, _, _, _, _, _, _, _ => none
 | k + 1, x0, x4, x129000, x129001, x129002, x129003, x129004, x129005 => if x4 ≤ 4 then (if 0 < (x0.length : Int) then ((spec_l1Dec.f k x4).bind fun t130 => (if 4 + t130.size ≤ 9223372036854775807 then (if (rdOf ByteArray.empty x0 0).toList = ((⟨#[108, 111, 97, 100]⟩ : ByteArray) ++ t130).toList then (spec_l1Read.j1 k x0 x4 true x129000 x129001 x129002 x129003 x129004 x129005) else ((spec_l1Dec.f k x4).bind fun t132 => (if 5 + t132.size ≤ 9223372036854775807 then (spec_l1Read.j1 k x0 x4 ((rdOf ByteArray.empty x0 0).toList == ((⟨#[115, 116, 111, 114, 101]⟩ : ByteArray) ++ t132).toList) x129000 x129001 x129002 x129003 x129004 x129005) else (none)))) else (none))) else (none)) else ((spec_l1Alu.f x129000).bind fun t139 => (if t139 = true then (if (x0.length : Int) = 3 then (spec_l1Read.j2 k x0 (x0.length : Int) true x129000 x129001 x129002 x129003 x129004 x129005) else ((spec_l1Jump.f x129000).bind fun t140 => (if t140 = true then (spec_l1Read.j2 k x0 (x0.length : Int) ((x0.length : Int) == 4) x129000 x129001 x129002 x129003 x129004 x129005) else (spec_l1Read.j2 k x0 (x0.length : Int) false x129000 x129001 x129002 x129003 x129004 x129005)))) else ((spec_l1Jump.f x129000).bind fun t141 => (if t141 = true then (spec_l1Read.j2 k x0 (x0.length : Int) ((x0.length : Int) == 4) x129000 x129001 x129002 x129003 x129004 x129005) else (spec_l1Read.j2 k x0 (x0.length : Int) false x129000 x129001 x129002 x129003 x129004 x129005)))))
def spec_l1Read.j1 : Nat → List ByteArray → Int → Bool → Int → Int → Int → Int → Int → Int → Option (Int × Int × Int × Int × Int × Int)
 | 0, _, _, _, _, _, _, _, _, _ => none
 | k + 1, x0, x4, x43, x129000, x129001, x129002, x129003, x129004, x129005 => if x43 = true then ((spec_l1Words.f).bind fun t133 => (if 0 < (x0.length : Int) then (if 0 ≤ (wrap64 (((rdOf ByteArray.empty x0 0).size : Int) - 1)) then (if (wrap64 (((rdOf ByteArray.empty x0 0).size : Int) - 1)) ≤ ((rdOf ByteArray.empty x0 0).size : Int) then ((spec_l1Find.f k t133 ((rdOf ByteArray.empty x0 0).extract 0 ((wrap64 (((rdOf ByteArray.empty x0 0).size : Int) - 1)) : Int).toNat)).bind fun t138 => (spec_l1Read.l0 k x0 (wrap64 (x4 * 2)) t138 x129001 x129002 x129003 x129004 x4)) else (none)) else (none)) else (none))) else (spec_l1Read.l0 k x0 (wrap64 (x4 * 2)) x129000 x129001 x129002 x129003 x129004 x129005)
def spec_l1Read.j2 : Nat → List ByteArray → Int → Bool → Int → Int → Int → Int → Int → Int → Option (Int × Int × Int × Int × Int × Int)
 | 0, _, _, _, _, _, _, _, _, _ => none
 | k + 1, x0, x5, x60, x129000, x129001, x129002, x129003, x129004, x129005 => if x60 = true then (if 1 < (x0.length : Int) then ((spec_l1ReadReg.f k (rdOf ByteArray.empty x0 1)).bind fun bt143 => (if 2 < (x0.length : Int) then ((spec_l1ReadReg.f k (rdOf ByteArray.empty x0 2)).bind fun bt146 => (if x5 = 4 then (if 3 < (x0.length : Int) then ((spec_l1Signed.f k (rdOf ByteArray.empty x0 3)).bind fun t149 => (some (x129000, bt143.1, bt146.1, t149, bt146.2, x129005))) else (none)) else (some (x129000, bt143.1, bt146.1, x129003, bt146.2, x129005)))) else (none))) else (none)) else (if x129000 = 16 then (spec_l1Read.j3 k x0 x5 (x5 == 2) x129000 x129001 x129002 x129003 x129004 x129005) else (spec_l1Read.j3 k x0 x5 false x129000 x129001 x129002 x129003 x129004 x129005))
def spec_l1Read.j3 : Nat → List ByteArray → Int → Bool → Int → Int → Int → Int → Int → Int → Option (Int × Int × Int × Int × Int × Int)
 | 0, _, _, _, _, _, _, _, _, _ => none
 | k + 1, x0, x5, x104, x129000, x129001, x129002, x129003, x129004, x129005 => if x104 = true then (if 1 < (x0.length : Int) then ((spec_l1Signed.f k (rdOf ByteArray.empty x0 1)).bind fun t151 => (some (x129000, x129001, x129002, t151, x129004, x129005))) else (none)) else (if x129000 = 17 then (spec_l1Read.j4 k x0 x5 (x5 == 4) x129000 x129001 x129002 x129003 x129004 x129005) else (spec_l1Read.j4 k x0 x5 false x129000 x129001 x129002 x129003 x129004 x129005))
def spec_l1Read.j4 : Nat → List ByteArray → Int → Bool → Int → Int → Int → Int → Int → Int → Option (Int × Int × Int × Int × Int × Int)
 | 0, _, _, _, _, _, _, _, _, _ => none
 | k + 1, x0, x5, x117, x129000, x129001, x129002, x129003, x129004, x129005 => if x117 = true then (if 1 < (x0.length : Int) then ((spec_l1ReadReg.f k (rdOf ByteArray.empty x0 1)).bind fun bt153 => (if 2 < (x0.length : Int) then ((spec_l1ReadReg.f k (rdOf ByteArray.empty x0 2)).bind fun bt156 => (if 3 < (x0.length : Int) then ((spec_l1Signed.f k (rdOf ByteArray.empty x0 3)).bind fun t159 => (some (x129000, bt153.1, bt156.1, t159, x129004, x129005))) else (none))) else (none))) else (none)) else (if x129000 = 18 then (spec_l1Read.j5 k x0 x5 (x5 == 4) x129000 x129001 x129002 x129003 x129004 x129005) else (spec_l1Read.j5 k x0 x5 false x129000 x129001 x129002 x129003 x129004 x129005))
def spec_l1Read.j5 : Nat → List ByteArray → Int → Bool → Int → Int → Int → Int → Int → Int → Option (Int × Int × Int × Int × Int × Int)
 | 0, _, _, _, _, _, _, _, _, _ => none
 | k + 1, x0, x5, x148, x129000, x129001, x129002, x129003, x129004, x129005 => if x148 = true then (if 1 < (x0.length : Int) then ((spec_l1ReadReg.f k (rdOf ByteArray.empty x0 1)).bind fun bt161 => (if 3 < (x0.length : Int) then ((spec_l1ReadReg.f k (rdOf ByteArray.empty x0 3)).bind fun bt164 => (if 2 < (x0.length : Int) then ((spec_l1Signed.f k (rdOf ByteArray.empty x0 2)).bind fun t167 => (some (x129000, bt161.1, bt164.1, t167, bt164.2, x129005))) else (none))) else (none))) else (none)) else (if x129000 = 19 then (spec_l1Read.j6 k x0 (x5 == 2) x129000 x129001 x129002 x129003 x129004 x129005) else (spec_l1Read.j6 k x0 false x129000 x129001 x129002 x129003 x129004 x129005))
def spec_l1Read.j6 : Nat → List ByteArray → Bool → Int → Int → Int → Int → Int → Int → Option (Int × Int × Int × Int × Int × Int)
 | 0, _, _, _, _, _, _, _, _ => none
 | k + 1, x0, x181, x129000, x129001, x129002, x129003, x129004, x129005 => if x181 = true then ((spec_l1Calls.f).bind fun t168 => (if 1 < (x0.length : Int) then ((spec_l1Find.f k t168 (rdOf ByteArray.empty x0 1)).bind fun t172 => (some (x129000, x129001, x129002, x129003, t172, x129005))) else (none))) else (some (x129000, x129001, x129002, x129003, x129004, x129005))
end
def spec_l1Read.f (k : Nat) (l0 : List ByteArray) : Option (Int × Int × Int × Int × Int × Int) := (spec_l1Words.f).bind fun t123 => (if 0 < (l0.length : Int) then ((spec_l1Find.f k t123 (rdOf ByteArray.empty l0 0)).bind fun t127 => (spec_l1Read.l0 k l0 1 t127 0 (-1) 0 0 0)) else (none))


def spec_l1Read.T1 : Bool × List (List Nat × List Nat) := (true, [([], []), ([], []), ([1], [1]), ([2], [2]), ([0, 3, 0], [0, 3]), ([4], [4]), ([], []), ([6, 5, 4, 0, 1, 2, 3, 4, 5, 6], [5, 6])])
def spec_l1Read.B1 : List Nat := [0, 0, 2, 6, 15, 31, 0, 127]
theorem spec_l1Read.tab1 : rtab .any (opsOf Tryd.f11 1) = spec_l1Read.T1 := by kernel_rfl
theorem spec_l1Read.bits1 : waitsOk spec_l1Read.T1.2 spec_l1Read.B1 = true := by kernel_rfl
def spec_l1Read.T5 : Bool × List (List Nat × List Nat) := (true, [([], []), ([0], [0]), ([1], [1]), ([], []), ([3], [3]), ([4], [4]), ([2, 5], [2, 5]), ([6, 4], [6]), ([7], [7]), ([8, 7], [7, 8]), ([9, 7], [7, 9]), ([7], [7]), ([11, 7, 7], [7, 11]), ([12, 7], [7, 12]), ([10, 13, 7], [7, 10, 13]), ([7, 14], [7, 14])])
def spec_l1Read.B5 : List Nat := [0, 1, 3, 0, 8, 24, 63, 127, 255, 511, 1023, 255, 2303, 6399, 16383, 32767]
theorem spec_l1Read.tab5 : rtab .any (opsOf Tryd.f11 5) = spec_l1Read.T5 := by kernel_rfl
theorem spec_l1Read.bits5 : waitsOk spec_l1Read.T5.2 spec_l1Read.B5 = true := by kernel_rfl
def spec_l1Read.T6 : Bool × List (List Nat × List Nat) := (true, [([], []), ([], []), ([1], [1]), ([2], [2]), ([], []), ([4], [4]), ([5], [5]), ([6], [6]), ([7], [7]), ([3, 8], [3, 8]), ([0, 9, 0], [0, 9]), ([0, 1, 2, 3, 4, 5, 6, 7, 8, 9, 10], []), ([11, 10, 10, 0, 1, 2, 3, 4, 5, 6, 7, 8, 9, 10], [10, 11])])
def spec_l1Read.B6 : List Nat := [0, 0, 2, 6, 0, 16, 48, 112, 240, 510, 1023, 2047, 4095]
theorem spec_l1Read.tab6 : rtab .any (opsOf Tryd.f11 6) = spec_l1Read.T6 := by kernel_rfl
theorem spec_l1Read.bits6 : waitsOk spec_l1Read.T6.2 spec_l1Read.B6 = true := by kernel_rfl
set_option maxHeartbeats 8000000 in
set_option maxRecDepth 100000 in
theorem spec_l1Read.way (k : Nat) (A0 : Option Addr) (c0 : Nat) (l0 : List ByteArray) (r1 : Int) (r2 : Int) (r3 : Int) (r4 : Int) (r5 : Int) (r6 : Int) (w : World) (HR0 : Aside0 (Kd.C Kd.string w A0 l0.length l0)) (HC0 : Aside0 (l0.length ≤ c0)) (t123 : List ByteArray) (A2 : Aside0 (spec_l1Words.f = some t123)) (c3b0 : decide (0 < (l0.length : Int)) = true) (c3b1 : decide (0 < l0.length) = true) (t127 : Int) (A4 : Aside0 (spec_l1Find.f k t123 (rdOf ByteArray.empty l0 0) = some t127)) (H' : Aside0 (spec_l1Read.l0 k l0 1 t127 0 (-1) 0 0 0 = some (r1, r2, r3, r4, r5, r6))) (HB : Aside0 (Below w.heap.size w w)) :
  Calls Tryd.prog 11 #[.slice A0 l0.length c0] w fun e w' => e = .returned (.agg #[.int .i64 r1, .int .i64 r2, .int .i64 r3, .int .i64 r4, .int .i64 r5, .int .i64 r6]) ∧ Below w.heap.size w w' := by
 have hu23 := Tryd.underlying23
 go_enter Tryd.func11, Tryd.ntmps11
 try go_wp2_with (first | ((with_reducible refine gate_dst (N := 2) rfl ?_); refine be 2 #[.int .i64 0, .int .i64 0, .int .i64 0, .int .i64 0, .int .i64 0, .int .i64 0] 23 ?_; intro gb122 hg w5 hbox hb; have BK122 := Aside0.mk hbox; have GW122 := zW hg; replace HB := zS hb; have GE122 := GW122; clear hb hbox hg))
 replace BK122 := Aside0.mk (blk_drew BK122.out)
 replace HB := Aside0.mk (below_drew1 HB.out)
 have p126 : 0 ≤ (0 : Int) := (by omega)
 have q126 : 0 < (l0.length : Int) := of_decide_eq_true (by first | (with_reducible assumption) | assumption)
 obtain ⟨ad126, e126, hx126_0⟩ := Kd.at_string HR0.out 0 p126 q126
 have hw126_0 := hx126_0
 (try rw [show ((0 : Int)).toNat = 0 from rfl] at hw126_0)
 (try rw [show 0 * 1 = 0 from rfl] at hw126_0)
 (try rw [Addr.add_zero'] at hw126_0)
 cases e126
 have qi126 : (0 < l0.length) = True := eq_true (by omega)
 (try rw [show ((0 : Int)).toNat = 0 from rfl] at hx126_0)
 (try rw [Addr.add_zero'] at hx126_0)
 replace hx126_0 := (HB.out.cell (World.block_lt_of_cell? w _ hx126_0)).trans hx126_0
 replace p126 := eq_true p126
 replace q126 := eq_true q126
 refine start_ (n := 8) (S := fun w' => w'.cell? ad126 = some (.string (rdOf ByteArray.empty l0 0))) (ds := []) #[false, false, false, false, false, false, false, false] (by kernel_rfl) rfl rfl (((HB.out.cell (World.block_lt_of_cell? w _ hw126_0)).trans hw126_0)) (fun hHeld => ?_); refine with_tabW spec_l1Read.tab1 spec_l1Read.bits1 (fun HT_ HW_ => ?_)
 generalize w5.drew = w6 at BK122 HB hx126_0 hHeld ⊢
 refine pz 1 19 ?_
 refine pz 2 20 ?_
 refine take_ (i := 3) (N := some 21) (v := ?_) (a' := ?_) #[false, true, true, true, false, false, false, false] rfl rfl (take_ofW HT_.out HW_.out (by kernel_rfl)) (fun _ _ _ h => h) (Or.inl ⟨by rfl, ?_⟩) hHeld ?_ ?_
 rotate_left
 ·intro w' s0
  go_simp
  with_reducible rfl
 rotate_left
 ·simp only [Act.put, List.setIfInBounds_toArray, List.set_cons_zero, List.set_cons_succ, i64_w, i32_w]
  rfl
 refine join_ (σ := Value × Nat) 1 #[true, true, true, true, true, true, true, false] (fun s_ => [(18, s_.1), (22, .int .i64 t127), (3, .pointer (some ⟨s_.2, 0, none⟩)), (23, .agg #[.int .i64 t127, .int .i64 0, .int .i64 (-1), .int .i64 0, .int .i64 0, .int .i64 0])]) (fun s_ w' => (w'.cell? ad126 = some (.string (rdOf ByteArray.empty l0 0))) ∧ (Kd.R Kd.string 9 w' w.heap.size (fun _ => True) s_.1 t123) ∧ (w'.heap[gb122]? = some (.cells #[.int .i64 0, .int .i64 0, .int .i64 0, .int .i64 0, .int .i64 0, .int .i64 0] 23 (0, 0))) ∧ (w'.heap[s_.2]? = some (.cells #[.int .i64 0, .int .i64 0, .int .i64 0, .int .i64 0, .int .i64 0, .int .i64 0] 23 (0, 0))) ∧ (w.heap.size ≤ s_.2) ∧ (w.heap.size ≤ s_.2) ∧ (gb122 ≠ s_.2) ∧ (s_.2 ≠ gb122) ∧ (Below w.heap.size w w')) ?_ ?_
 rotate_left
 ·intro hCont
  refine two_ (i := 0) (j := 6) (Ni := some 18) (Nj := some 3) #[true, true, true, true, false, false, false, false] #[false, true, true, true, false, false, true, false] rfl rfl rfl rfl (two_of HT_.out (by kernel_rfl)) (by decide) (by decide) (fun K hK => ?_) (fun K hK => ?_)
  ·skip
   refine gz Tryd.func21 #[] ?_
   with_reducible refine (spec_l1Words.calls  t123 _ A2.out).mono ?_
   rintro e w7 ⟨v124, rfl, ho0, hb⟩
   refine ⟨_, rfl, ?_⟩
   have HO125 := Aside0.mk (Kd.R_lower ho0 (below_size zB))
   replace BK122 := zb BK122 hb rfl
   replace HB := zS hb
   (try clear hb)
   (try clear hb2)
   (try clear hk)
   (try clear hi)
   (try clear ho0)
   obtain ⟨Ao8, co8, eo8⟩ := Kd.R_slice HO125.out
   (first | subst eo8 | (injection eo8 with f1_ f2_ f3_; have f4_ := f1_.symm; have f5_ := f3_.symm; clear f1_ f2_ f3_; subst f4_; subst f5_))
   refine hK.out _ _ (((HB.out.cell (World.block_lt_of_cell? w _ hw126_0)).trans hw126_0)) (fun hHeld => ?_)
   clear hK K
   refine nz ?_
   refine two_ (i := 4) (j := 6) (Ni := some 22) (Nj := some 3) #[true, true, true, true, true, false, false, false] #[true, true, true, true, false, false, true, false] rfl rfl rfl rfl (two_of HT_.out (by kernel_rfl)) (by decide) (by decide) (fun K hK => ?_) (fun K hK => ?_)
   ·skip
    refine gz Tryd.func20 #[.slice Ao8 t123.length co8, .string (rdOf ByteArray.empty l0 0)] ?_
    with_reducible refine (spec_l1Find.calls k _ _ t123 (rdOf ByteArray.empty l0 0) t127 _ ?side1 ?side2 A4.out).mono ?_
    (case side1 => repeat (first | exact (Kd.R_reads' HO125.out).2.2 | (with_reducible refine Kd.C_alloc ?_ _) | (with_reducible refine Kd.C_drewN ?_ _) | (with_reducible refine Kd.C_drew ?_)))
    (case side2 => exact (Kd.R_reads' HO125.out).2.1)
    rintro e w' ⟨rfl, ⟨nd, rfl⟩⟩
    refine ⟨_, rfl, ?_⟩
    refine hK.out _ _ (((HB.out.cell (World.block_lt_of_cell? w _ hw126_0)).trans hw126_0)) (fun hHeld => ?_)
    clear hK K
    refine nz ?_
    refine pz 5 23 ?_
    refine oz 6 3 fun K hK => ?_
    refine box_step ?hg (N := 3) ?hd (cs := #[.int .i64 0, .int .i64 0, .int .i64 0, .int .i64 0, .int .i64 0, .int .i64 0]) (t := 23) ?hr ?_; (case hd => rfl); (case hg => rfl); (case hr => first | (go_simp; done) | (go_simp; rfl))
    intro gb128 hg w9 hbox hb
    replace HO125 := Aside0.mk (Kd.R_below (by (with_reducible repeat (first | apply Kd.R_alloc | apply Kd.R_drewN | apply Kd.R_drew)); exact HO125.out) hb)
    have BK128 := Aside0.mk hbox
    have GW128 := zW hg
    have GE128 := zW hg
    replace HB := zS hb
    have NB122_128 := zl BK122 hg rfl
    have NB128_122 := zg BK122 hg rfl
    replace BK122 := zb BK122 hb rfl
    clear hb hbox hg
    refine hK.out _ _ (((HB.out.cell (World.block_lt_of_cell? w _ hw126_0)).trans hw126_0)) (fun hHeld => ?_)
    clear hK K
    refine nz ?_
    exact norm_ (by simp only [putAll, Act.put, List.setIfInBounds_toArray, List.set_cons_zero, List.set_cons_succ]) (hCont (.slice Ao8 t123.length co8, gb128) _ ⟨hHeld, (by (with_reducible repeat (first | apply Kd.R_alloc | apply Kd.R_drewN | apply Kd.R_drew)); exact HO125.out), (by exact bq BK122.out), (by exact bq BK128.out), GW128.out, GE128.out, NB122_128.out, NB128_122.out, zB⟩)
   ·skip
    refine box_step ?hg (N := 3) ?hd (cs := #[.int .i64 0, .int .i64 0, .int .i64 0, .int .i64 0, .int .i64 0, .int .i64 0]) (t := 23) ?hr ?_; (case hd => rfl); (case hg => rfl); (case hr => first | (go_simp; done) | (go_simp; rfl))
    intro gb128 hg w8 hbox hb
    replace HO125 := Aside0.mk (Kd.R_below (by (with_reducible repeat (first | apply Kd.R_alloc | apply Kd.R_drewN | apply Kd.R_drew)); exact HO125.out) hb)
    have BK128 := Aside0.mk hbox
    have GW128 := zW hg
    have GE128 := zW hg
    replace HB := zS hb
    have NB122_128 := zl BK122 hg rfl
    have NB128_122 := zg BK122 hg rfl
    replace BK122 := zb BK122 hb rfl
    clear hb hbox hg
    obtain ⟨Ao9, co9, eo9⟩ := Kd.R_slice HO125.out
    (first | subst eo9 | (injection eo9 with f1_ f2_ f3_; have f4_ := f1_.symm; have f5_ := f3_.symm; clear f1_ f2_ f3_; subst f4_; subst f5_))
    refine hK.out _ _ (((HB.out.cell (World.block_lt_of_cell? w _ hw126_0)).trans hw126_0)) (fun hHeld => ?_)
    clear hK K
    refine nz ?_
    refine oz 4 22 fun K hK => ?_
    refine gz Tryd.func20 #[.slice Ao9 t123.length co9, .string (rdOf ByteArray.empty l0 0)] ?_
    with_reducible refine (spec_l1Find.calls k _ _ t123 (rdOf ByteArray.empty l0 0) t127 _ ?side1 ?side2 A4.out).mono ?_
    (case side1 => repeat (first | exact (Kd.R_reads' HO125.out).2.2 | (with_reducible refine Kd.C_alloc ?_ _) | (with_reducible refine Kd.C_drewN ?_ _) | (with_reducible refine Kd.C_drew ?_)))
    (case side2 => exact (Kd.R_reads' HO125.out).2.1)
    rintro e w' ⟨rfl, ⟨nd, rfl⟩⟩
    refine ⟨_, rfl, ?_⟩
    refine hK.out _ _ (((HB.out.cell (World.block_lt_of_cell? w _ hw126_0)).trans hw126_0)) (fun hHeld => ?_)
    clear hK K
    refine nz ?_
    refine pz 5 23 ?_
    exact norm_ (by simp only [putAll, Act.put, List.setIfInBounds_toArray, List.set_cons_zero, List.set_cons_succ]) (hCont (.slice Ao9 t123.length co9, gb128) _ ⟨hHeld, (by (with_reducible repeat (first | apply Kd.R_alloc | apply Kd.R_drewN | apply Kd.R_drew)); exact HO125.out), (by exact bq BK122.out), (by exact bq BK128.out), GW128.out, GE128.out, NB122_128.out, NB128_122.out, zB⟩)
  ·skip
   refine box_step ?hg (N := 3) ?hd (cs := #[.int .i64 0, .int .i64 0, .int .i64 0, .int .i64 0, .int .i64 0, .int .i64 0]) (t := 23) ?hr ?_; (case hd => rfl); (case hg => rfl); (case hr => first | (go_simp; done) | (go_simp; rfl))
   intro gb128 hg w7 hbox hb
   have BK128 := Aside0.mk hbox
   have GW128 := zW hg
   have GE128 := zW hg
   replace HB := zS hb
   have NB122_128 := zl BK122 hg rfl
   have NB128_122 := zg BK122 hg rfl
   replace BK122 := zb BK122 hb rfl
   clear hb hbox hg
   refine hK.out _ _ (((HB.out.cell (World.block_lt_of_cell? w _ hw126_0)).trans hw126_0)) (fun hHeld => ?_)
   clear hK K
   refine nz ?_
   refine oz 0 18 fun K hK => ?_
   refine gz Tryd.func21 #[] ?_
   with_reducible refine (spec_l1Words.calls  t123 _ A2.out).mono ?_
   rintro e w8 ⟨v124, rfl, ho0, hb⟩
   refine ⟨_, rfl, ?_⟩
   have HO125 := Aside0.mk (Kd.R_lower ho0 (below_size zB))
   replace BK122 := zb BK122 hb rfl
   replace BK128 := zb BK128 hb rfl
   replace HB := zS hb
   (try clear hb)
   (try clear hb2)
   (try clear hk)
   (try clear hi)
   (try clear ho0)
   obtain ⟨Ao9, co9, eo9⟩ := Kd.R_slice HO125.out
   (first | subst eo9 | (injection eo9 with f1_ f2_ f3_; have f4_ := f1_.symm; have f5_ := f3_.symm; clear f1_ f2_ f3_; subst f4_; subst f5_))
   refine hK.out _ _ (((HB.out.cell (World.block_lt_of_cell? w _ hw126_0)).trans hw126_0)) (fun hHeld => ?_)
   clear hK K
   refine nz ?_
   refine oz 4 22 fun K hK => ?_
   refine gz Tryd.func20 #[.slice Ao9 t123.length co9, .string (rdOf ByteArray.empty l0 0)] ?_
   with_reducible refine (spec_l1Find.calls k _ _ t123 (rdOf ByteArray.empty l0 0) t127 _ ?side1 ?side2 A4.out).mono ?_
   (case side1 => repeat (first | exact (Kd.R_reads' HO125.out).2.2 | (with_reducible refine Kd.C_alloc ?_ _) | (with_reducible refine Kd.C_drewN ?_ _) | (with_reducible refine Kd.C_drew ?_)))
   (case side2 => exact (Kd.R_reads' HO125.out).2.1)
   rintro e w' ⟨rfl, ⟨nd, rfl⟩⟩
   refine ⟨_, rfl, ?_⟩
   refine hK.out _ _ (((HB.out.cell (World.block_lt_of_cell? w _ hw126_0)).trans hw126_0)) (fun hHeld => ?_)
   clear hK K
   refine nz ?_
   refine pz 5 23 ?_
   exact norm_ (by simp only [putAll, Act.put, List.setIfInBounds_toArray, List.set_cons_zero, List.set_cons_succ]) (hCont (.slice Ao9 t123.length co9, gb128) _ ⟨hHeld, (by (with_reducible repeat (first | apply Kd.R_alloc | apply Kd.R_drewN | apply Kd.R_drew)); exact HO125.out), (by exact bq BK122.out), (by exact bq BK128.out), GW128.out, GE128.out, NB122_128.out, NB128_122.out, zB⟩)
 rintro ⟨v124, gb128⟩ w10 ⟨hS_, h0_, h1_, h2_, h3_, h4_, h5_, h6_, h7_⟩
 have n0_ : Aside0 (Kd.R Kd.string 9 w10 w.heap.size (fun _ => True) v124 t123) := ⟨h0_⟩
 have n1_ : Aside0 (w10.heap[gb122]? = some (.cells #[.int .i64 0, .int .i64 0, .int .i64 0, .int .i64 0, .int .i64 0, .int .i64 0] 23 (0, 0))) := ⟨h1_⟩
 have n2_ : Aside0 (w10.heap[gb128]? = some (.cells #[.int .i64 0, .int .i64 0, .int .i64 0, .int .i64 0, .int .i64 0, .int .i64 0] 23 (0, 0))) := ⟨h2_⟩
 have n3_ : Aside0 (w.heap.size ≤ gb128) := ⟨h3_⟩
 have n4_ : Aside0 (w.heap.size ≤ gb128) := ⟨h4_⟩
 have n5_ : Aside0 (gb122 ≠ gb128) := ⟨h5_⟩
 have n6_ : Aside0 (gb128 ≠ gb122) := ⟨h6_⟩
 have n7_ : Aside0 (Below w.heap.size w w10) := ⟨h7_⟩
 clear BK122
 clear HB
 clear h0_ h1_ h2_ h3_ h4_ h5_ h6_ h7_
 have HO125 := n0_
 have BK122 := n1_
 have BK128 := n2_
 have GW128 := n3_
 have GE128 := n4_
 have NB122_128 := n5_
 have NB128_122 := n6_
 have HB := n7_
 clear n0_ n1_ n2_ n3_ n4_ n5_ n6_ n7_
 have hHeld : w10.cell? ad126 = some (.string (rdOf ByteArray.empty l0 0)) := hS_
 refine norm_ (a' := ?_) ?_ ?_
 rotate_left
 ·simp only [putAll, Act.put, List.setIfInBounds_toArray, List.set_cons_zero, List.set_cons_succ]
  rfl
 refine oN 7 fun K hK => ?_
 have hs11 : w10.cell? ⟨gb128, 0, none⟩ = some (.int .i64 0) := (blk_cell BK128.out 0).trans rfl
 have hfs11 := blk_frozen BK128.out 0
 have hns11_0 := NB122_128.out
 have hms11_0 := NB128_122.out
 have hs12 : w10.cell? ⟨gb128, 1, none⟩ = some (.int .i64 0) := (blk_cell BK128.out 1).trans rfl
 have hfs12 := blk_frozen BK128.out 1
 have hns12_0 := NB122_128.out
 have hms12_0 := NB128_122.out
 have hs13 : w10.cell? ⟨gb128, 2, none⟩ = some (.int .i64 0) := (blk_cell BK128.out 2).trans rfl
 have hfs13 := blk_frozen BK128.out 2
 have hns13_0 := NB122_128.out
 have hms13_0 := NB128_122.out
 have hs14 : w10.cell? ⟨gb128, 3, none⟩ = some (.int .i64 0) := (blk_cell BK128.out 3).trans rfl
 have hfs14 := blk_frozen BK128.out 3
 have hns14_0 := NB122_128.out
 have hms14_0 := NB128_122.out
 have hs15 : w10.cell? ⟨gb128, 4, none⟩ = some (.int .i64 0) := (blk_cell BK128.out 4).trans rfl
 have hfs15 := blk_frozen BK128.out 4
 have hns15_0 := NB122_128.out
 have hms15_0 := NB128_122.out
 have hs16 : w10.cell? ⟨gb128, 5, none⟩ = some (.int .i64 0) := (blk_cell BK128.out 5).trans rfl
 have hfs16 := blk_frozen BK128.out 5
 have hns16_0 := NB122_128.out
 have hms16_0 := NB128_122.out
 refine skip_ (w1 := ?_) (by rfl) rfl ?_ ?_
 rotate_left
 ·go_simp
  rfl
 refine hK.out _ _ (((cell_far (p := ⟨gb128, _, none⟩) (by first | exact Nat.ne_of_lt (Nat.lt_of_lt_of_le (by have := World.block_lt_of_cell? _ _ hw126_0; first | rwa [add_block] at this | exact this) GW128.out) | (rw [add_block]; exact Nat.ne_of_lt (Nat.lt_of_lt_of_le (by have := World.block_lt_of_cell? _ _ hw126_0; first | rwa [add_block] at this | exact this) GW128.out)) | (show (Addr.add _ _).block ≠ _; rw [add_block]; exact Nat.ne_of_lt (Nat.lt_of_lt_of_le (by have := World.block_lt_of_cell? _ _ hw126_0; first | rwa [add_block] at this | exact this) GW128.out)) | (dsimp only; exact Nat.ne_of_lt (Nat.lt_of_lt_of_le (by have := World.block_lt_of_cell? _ _ hw126_0; first | rwa [add_block] at this | exact this) GW128.out))) _).trans (((cell_far (p := ⟨gb128, _, none⟩) (by first | exact Nat.ne_of_lt (Nat.lt_of_lt_of_le (by have := World.block_lt_of_cell? _ _ hw126_0; first | rwa [add_block] at this | exact this) GW128.out) | (rw [add_block]; exact Nat.ne_of_lt (Nat.lt_of_lt_of_le (by have := World.block_lt_of_cell? _ _ hw126_0; first | rwa [add_block] at this | exact this) GW128.out)) | (show (Addr.add _ _).block ≠ _; rw [add_block]; exact Nat.ne_of_lt (Nat.lt_of_lt_of_le (by have := World.block_lt_of_cell? _ _ hw126_0; first | rwa [add_block] at this | exact this) GW128.out)) | (dsimp only; exact Nat.ne_of_lt (Nat.lt_of_lt_of_le (by have := World.block_lt_of_cell? _ _ hw126_0; first | rwa [add_block] at this | exact this) GW128.out))) _).trans (((cell_far (p := ⟨gb128, _, none⟩) (by first | exact Nat.ne_of_lt (Nat.lt_of_lt_of_le (by have := World.block_lt_of_cell? _ _ hw126_0; first | rwa [add_block] at this | exact this) GW128.out) | (rw [add_block]; exact Nat.ne_of_lt (Nat.lt_of_lt_of_le (by have := World.block_lt_of_cell? _ _ hw126_0; first | rwa [add_block] at this | exact this) GW128.out)) | (show (Addr.add _ _).block ≠ _; rw [add_block]; exact Nat.ne_of_lt (Nat.lt_of_lt_of_le (by have := World.block_lt_of_cell? _ _ hw126_0; first | rwa [add_block] at this | exact this) GW128.out)) | (dsimp only; exact Nat.ne_of_lt (Nat.lt_of_lt_of_le (by have := World.block_lt_of_cell? _ _ hw126_0; first | rwa [add_block] at this | exact this) GW128.out))) _).trans (((cell_far (p := ⟨gb128, _, none⟩) (by first | exact Nat.ne_of_lt (Nat.lt_of_lt_of_le (by have := World.block_lt_of_cell? _ _ hw126_0; first | rwa [add_block] at this | exact this) GW128.out) | (rw [add_block]; exact Nat.ne_of_lt (Nat.lt_of_lt_of_le (by have := World.block_lt_of_cell? _ _ hw126_0; first | rwa [add_block] at this | exact this) GW128.out)) | (show (Addr.add _ _).block ≠ _; rw [add_block]; exact Nat.ne_of_lt (Nat.lt_of_lt_of_le (by have := World.block_lt_of_cell? _ _ hw126_0; first | rwa [add_block] at this | exact this) GW128.out)) | (dsimp only; exact Nat.ne_of_lt (Nat.lt_of_lt_of_le (by have := World.block_lt_of_cell? _ _ hw126_0; first | rwa [add_block] at this | exact this) GW128.out))) _).trans (((cell_far (p := ⟨gb128, _, none⟩) (by first | exact Nat.ne_of_lt (Nat.lt_of_lt_of_le (by have := World.block_lt_of_cell? _ _ hw126_0; first | rwa [add_block] at this | exact this) GW128.out) | (rw [add_block]; exact Nat.ne_of_lt (Nat.lt_of_lt_of_le (by have := World.block_lt_of_cell? _ _ hw126_0; first | rwa [add_block] at this | exact this) GW128.out)) | (show (Addr.add _ _).block ≠ _; rw [add_block]; exact Nat.ne_of_lt (Nat.lt_of_lt_of_le (by have := World.block_lt_of_cell? _ _ hw126_0; first | rwa [add_block] at this | exact this) GW128.out)) | (dsimp only; exact Nat.ne_of_lt (Nat.lt_of_lt_of_le (by have := World.block_lt_of_cell? _ _ hw126_0; first | rwa [add_block] at this | exact this) GW128.out))) _).trans (((cell_far (p := ⟨gb128, _, none⟩) (by first | exact Nat.ne_of_lt (Nat.lt_of_lt_of_le (by have := World.block_lt_of_cell? _ _ hw126_0; first | rwa [add_block] at this | exact this) GW128.out) | (rw [add_block]; exact Nat.ne_of_lt (Nat.lt_of_lt_of_le (by have := World.block_lt_of_cell? _ _ hw126_0; first | rwa [add_block] at this | exact this) GW128.out)) | (show (Addr.add _ _).block ≠ _; rw [add_block]; exact Nat.ne_of_lt (Nat.lt_of_lt_of_le (by have := World.block_lt_of_cell? _ _ hw126_0; first | rwa [add_block] at this | exact this) GW128.out)) | (dsimp only; exact Nat.ne_of_lt (Nat.lt_of_lt_of_le (by have := World.block_lt_of_cell? _ _ hw126_0; first | rwa [add_block] at this | exact this) GW128.out))) _).trans (hHeld))))))))))))) (fun hHeld => ?_)
 clear hK K
 refine done_ (done_of HT_.out (by kernel_rfl)) ?_
 try go_wp2
 go_loopg [4] k (fun kq v4 w' => ∃ (x4_1 : Int) (x129000_1 : Int) (x129005_1 : Int), v4 = .int .i64 x4_1 ∧ Aside0 (spec_l1Read.l0 kq l0 x4_1 x129000_1 0 (-1) 0 0 x129005_1 = some (r1, r2, r3, r4, r5, r6)) ∧ Aside0 (kq ≤ k) ∧ Aside0 (w'.heap[gb122]? = some (.cells #[.int .i64 0, .int .i64 0, .int .i64 0, .int .i64 0, .int .i64 0, .int .i64 0] 23 (0, 0))) ∧ Aside0 (w'.heap[gb128]? = some (.cells #[.int .i64 x129000_1, .int .i64 0, .int .i64 (-1), .int .i64 0, .int .i64 0, .int .i64 x129005_1] 23 (0, 0))) ∧ Aside0 (Below w.heap.size w w'))
 case atStart => exact ⟨(1), (t127), (0), (by first | rfl | (simp; done) | (simp [*]; done)), H', ⟨Nat.le_refl _⟩, ⟨by refine fq ?_ NB122_128.out; refine fq ?_ NB122_128.out; refine fq ?_ NB122_128.out; refine fq ?_ NB122_128.out; refine fq ?_ NB122_128.out; refine fq ?_ NB122_128.out; exact bq BK122.out⟩, ⟨by refine bq ?_; refine blk_put (cs := #[.int .i64 t127, .int .i64 0, .int .i64 (-1), .int .i64 0, .int .i64 0, .int .i64 0]) ?_ 5 _ rfl; refine bq ?_; refine blk_put (cs := #[.int .i64 t127, .int .i64 0, .int .i64 (-1), .int .i64 0, .int .i64 0, .int .i64 0]) ?_ 4 _ rfl; refine bq ?_; refine blk_put (cs := #[.int .i64 t127, .int .i64 0, .int .i64 (-1), .int .i64 0, .int .i64 0, .int .i64 0]) ?_ 3 _ rfl; refine bq ?_; refine blk_put (cs := #[.int .i64 t127, .int .i64 0, .int .i64 0, .int .i64 0, .int .i64 0, .int .i64 0]) ?_ 2 _ rfl; refine bq ?_; refine blk_put (cs := #[.int .i64 t127, .int .i64 0, .int .i64 0, .int .i64 0, .int .i64 0, .int .i64 0]) ?_ 1 _ rfl; refine bq ?_; refine blk_put (cs := #[.int .i64 0, .int .i64 0, .int .i64 0, .int .i64 0, .int .i64 0, .int .i64 0]) ?_ 0 _ rfl; exact bq BK128.out⟩, ⟨zB⟩⟩
 case round =>
  clear H'
  try clear c1
  try clear p1
  try clear q1
  try clear hx1
  try clear qi1
  try clear c2
  try clear p2
  try clear c3
  try clear c3b0
  try clear c3b1
  try clear c11
  try clear p12
  try clear q12
  try clear hx12
  try clear qi12
  try clear hx126_0
  try clear p126
  try clear q126
  obtain ⟨x4_1, x129000_1, x129005_1, rfl, HA, HK1, BK122, BK128, HB⟩ := hrel
  cases gk with
  | zero => exact absurd HA.out (by simp [spec_l1Read.l0])
  | succ k1 =>
   have H := HA.out
   clear HA
   simp only [spec_l1Read.l0] at H
   by_cases c17 : x4_1 ≤ 4
   ·rw [if_pos c17] at H
    have c17b0 : decide (x4_1 ≤ 4) = true := decide_eq_true c17
    clear c17
    have HC18 := Aside0.mk H
    clear H
    go_upto_region 5 with (fail)
    go_cut [43] (fun v43 wc => ∃ (kq : Nat) (x43_17 : Bool), v43 = .bool x43_17 ∧ Aside0 (spec_l1Read.j1 kq l0 x4_1 x43_17 x129000_1 0 (-1) 0 0 x129005_1 = some (r1, r2, r3, r4, r5, r6)) ∧ Aside0 (kq ≤ k1) ∧ Aside0 (wc.heap[gb122]? = some (.cells #[.int .i64 0, .int .i64 0, .int .i64 0, .int .i64 0, .int .i64 0, .int .i64 0] 23 (0, 0))) ∧ Aside0 (wc.heap[gb128]? = some (.cells #[.int .i64 x129000_1, .int .i64 0, .int .i64 (-1), .int .i64 0, .int .i64 0, .int .i64 x129005_1] 23 (0, 0))) ∧ Aside0 (Below w.heap.size w wc))
    case first =>
     have H := HC18.out
     clear HC18
     by_cases c19 : 0 < (l0.length : Int)
     ·rw [if_pos c19] at H
      have c19b0 : decide (0 < (l0.length : Int)) = true := decide_eq_true c19
      have c19b1 : decide (0 < l0.length) = true := decide_eq_true (by omega)
      clear c19
      (first | rw [c19b0] | (simp only [i64_w, i32_w]; rw [c19b0]) | skip)
      replace H := Option.bind_eq_some_iff.mp H
      obtain ⟨t130, A200, H⟩ := H
      try dsimp only at H
      have A20 := Aside0.mk A200
      clear A200
      by_cases c21 : 4 + t130.size ≤ 9223372036854775807
      ·rw [if_pos c21] at H
       have c21b0 := eq_true c21
       have c21b1 : decide (4 + t130.size ≤ 9223372036854775807) = true := decide_eq_true c21
       try have c21b2 : (9223372036854775807 < 4 + t130.size) = False := eq_false (Nat.not_lt.2 c21)
       by_cases c22 : (rdOf ByteArray.empty l0 0).toList = ((⟨#[108, 111, 97, 100]⟩ : ByteArray) ++ t130).toList
       ·rw [if_pos c22] at H
        have c22b0 : ((rdOf ByteArray.empty l0 0).toList == ((⟨#[108, 111, 97, 100]⟩ : ByteArray) ++ t130).toList) = true := beq_iff_eq.mpr c22
        have c22b1 : ((rdOf ByteArray.empty l0 0).toList != ((⟨#[108, 111, 97, 100]⟩ : ByteArray) ++ t130).toList) = false := bne_eq_false_iff_eq.mpr c22
        clear c22
        have H' := Aside0.mk H
        clear H
        try go_wp2
        replace BK122 := Aside0.mk (blk_drew BK122.out)
        replace BK128 := Aside0.mk (blk_drew BK128.out)
        replace HB := Aside0.mk (below_drew1 HB.out)
        have p129 : 0 ≤ (0 : Int) := (by omega)
        have q129 : 0 < (l0.length : Int) := of_decide_eq_true (by first | (with_reducible assumption) | assumption)
        obtain ⟨ad129, e129, hx129_0⟩ := Kd.at_string HR0.out 0 p129 q129
        have hw129_0 := hx129_0
        (try rw [show ((0 : Int)).toNat = 0 from rfl] at hw129_0)
        (try rw [show 0 * 1 = 0 from rfl] at hw129_0)
        (try rw [Addr.add_zero'] at hw129_0)
        obtain rfl : ad126 = ad129 := (by injection e129)
        have qi129 : (0 < l0.length) = True := eq_true (by omega)
        (try rw [show ((0 : Int)).toNat = 0 from rfl] at hx129_0)
        (try rw [Addr.add_zero'] at hx129_0)
        replace hx129_0 := (HB.out.cell (World.block_lt_of_cell? w _ hx129_0)).trans hx129_0
        replace p129 := eq_true p129
        replace q129 := eq_true q129
        refine start_ (n := 16) (S := fun w' => w'.cell? ad126 = some (.string (rdOf ByteArray.empty l0 0))) (ds := []) #[false, false, false, false, false, false, false, false, false, false, false, false, false, false, false, false] (by kernel_rfl) rfl rfl (((HB.out.cell (World.block_lt_of_cell? w _ hw129_0)).trans hw129_0)) (fun hHeld => ?_); refine with_tabW spec_l1Read.tab5 spec_l1Read.bits5 (fun HT_ HW_ => ?_)
        generalize wr.drew = w23 at BK122 BK128 HB hx129_0 hHeld ⊢
        refine pz 0 28 ?_
        refine pz 1 29 ?_
        refine pz 3 31 ?_
        refine take_ (i := 2) (N := some 30) (v := ?_) (a' := ?_) #[true, true, true, true, false, false, false, false, false, false, false, false, false, false, false, false] rfl rfl (take_ofW HT_.out HW_.out (by kernel_rfl)) (fun _ _ _ h => h) (Or.inl ⟨by rfl, ?_⟩) hHeld ?_ ?_
        rotate_left
        ·intro w' s0
         go_simp
         with_reducible rfl
        rotate_left
        ·simp only [Act.put, List.setIfInBounds_toArray, List.set_cons_zero, List.set_cons_succ, i64_w, i32_w]
         rfl
        refine oz 4 32 fun K hK => ?_
        refine gz Tryd.func22 #[.int .i64 x4_1] ?_
        with_reducible refine (spec_l1Dec.calls k1 x4_1 t130 _ A20.out).mono ?_
        rintro e w24 ⟨rfl, hb⟩
        refine ⟨_, rfl, ?_⟩
        replace BK122 := zb BK122 hb rfl
        replace BK128 := zb BK128 hb rfl
        replace HB := zS hb
        try clear hb
        refine hK.out _ _ (((HB.out.cell (World.block_lt_of_cell? w _ hw129_0)).trans hw129_0)) (fun hHeld => ?_)
        clear hK K
        refine nz ?_
        refine pz 5 33 ?_
        refine pz 6 34 ?_
        refine pz 7 35 ?_
        refine uz 8 36 ?_
        refine uz 9 37 ?_
        refine uz 10 38 ?_
        refine uz 11 39 ?_
        refine uz 12 40 ?_
        refine uz 13 41 ?_
        refine uz 14 42 ?_
        refine pz 15 43 ?_
        refine done_ (done_of HT_.out (by kernel_rfl)) ?_
        as_aux_lemma =>
         try go_wp2
         go_meet
         case rel => exact ⟨_, (true), (by first | rfl | (simp; done) | (simp [*]; done)), H', ⟨by have := HK1.out; first | omega | exact Nat.le_refl _⟩, ⟨by exact bq BK122.out⟩, ⟨by exact bq BK128.out⟩, ⟨zB⟩⟩
       ·rw [if_neg c22] at H
        have c22b0 : ((rdOf ByteArray.empty l0 0).toList == ((⟨#[108, 111, 97, 100]⟩ : ByteArray) ++ t130).toList) = false := beq_eq_false_iff_ne.mpr c22
        have c22b1 : ((rdOf ByteArray.empty l0 0).toList != ((⟨#[108, 111, 97, 100]⟩ : ByteArray) ++ t130).toList) = true := bne_iff_ne.mpr c22
        replace H := Option.bind_eq_some_iff.mp H
        obtain ⟨t132, A250, H⟩ := H
        try dsimp only at H
        have A25 := Aside0.mk A250
        clear A250
        by_cases c26 : 5 + t132.size ≤ 9223372036854775807
        ·rw [if_pos c26] at H
         have c26b0 := eq_true c26
         have c26b1 : decide (5 + t132.size ≤ 9223372036854775807) = true := decide_eq_true c26
         try have c26b2 : (9223372036854775807 < 5 + t132.size) = False := eq_false (Nat.not_lt.2 c26)
         have H' := Aside0.mk H
         clear H
         as_aux_lemma =>
          try go_wp2
          replace BK122 := Aside0.mk (blk_drew BK122.out)
          replace BK128 := Aside0.mk (blk_drew BK128.out)
          replace HB := Aside0.mk (below_drew1 HB.out)
          have p129 : 0 ≤ (0 : Int) := (by omega)
          have q129 : 0 < (l0.length : Int) := of_decide_eq_true (by first | (with_reducible assumption) | assumption)
          obtain ⟨ad129, e129, hx129_0⟩ := Kd.at_string HR0.out 0 p129 q129
          have hw129_0 := hx129_0
          (try rw [show ((0 : Int)).toNat = 0 from rfl] at hw129_0)
          (try rw [show 0 * 1 = 0 from rfl] at hw129_0)
          (try rw [Addr.add_zero'] at hw129_0)
          obtain rfl : ad126 = ad129 := (by injection e129)
          have qi129 : (0 < l0.length) = True := eq_true (by omega)
          (try rw [show ((0 : Int)).toNat = 0 from rfl] at hx129_0)
          (try rw [Addr.add_zero'] at hx129_0)
          replace hx129_0 := (HB.out.cell (World.block_lt_of_cell? w _ hx129_0)).trans hx129_0
          replace p129 := eq_true p129
          replace q129 := eq_true q129
          have p131 : 0 ≤ (0 : Int) := (by omega)
          have q131 : 0 < (l0.length : Int) := of_decide_eq_true (by first | (with_reducible assumption) | assumption)
          obtain ⟨ad131, e131, hx131_0⟩ := Kd.at_string HR0.out 0 p131 q131
          have hw131_0 := hx131_0
          (try rw [show ((0 : Int)).toNat = 0 from rfl] at hw131_0)
          (try rw [show 0 * 1 = 0 from rfl] at hw131_0)
          (try rw [Addr.add_zero'] at hw131_0)
          obtain rfl : ad126 = ad131 := (by injection e131)
          have qi131 : (0 < l0.length) = True := eq_true (by omega)
          (try rw [show ((0 : Int)).toNat = 0 from rfl] at hx131_0)
          (try rw [Addr.add_zero'] at hx131_0)
          replace hx131_0 := (HB.out.cell (World.block_lt_of_cell? w _ hx131_0)).trans hx131_0
          replace p131 := eq_true p131
          replace q131 := eq_true q131
          refine start_ (n := 16) (S := fun w' => w'.cell? ad126 = some (.string (rdOf ByteArray.empty l0 0)) ∧ w'.cell? ad126 = some (.string (rdOf ByteArray.empty l0 0))) (ds := []) #[false, false, false, false, false, false, false, false, false, false, false, false, false, false, false, false] (by kernel_rfl) rfl rfl ⟨((HB.out.cell (World.block_lt_of_cell? w _ hw129_0)).trans hw129_0), ((HB.out.cell (World.block_lt_of_cell? w _ hw131_0)).trans hw131_0)⟩ (fun hHeld => ?_); refine with_tabW spec_l1Read.tab5 spec_l1Read.bits5 (fun HT_ HW_ => ?_)
          generalize wr.drew = w27 at BK122 BK128 HB hx129_0 hx131_0 hHeld ⊢
          refine pz 0 28 ?_
          refine pz 1 29 ?_
          refine pz 3 31 ?_
          refine tz 2 30 ?_
          refine oz 4 32 fun K hK => ?_
          refine gz Tryd.func22 #[.int .i64 x4_1] ?_
          with_reducible refine (spec_l1Dec.calls k1 x4_1 t130 _ A20.out).mono ?_
          rintro e w28 ⟨rfl, hb⟩
          refine ⟨_, rfl, ?_⟩
          replace BK122 := zb BK122 hb rfl
          replace BK128 := zb BK128 hb rfl
          replace HB := zS hb
          try clear hb
          refine hK.out _ _ ⟨((HB.out.cell (World.block_lt_of_cell? w _ hw129_0)).trans hw129_0), ((HB.out.cell (World.block_lt_of_cell? w _ hw131_0)).trans hw131_0)⟩ (fun hHeld => ?_)
          clear hK K
          refine nz ?_
          refine pz 5 33 ?_
          refine pz 6 34 ?_
          refine pz 7 35 ?_
          refine pz 8 36 ?_
          refine pz 9 37 ?_
          refine pz 11 39 ?_
          refine tz 10 38 ?_
          refine oz 12 40 fun K hK => ?_
          refine gz Tryd.func22 #[.int .i64 x4_1] ?_
          with_reducible refine (spec_l1Dec.calls k1 x4_1 t132 _ A25.out).mono ?_
          rintro e w29 ⟨rfl, hb⟩
          refine ⟨_, rfl, ?_⟩
          replace BK122 := zb BK122 hb rfl
          replace BK128 := zb BK128 hb rfl
          replace HB := zS hb
          try clear hb
          refine hK.out _ _ ⟨((HB.out.cell (World.block_lt_of_cell? w _ hw129_0)).trans hw129_0), ((HB.out.cell (World.block_lt_of_cell? w _ hw131_0)).trans hw131_0)⟩ (fun hHeld => ?_)
          clear hK K
          refine nz ?_
          refine pz 13 41 ?_
          refine pz 14 42 ?_
          refine pz 15 43 ?_
          refine done_ (done_of HT_.out (by kernel_rfl)) ?_
          try go_wp2
          go_meet
          case rel => exact ⟨_, (((rdOf ByteArray.empty l0 0).toList == ((⟨#[115, 116, 111, 114, 101]⟩ : ByteArray) ++ t132).toList)), (by first | rfl | (simp; done) | (simp [*]; done)), H', ⟨by have := HK1.out; first | omega | exact Nat.le_refl _⟩, ⟨by exact bq BK122.out⟩, ⟨by exact bq BK128.out⟩, ⟨zB⟩⟩
        ·rw [if_neg c26] at H
         exact absurd H (by simp)
      ·rw [if_neg c21] at H
       exact absurd H (by simp)
     ·rw [if_neg c19] at H
      exact absurd H (by simp)
    case rest =>
     clear HC18
     try clear c1
     try clear p1 p1
     try clear q1 q1
     try clear hx1
     try clear qi1
     try clear c2
     try clear p2 p2
     try clear c3
     try clear c3b0
     try clear c3b1
     try clear c11
     try clear p12 p12
     try clear q12 q12
     try clear hx12
     try clear qi12
     try clear p13
     try clear q13
     try clear hx13
     try clear qi13
     try clear c17
     try clear c17b0
     try clear c19
     try clear c19b0
     try clear c19b1
     try clear c20
     try clear c21
     try clear c21b0
     try clear c21b1
     try clear c21b2
     try clear c22
     try clear c22b0
     try clear c22b1
     try clear c26
     try clear c26b0
     try clear c26b1
     try clear c26b2
     try clear hx126_0
     try clear hx129_0
     try clear hx131_0
     try clear p126
     try clear p129
     try clear p131
     try clear q126
     try clear q129
     try clear q131
     obtain ⟨kq, x43_17, rfl, HA, HJ17, BK122, BK128, HB⟩ := hcut
     cases kq with
     | zero => exact absurd HA.out (by simp [spec_l1Read.j1])
     | succ kj17 =>
      have H := HA.out
      clear HA
      simp only [spec_l1Read.j1] at H
      by_cases c30 : x43_17 = true
      ·subst c30
       rw [if_pos rfl] at H
       replace H := Option.bind_eq_some_iff.mp H
       obtain ⟨t133, A310, H⟩ := H
       try dsimp only at H
       have A31 := Aside0.mk A310
       clear A310
       by_cases c32 : 0 < (l0.length : Int)
       ·rw [if_pos c32] at H
        have c32b0 : decide (0 < (l0.length : Int)) = true := decide_eq_true c32
        have c32b1 : decide (0 < l0.length) = true := decide_eq_true (by omega)
        clear c32
        obtain ⟨ji33, hji33⟩ : ∃ j_ : Int, (wrap64 (((rdOf ByteArray.empty l0 0).size : Int) - 1)) = j_ := ⟨_, rfl⟩
        replace H : (if 0 ≤ (ji33) then (if (ji33) ≤ ((rdOf ByteArray.empty l0 0).size : Int) then ((spec_l1Find.f kj17 t133 ((rdOf ByteArray.empty l0 0).extract 0 ((ji33) : Int).toNat)).bind fun t138 => (spec_l1Read.l0 kj17 l0 (wrap64 (x4_1 * 2)) t138 0 (-1) 0 0 x4_1)) else (none)) else (none)) = some (r1, r2, r3, r4, r5, r6) := by first | (rw [hji33] at H; exact H) | (simp only [hji33] at H ⊢; exact H)
        (try rw [hji33] at A31)
        have hji33w : (IntKind.i64.wrap (((rdOf ByteArray.empty l0 0).size : Int) - 1)) = ji33 := (i64_w _).trans hji33
        by_cases c34 : 0 ≤ (ji33)
        ·rw [if_pos c34] at H
         have c34b0 := eq_true c34
         have c34b1 : decide (0 ≤ (ji33)) = true := decide_eq_true c34
         clear c34
         by_cases c35 : (ji33) ≤ ((rdOf ByteArray.empty l0 0).size : Int)
         ·rw [if_pos c35] at H
          have c35b0 := eq_true c35
          have c35b1 : decide ((ji33) ≤ ((rdOf ByteArray.empty l0 0).size : Int)) = true := decide_eq_true c35
          clear c35
          replace H := Option.bind_eq_some_iff.mp H
          obtain ⟨t138, A360, H⟩ := H
          try dsimp only at H
          have A36 := Aside0.mk A360
          clear A360
          have H' := Aside0.mk H
          clear H
          try go_wp2
          replace BK122 := Aside0.mk (blk_drew BK122.out)
          replace BK128 := Aside0.mk (blk_drew BK128.out)
          replace HB := Aside0.mk (below_drew1 HB.out)
          have p136 : 0 ≤ (0 : Int) := (by omega)
          have q136 : 0 < (l0.length : Int) := of_decide_eq_true (by first | (with_reducible assumption) | assumption)
          obtain ⟨ad136, e136, hx136_0⟩ := Kd.at_string HR0.out 0 p136 q136
          have hw136_0 := hx136_0
          (try rw [show ((0 : Int)).toNat = 0 from rfl] at hw136_0)
          (try rw [show 0 * 1 = 0 from rfl] at hw136_0)
          (try rw [Addr.add_zero'] at hw136_0)
          obtain rfl : ad126 = ad136 := (by injection e136)
          have qi136 : (0 < l0.length) = True := eq_true (by omega)
          (try rw [show ((0 : Int)).toNat = 0 from rfl] at hx136_0)
          (try rw [Addr.add_zero'] at hx136_0)
          replace hx136_0 := (HB.out.cell (World.block_lt_of_cell? w _ hx136_0)).trans hx136_0
          replace p136 := eq_true p136
          replace q136 := eq_true q136
          have p137 : 0 ≤ (0 : Int) := (by omega)
          have q137 : 0 < (l0.length : Int) := of_decide_eq_true (by first | (with_reducible assumption) | assumption)
          obtain ⟨ad137, e137, hx137_0⟩ := Kd.at_string HR0.out 0 p137 q137
          have hw137_0 := hx137_0
          (try rw [show ((0 : Int)).toNat = 0 from rfl] at hw137_0)
          (try rw [show 0 * 1 = 0 from rfl] at hw137_0)
          (try rw [Addr.add_zero'] at hw137_0)
          obtain rfl : ad126 = ad137 := (by injection e137)
          have qi137 : (0 < l0.length) = True := eq_true (by omega)
          (try rw [show ((0 : Int)).toNat = 0 from rfl] at hx137_0)
          (try rw [Addr.add_zero'] at hx137_0)
          replace hx137_0 := (HB.out.cell (World.block_lt_of_cell? w _ hx137_0)).trans hx137_0
          replace p137 := eq_true p137
          replace q137 := eq_true q137
          refine start_ (n := 13) (S := fun w' => w'.cell? ad126 = some (.string (rdOf ByteArray.empty l0 0)) ∧ w'.cell? ad126 = some (.string (rdOf ByteArray.empty l0 0))) (ds := []) #[false, false, false, false, false, false, false, false, false, false, false, false, false] (by kernel_rfl) rfl rfl ⟨((HB.out.cell (World.block_lt_of_cell? w _ hw136_0)).trans hw136_0), ((HB.out.cell (World.block_lt_of_cell? w _ hw137_0)).trans hw137_0)⟩ (fun hHeld => ?_); refine with_tabW spec_l1Read.tab6 spec_l1Read.bits6 (fun HT_ HW_ => ?_)
          generalize wc.drew = w37 at BK122 BK128 HB hx136_0 hx137_0 hHeld ⊢
          refine pz 1 45 ?_
          refine pz 2 46 ?_
          refine pz 4 48 ?_
          refine pz 5 49 ?_
          refine tz 3 47 ?_
          refine tz 6 50 ?_
          refine pz 7 51 ?_
          refine pz 8 52 ?_
          refine pz 9 53 ?_
          refine oz 0 44 fun K hK => ?_
          refine gz Tryd.func21 #[] ?_
          with_reducible refine (spec_l1Words.calls  t133 _ A31.out).mono ?_
          rintro e w38 ⟨v134, rfl, ho0, hb⟩
          refine ⟨_, rfl, ?_⟩
          have HO135 := Aside0.mk (Kd.R_lower ho0 (below_size zB))
          replace BK122 := zb BK122 hb rfl
          replace BK128 := zb BK128 hb rfl
          replace HB := zS hb
          (try clear hb)
          (try clear hb2)
          (try clear hk)
          (try clear hi)
          (try clear ho0)
          obtain ⟨Ao39, co39, eo39⟩ := Kd.R_slice HO135.out
          (first | subst eo39 | (injection eo39 with f1_ f2_ f3_; have f4_ := f1_.symm; have f5_ := f3_.symm; clear f1_ f2_ f3_; subst f4_; subst f5_))
          refine hK.out _ _ ⟨((HB.out.cell (World.block_lt_of_cell? w _ hw136_0)).trans hw136_0), ((HB.out.cell (World.block_lt_of_cell? w _ hw137_0)).trans hw137_0)⟩ (fun hHeld => ?_)
          clear hK K
          refine nz ?_
          refine oz 10 54 fun K hK => ?_
          refine goes_ Tryd.func20 (by kernel_rfl) rfl #[.slice Ao39 t133.length co39, .string ((rdOf ByteArray.empty l0 0).extract 0 ((ji33) : Int).toNat)] (by rfl) rfl rfl (by (try simp only [List.map_toArray, List.map_cons, List.map_nil]); first | done | (simp only [hji33]; rfl) | rfl | (simp only [List.length_drop, List.length_take]; rfl)) ?_
          with_reducible refine (spec_l1Find.calls kj17 _ _ t133 ((rdOf ByteArray.empty l0 0).extract 0 ((ji33) : Int).toNat) t138 _ ?side1 ?side2 A36.out).mono ?_
          (case side1 => repeat (first | exact (Kd.R_reads' HO135.out).2.2 | (with_reducible refine Kd.C_alloc ?_ _) | (with_reducible refine Kd.C_drewN ?_ _) | (with_reducible refine Kd.C_drew ?_)))
          (case side2 => exact (Kd.R_reads' HO135.out).2.1)
          rintro e w' ⟨rfl, ⟨nd, rfl⟩⟩
          refine ⟨_, rfl, ?_⟩
          refine hK.out _ _ ⟨((HB.out.cell (World.block_lt_of_cell? w _ hw136_0)).trans hw136_0), ((HB.out.cell (World.block_lt_of_cell? w _ hw137_0)).trans hw137_0)⟩ (fun hHeld => ?_)
          clear hK K
          refine nz ?_
          refine pz 11 55 ?_
          refine oN 12 fun K hK => ?_
          have hs40 : w38.cell? ⟨gb128, 0, none⟩ = some (.int .i64 x129000_1) := (blk_cell BK128.out 0).trans rfl
          have hfs40 := blk_frozen BK128.out 0
          have hns40_0 := NB122_128.out
          have hms40_0 := NB128_122.out
          refine skip_ (w1 := ?_) (by rfl) rfl ?_ ?_
          rotate_left
          ·go_simp
           rfl
          refine hK.out _ _ ⟨((cell_far (p := ⟨gb128, _, none⟩) (by first | exact Nat.ne_of_lt (Nat.lt_of_lt_of_le (by have := World.block_lt_of_cell? _ _ hw136_0; first | rwa [add_block] at this | exact this) GW128.out) | (rw [add_block]; exact Nat.ne_of_lt (Nat.lt_of_lt_of_le (by have := World.block_lt_of_cell? _ _ hw136_0; first | rwa [add_block] at this | exact this) GW128.out)) | (show (Addr.add _ _).block ≠ _; rw [add_block]; exact Nat.ne_of_lt (Nat.lt_of_lt_of_le (by have := World.block_lt_of_cell? _ _ hw136_0; first | rwa [add_block] at this | exact this) GW128.out)) | (dsimp only; exact Nat.ne_of_lt (Nat.lt_of_lt_of_le (by have := World.block_lt_of_cell? _ _ hw136_0; first | rwa [add_block] at this | exact this) GW128.out))) _).trans (hHeld.1)), ((cell_far (p := ⟨gb128, _, none⟩) (by first | exact Nat.ne_of_lt (Nat.lt_of_lt_of_le (by have := World.block_lt_of_cell? _ _ hw137_0; first | rwa [add_block] at this | exact this) GW128.out) | (rw [add_block]; exact Nat.ne_of_lt (Nat.lt_of_lt_of_le (by have := World.block_lt_of_cell? _ _ hw137_0; first | rwa [add_block] at this | exact this) GW128.out)) | (show (Addr.add _ _).block ≠ _; rw [add_block]; exact Nat.ne_of_lt (Nat.lt_of_lt_of_le (by have := World.block_lt_of_cell? _ _ hw137_0; first | rwa [add_block] at this | exact this) GW128.out)) | (dsimp only; exact Nat.ne_of_lt (Nat.lt_of_lt_of_le (by have := World.block_lt_of_cell? _ _ hw137_0; first | rwa [add_block] at this | exact this) GW128.out))) _).trans (hHeld.2))⟩ (fun hHeld => ?_)
          clear hK K
          refine done_ (done_of HT_.out (by kernel_rfl)) ?_
          have hnb41 := NB128_122.out
          have hnc41 := NB122_128.out
          obtain ⟨hcz42_0, hcz42_1, hcz42_2, hcz42_3, hcz42_4, hcz42_5, hfz42_0, hfz42_1, hfz42_2, hfz42_3, hfz42_4, hfz42_5⟩ := zc6 BK128
          try go_wp2
          go_roundg kj17
          case measure => have := HK1.out; have := HJ17.out; omega
          case rel => exact ⟨(wrap64 (x4_1 * 2)), (t138), (x4_1), (by first | rfl | (simp; done) | (simp [*]; done)), H', ⟨by have := HK1.out; have := HJ17.out; omega⟩, ⟨by refine fq ?_ NB122_128.out; refine fq ?_ NB122_128.out; exact bq BK122.out⟩, ⟨by refine bq ?_; refine blk_put (cs := #[.int .i64 t138, .int .i64 0, .int .i64 (-1), .int .i64 0, .int .i64 0, .int .i64 x129005_1]) ?_ 5 _ rfl; refine bq ?_; refine blk_put (cs := #[.int .i64 x129000_1, .int .i64 0, .int .i64 (-1), .int .i64 0, .int .i64 0, .int .i64 x129005_1]) ?_ 0 _ rfl; exact bq BK128.out⟩, ⟨zB⟩⟩
         ·rw [if_neg c35] at H
          exact absurd H (by simp)
        ·rw [if_neg c34] at H
         exact absurd H (by simp)
       ·rw [if_neg c32] at H
        exact absurd H (by simp)
      ·replace c30 := Bool.eq_false_iff.mpr c30
       subst c30
       rw [if_neg (show ¬ (false = true) by decide)] at H
       have H' := Aside0.mk H
       clear H
       go_wp2
       go_roundg kj17
       case measure => have := HK1.out; have := HJ17.out; omega
       case rel => exact ⟨(wrap64 (x4_1 * 2)), (x129000_1), (x129005_1), (by first | rfl | (simp; done) | (simp [*]; done)), H', ⟨by have := HK1.out; have := HJ17.out; omega⟩, ⟨by exact bq BK122.out⟩, ⟨by exact bq BK128.out⟩, ⟨zB⟩⟩
   ·rw [if_neg c17] at H
    have c17b0 : decide (x4_1 ≤ 4) = false := decide_eq_false c17
    clear c17
    have HC43 := Aside0.mk H
    clear H
    go_upto_region 9 with (fail)
    go_cut [60] (fun v60 wc => ∃ (kq : Nat) (x60_42 : Bool), v60 = .bool x60_42 ∧ Aside0 (spec_l1Read.j2 kq l0 (l0.length : Int) x60_42 x129000_1 0 (-1) 0 0 x129005_1 = some (r1, r2, r3, r4, r5, r6)) ∧ Aside0 (kq ≤ k1) ∧ Aside0 (wc.heap[gb122]? = some (.cells #[.int .i64 0, .int .i64 0, .int .i64 0, .int .i64 0, .int .i64 0, .int .i64 0] 23 (0, 0))) ∧ Aside0 (wc.heap[gb128]? = some (.cells #[.int .i64 x129000_1, .int .i64 0, .int .i64 (-1), .int .i64 0, .int .i64 0, .int .i64 x129005_1] 23 (0, 0))) ∧ Aside0 (Below w.heap.size w wc))
    case first =>
     have H := HC43.out
     clear HC43
     replace H := Option.bind_eq_some_iff.mp H
     obtain ⟨t139, A440, H⟩ := H
     try dsimp only at H
     have A44 := Aside0.mk A440
     clear A440
     by_cases c45 : t139 = true
     ·subst c45
      rw [if_pos rfl] at H
      by_cases c46 : (l0.length : Int) = 3
      ·rw [if_pos c46] at H
       have c46b0 : ((l0.length : Int) == 3) = true := beq_iff_eq.mpr c46
       have c46b1 : ((l0.length : Int) != 3) = false := bne_eq_false_iff_eq.mpr c46
       clear c46
       (first | rw [c46b0] | (simp only [i64_w, i32_w]; rw [c46b0]) | skip)
       have H' := Aside0.mk H
       clear H
       have hnb47 := NB128_122.out
       have hnc47 := NB122_128.out
       obtain ⟨hcz48_0, hcz48_1, hcz48_2, hcz48_3, hcz48_4, hcz48_5, hfz48_0, hfz48_1, hfz48_2, hfz48_3, hfz48_4, hfz48_5⟩ := zc6 BK128
       as_aux_lemma =>
        go_wp2_with (first | ((with_reducible refine gate_callee (f := 23) rfl ?_); refine gl 63 Tryd.func23 #[.int .i64 x129000_1] ?_; (with_reducible refine (spec_l1Alu.calls x129000_1 true _ A44.out).mono ?_); rintro e w' ⟨rfl, ⟨nd, rfl⟩⟩; refine ⟨_, rfl, ?_⟩))
        go_meet
        case rel => exact ⟨_, (true), (by first | rfl | (simp; done) | (simp [*]; done)), H', ⟨by have := HK1.out; first | omega | exact Nat.le_refl _⟩, ⟨by exact bq BK122.out⟩, ⟨by exact bq BK128.out⟩, ⟨zB⟩⟩
      ·rw [if_neg c46] at H
       have c46b0 : ((l0.length : Int) == 3) = false := beq_eq_false_iff_ne.mpr c46
       have c46b1 : ((l0.length : Int) != 3) = true := bne_iff_ne.mpr c46
       (first | rw [c46b0] | (simp only [i64_w, i32_w]; rw [c46b0]) | skip)
       replace H := Option.bind_eq_some_iff.mp H
       obtain ⟨t140, A490, H⟩ := H
       try dsimp only at H
       have A49 := Aside0.mk A490
       clear A490
       by_cases c50 : t140 = true
       ·subst c50
        rw [if_pos rfl] at H
        have H' := Aside0.mk H
        clear H
        have hnb51 := NB128_122.out
        have hnc51 := NB122_128.out
        obtain ⟨hcz52_0, hcz52_1, hcz52_2, hcz52_3, hcz52_4, hcz52_5, hfz52_0, hfz52_1, hfz52_2, hfz52_3, hfz52_4, hfz52_5⟩ := zc6 BK128
        as_aux_lemma =>
         go_wp2_with (first | ((with_reducible refine gate_callee (f := 23) rfl ?_); refine gl 63 Tryd.func23 #[.int .i64 x129000_1] ?_; (with_reducible refine (spec_l1Alu.calls x129000_1 true _ A44.out).mono ?_); rintro e w' ⟨rfl, ⟨nd, rfl⟩⟩; refine ⟨_, rfl, ?_⟩) | (go_at_call 24; (with_reducible refine (spec_l1Jump.calls x129000_1 true _ A49.out).mono ?_); rintro e w' ⟨rfl, ⟨nd, rfl⟩⟩))
         go_meet
         case rel => exact ⟨_, (((l0.length : Int) == 4)), (by first | rfl | (simp; done) | (simp [*]; done)), H', ⟨by have := HK1.out; first | omega | exact Nat.le_refl _⟩, ⟨by exact bq BK122.out⟩, ⟨by exact bq BK128.out⟩, ⟨zB⟩⟩
       ·replace c50 := Bool.eq_false_iff.mpr c50
        subst c50
        rw [if_neg (show ¬ (false = true) by decide)] at H
        have H' := Aside0.mk H
        clear H
        have hnb53 := NB128_122.out
        have hnc53 := NB122_128.out
        obtain ⟨hcz54_0, hcz54_1, hcz54_2, hcz54_3, hcz54_4, hcz54_5, hfz54_0, hfz54_1, hfz54_2, hfz54_3, hfz54_4, hfz54_5⟩ := zc6 BK128
        as_aux_lemma =>
         go_wp2_with (first | ((with_reducible refine gate_callee (f := 23) rfl ?_); refine gl 63 Tryd.func23 #[.int .i64 x129000_1] ?_; (with_reducible refine (spec_l1Alu.calls x129000_1 true _ A44.out).mono ?_); rintro e w' ⟨rfl, ⟨nd, rfl⟩⟩; refine ⟨_, rfl, ?_⟩) | (go_at_call 24; (with_reducible refine (spec_l1Jump.calls x129000_1 false _ A49.out).mono ?_); rintro e w' ⟨rfl, ⟨nd, rfl⟩⟩))
         go_meet
         case rel => exact ⟨_, (false), (by first | rfl | (simp; done) | (simp [*]; done)), H', ⟨by have := HK1.out; first | omega | exact Nat.le_refl _⟩, ⟨by exact bq BK122.out⟩, ⟨by exact bq BK128.out⟩, ⟨zB⟩⟩
     ·replace c45 := Bool.eq_false_iff.mpr c45
      subst c45
      rw [if_neg (show ¬ (false = true) by decide)] at H
      replace H := Option.bind_eq_some_iff.mp H
      obtain ⟨t141, A550, H⟩ := H
      try dsimp only at H
      have A55 := Aside0.mk A550
      clear A550
      by_cases c56 : t141 = true
      ·subst c56
       rw [if_pos rfl] at H
       have H' := Aside0.mk H
       clear H
       have hnb57 := NB128_122.out
       have hnc57 := NB122_128.out
       obtain ⟨hcz58_0, hcz58_1, hcz58_2, hcz58_3, hcz58_4, hcz58_5, hfz58_0, hfz58_1, hfz58_2, hfz58_3, hfz58_4, hfz58_5⟩ := zc6 BK128
       as_aux_lemma =>
        go_wp2_with (first | ((with_reducible refine gate_callee (f := 23) rfl ?_); refine gl 63 Tryd.func23 #[.int .i64 x129000_1] ?_; (with_reducible refine (spec_l1Alu.calls x129000_1 false _ A44.out).mono ?_); rintro e w' ⟨rfl, ⟨nd, rfl⟩⟩; refine ⟨_, rfl, ?_⟩) | (go_at_call 24; (with_reducible refine (spec_l1Jump.calls x129000_1 true _ A55.out).mono ?_); rintro e w' ⟨rfl, ⟨nd, rfl⟩⟩))
        go_meet
        case rel => exact ⟨_, (((l0.length : Int) == 4)), (by first | rfl | (simp; done) | (simp [*]; done)), H', ⟨by have := HK1.out; first | omega | exact Nat.le_refl _⟩, ⟨by exact bq BK122.out⟩, ⟨by exact bq BK128.out⟩, ⟨zB⟩⟩
      ·replace c56 := Bool.eq_false_iff.mpr c56
       subst c56
       rw [if_neg (show ¬ (false = true) by decide)] at H
       have H' := Aside0.mk H
       clear H
       have hnb59 := NB128_122.out
       have hnc59 := NB122_128.out
       obtain ⟨hcz60_0, hcz60_1, hcz60_2, hcz60_3, hcz60_4, hcz60_5, hfz60_0, hfz60_1, hfz60_2, hfz60_3, hfz60_4, hfz60_5⟩ := zc6 BK128
       as_aux_lemma =>
        go_wp2_with (first | ((with_reducible refine gate_callee (f := 23) rfl ?_); refine gl 63 Tryd.func23 #[.int .i64 x129000_1] ?_; (with_reducible refine (spec_l1Alu.calls x129000_1 false _ A44.out).mono ?_); rintro e w' ⟨rfl, ⟨nd, rfl⟩⟩; refine ⟨_, rfl, ?_⟩) | (go_at_call 24; (with_reducible refine (spec_l1Jump.calls x129000_1 false _ A55.out).mono ?_); rintro e w' ⟨rfl, ⟨nd, rfl⟩⟩))
        go_meet
        case rel => exact ⟨_, (false), (by first | rfl | (simp; done) | (simp [*]; done)), H', ⟨by have := HK1.out; first | omega | exact Nat.le_refl _⟩, ⟨by exact bq BK122.out⟩, ⟨by exact bq BK128.out⟩, ⟨zB⟩⟩
    case rest =>
     clear HC43
     try clear c1
     try clear p1 p1
     try clear q1 q1
     try clear hx1
     try clear qi1
     try clear c2
     try clear p2 p2
     try clear c3
     try clear c3b0
     try clear c3b1
     try clear c4
     try clear c5
     try clear p6
     try clear c11
     try clear p12 p12
     try clear q12 q12
     try clear hx12
     try clear qi12
     try clear p13 p13
     try clear q13 q13
     try clear hx13
     try clear qi13
     try clear c17
     try clear c17b0
     try clear c19
     try clear c19b0
     try clear c19b1
     try clear c20
     try clear c21
     try clear c21b0
     try clear c21b1
     try clear c21b2
     try clear c22
     try clear c22b0
     try clear c22b1
     try clear c23
     try clear c26
     try clear c26b0
     try clear c26b1
     try clear c26b2
     try clear c30
     try clear c32
     try clear c32b0
     try clear c32b1
     try clear c34
     try clear c34b0
     try clear c34b1
     try clear c35
     try clear c35b0
     try clear c35b1
     try clear c41
     try clear c45
     try clear c46
     try clear c46b0
     try clear c46b1
     try clear c47
     try clear c50
     try clear c51
     try clear c53
     try clear c56
     try clear c57
     try clear c59
     try clear hcz42_0 hcz42_1 hcz42_2 hcz42_3 hcz42_4 hcz42_5 hfz42_0 hfz42_1 hfz42_2 hfz42_3 hfz42_4 hfz42_5
     try clear hcz48_0 hcz48_1 hcz48_2 hcz48_3 hcz48_4 hcz48_5 hfz48_0 hfz48_1 hfz48_2 hfz48_3 hfz48_4 hfz48_5
     try clear hcz52_0 hcz52_1 hcz52_2 hcz52_3 hcz52_4 hcz52_5 hfz52_0 hfz52_1 hfz52_2 hfz52_3 hfz52_4 hfz52_5
     try clear hcz54_0 hcz54_1 hcz54_2 hcz54_3 hcz54_4 hcz54_5 hfz54_0 hfz54_1 hfz54_2 hfz54_3 hfz54_4 hfz54_5
     try clear hcz58_0 hcz58_1 hcz58_2 hcz58_3 hcz58_4 hcz58_5 hfz58_0 hfz58_1 hfz58_2 hfz58_3 hfz58_4 hfz58_5
     try clear hcz60_0 hcz60_1 hcz60_2 hcz60_3 hcz60_4 hcz60_5 hfz60_0 hfz60_1 hfz60_2 hfz60_3 hfz60_4 hfz60_5
     try clear hx126_0
     try clear hx129_0
     try clear hx131_0
     try clear hx136_0
     try clear hx137_0
     try clear p126
     try clear p129
     try clear p131
     try clear p136
     try clear p137
     try clear q126
     try clear q129
     try clear q131
     try clear q136
     try clear q137
     obtain ⟨kq, x60_42, rfl, HA, HJ42, BK122, BK128, HB⟩ := hcut
     cases kq with
     | zero => exact absurd HA.out (by simp [spec_l1Read.j2])
     | succ kj42 =>
      have H := HA.out
      clear HA
      simp only [spec_l1Read.j2] at H
      by_cases c61 : x60_42 = true
      ·subst c61
       rw [if_pos rfl] at H
       by_cases c62 : 1 < (l0.length : Int)
       ·rw [if_pos c62] at H
        have c62b0 : decide (1 < (l0.length : Int)) = true := decide_eq_true c62
        have c62b1 : decide (1 < l0.length) = true := decide_eq_true (by omega)
        clear c62
        replace H := Option.bind_eq_some_iff.mp H
        obtain ⟨⟨t143, t144⟩, A630, H⟩ := H
        try dsimp only at H
        have A63 := Aside0.mk A630
        clear A630
        by_cases c64 : 2 < (l0.length : Int)
        ·rw [if_pos c64] at H
         have c64b0 : decide (2 < (l0.length : Int)) = true := decide_eq_true c64
         have c64b1 : decide (2 < l0.length) = true := decide_eq_true (by omega)
         clear c64
         replace H := Option.bind_eq_some_iff.mp H
         obtain ⟨⟨t146, t147⟩, A650, H⟩ := H
         try dsimp only at H
         have A65 := Aside0.mk A650
         clear A650
         by_cases c66 : (l0.length : Int) = 4
         ·rw [if_pos c66] at H
          have c66b0 : ((l0.length : Int) == 4) = true := beq_iff_eq.mpr c66
          have c66b1 : ((l0.length : Int) != 4) = false := bne_eq_false_iff_eq.mpr c66
          clear c66
          by_cases c67 : 3 < (l0.length : Int)
          ·rw [if_pos c67] at H
           have c67b0 : decide (3 < (l0.length : Int)) = true := decide_eq_true c67
           have c67b1 : decide (3 < l0.length) = true := decide_eq_true (by omega)
           clear c67
           replace H := Option.bind_eq_some_iff.mp H
           obtain ⟨t149, A680, H⟩ := H
           try dsimp only at H
           have A68 := Aside0.mk A680
           clear A680
           simp only [Option.some.injEq, Prod.mk.injEq] at H
           obtain ⟨rfl, rfl, rfl, rfl, rfl, rfl⟩ := H
           have p142 : 0 ≤ (1 : Int) := (by omega)
           have q142 : 1 < (l0.length : Int) := of_decide_eq_true (by first | (with_reducible assumption) | assumption)
           obtain ⟨ad142, e142, hx142_0⟩ := Kd.at_string HR0.out 1 p142 q142
           obtain rfl : ad126 = ad142 := (by injection e142)
           (try simp only [show (1 : Int).toNat = 1 from rfl, Nat.reduceMul, Nat.reduceEqDiff, Go.Addr.add, ↓reduceIte] at hx142_0)
           have qi142 : (1 < l0.length) = True := eq_true (by omega)
           (try rw [show ((1 : Int)).toNat = 1 from rfl] at hx142_0)
           replace hx142_0 := (HB.out.cell (World.block_lt_of_cell? w _ hx142_0)).trans hx142_0
           replace p142 := eq_true p142
           replace q142 := eq_true q142
           go_wp2_with (first | ((with_reducible refine gate_callee (f := 25) rfl ?_); refine gl 81 Tryd.func25 #[.string (rdOf ByteArray.empty l0 1)] ?_; (with_reducible refine (spec_l1ReadReg.calls kj42 (rdOf ByteArray.empty l0 1) t143 t144 _ A63.out).mono ?_); rintro e w' ⟨rfl, ⟨nd, rfl⟩⟩; refine ⟨_, rfl, ?_⟩; (try (rw [drewN_self wc]; generalize hq_ : World.drewN wc _ = wc; have n0_ : Aside0 (wc.heap[gb122]? = some (.cells #[.int .i64 0, .int .i64 0, .int .i64 0, .int .i64 0, .int .i64 0, .int .i64 0] 23 (0, 0))) := ⟨by rw [← hq_]; exact (by exact bq BK122.out)⟩; have n1_ : Aside0 (wc.heap[gb128]? = some (.cells #[.int .i64 x129000_1, .int .i64 0, .int .i64 (-1), .int .i64 0, .int .i64 0, .int .i64 x129005_1] 23 (0, 0))) := ⟨by rw [← hq_]; exact (by exact bq BK128.out)⟩; have n2_ : Aside0 (Below w.heap.size w wc) := ⟨by rw [← hq_]; exact zB⟩; clear BK122 BK128 HB hq_; have BK122 := n0_; have BK128 := n1_; have HB := n2_; clear n0_ n1_ n2_)); have p145 : 0 ≤ (2 : Int) := (by omega); have q145 : 2 < (l0.length : Int) := of_decide_eq_true (by first | (with_reducible assumption) | assumption); obtain ⟨ad145, e145, hx145_0⟩ := Kd.at_string HR0.out 2 p145 q145; obtain rfl : ad126 = ad145 := (by injection e145); (try simp only [show (2 : Int).toNat = 2 from rfl, Nat.reduceMul, Nat.reduceEqDiff, Go.Addr.add, ↓reduceIte] at hx145_0); have qi145 : (2 < l0.length) = True := eq_true (by omega); (try rw [show ((2 : Int)).toNat = 2 from rfl] at hx145_0); replace hx145_0 := (HB.out.cell (World.block_lt_of_cell? w _ hx145_0)).trans hx145_0; replace p145 := eq_true p145; replace q145 := eq_true q145) | ((with_reducible refine gate_callee (f := 25) rfl ?_); refine gl 88 Tryd.func25 #[.string (rdOf ByteArray.empty l0 2)] ?_; (with_reducible refine (spec_l1ReadReg.calls kj42 (rdOf ByteArray.empty l0 2) t146 t147 _ A65.out).mono ?_); rintro e w' ⟨rfl, ⟨nd, rfl⟩⟩; refine ⟨_, rfl, ?_⟩; (try (rw [drewN_self wc]; generalize hq_ : World.drewN wc _ = wc; have n0_ : Aside0 (wc.heap[gb122]? = some (.cells #[.int .i64 0, .int .i64 0, .int .i64 0, .int .i64 0, .int .i64 0, .int .i64 0] 23 (0, 0))) := ⟨by rw [← hq_]; exact (by exact bq BK122.out)⟩; have n1_ : Aside0 (wc.heap[gb128]? = some (.cells #[.int .i64 x129000_1, .int .i64 0, .int .i64 (-1), .int .i64 0, .int .i64 0, .int .i64 x129005_1] 23 (0, 0))) := ⟨by rw [← hq_]; exact (by exact bq BK128.out)⟩; have n2_ : Aside0 (Below w.heap.size w wc) := ⟨by rw [← hq_]; exact zB⟩; clear BK122 BK128 HB hq_; have BK122 := n0_; have BK128 := n1_; have HB := n2_; clear n0_ n1_ n2_)); have hnb69 := NB128_122.out; have hnc69 := NB122_128.out; obtain ⟨hcz70_0, hcz70_1, hcz70_2, hcz70_3, hcz70_4, hcz70_5, hfz70_0, hfz70_1, hfz70_2, hfz70_3, hfz70_4, hfz70_5⟩ := zc6 BK128; have p148 : 0 ≤ (3 : Int) := (by omega); have q148 : 3 < (l0.length : Int) := of_decide_eq_true (by first | (with_reducible assumption) | assumption); obtain ⟨ad148, e148, hx148_0⟩ := Kd.at_string HR0.out 3 p148 q148; obtain rfl : ad126 = ad148 := (by injection e148); (try simp only [show (3 : Int).toNat = 3 from rfl, Nat.reduceMul, Nat.reduceEqDiff, Go.Addr.add, ↓reduceIte] at hx148_0); have qi148 : (3 < l0.length) = True := eq_true (by omega); (try rw [show ((3 : Int)).toNat = 3 from rfl] at hx148_0); have hn148_0 : ad126.block ≠ gb128 := Nat.ne_of_lt (Nat.lt_of_lt_of_le (by have := World.block_lt_of_cell? _ _ hx148_0; first | rwa [add_block] at this | exact this) GW128.out); have hn148_1 : ad126.block ≠ gb128 := Nat.ne_of_lt (Nat.lt_of_lt_of_le (by have := World.block_lt_of_cell? _ _ hx148_0; first | rwa [add_block] at this | exact this) GW128.out); have hn148_2 : ad126.block ≠ gb128 := Nat.ne_of_lt (Nat.lt_of_lt_of_le (by have := World.block_lt_of_cell? _ _ hx148_0; first | rwa [add_block] at this | exact this) GW128.out); replace hx148_0 := (HB.out.cell (World.block_lt_of_cell? w _ hx148_0)).trans hx148_0; replace hx148_0 := (cell_far (p := ⟨gb128, 1, none⟩) (by first | (rw [add_block]; exact hn148_0) | (show (Addr.add _ _).block ≠ _; rw [add_block]; exact hn148_0) | exact hn148_0) (.int .i64 t143)).trans hx148_0; replace hx148_0 := (cell_far (p := ⟨gb128, 2, none⟩) (by first | (rw [add_block]; exact hn148_1) | (show (Addr.add _ _).block ≠ _; rw [add_block]; exact hn148_1) | exact hn148_1) (.int .i64 t146)).trans hx148_0; replace hx148_0 := (cell_far (p := ⟨gb128, 4, none⟩) (by first | (rw [add_block]; exact hn148_2) | (show (Addr.add _ _).block ≠ _; rw [add_block]; exact hn148_2) | exact hn148_2) (.int .i64 t147)).trans hx148_0; clear hn148_0; clear hn148_1; clear hn148_2; replace p148 := eq_true p148; replace q148 := eq_true q148) | ((with_reducible refine gate_callee (f := 26) rfl ?_); refine gl 102 Tryd.func26 #[.string (rdOf ByteArray.empty l0 3)] ?_; (with_reducible refine (spec_l1Signed.calls kj42 (rdOf ByteArray.empty l0 3) t149 _ A68.out).mono ?_); rintro e w' ⟨rfl, ⟨nd, rfl⟩⟩; refine ⟨_, rfl, ?_⟩; obtain ⟨hcz71_0, hcz71_1, hcz71_2, hcz71_3, hcz71_4, hcz71_5, hfz71_0, hfz71_1, hfz71_2, hfz71_3, hfz71_4, hfz71_5⟩ := zc6 BK122))
           refine bodyPost_ret (results_cell_row rfl _ _ gb122 23 #[.int .i64 x129000_1, .int .i64 t143, .int .i64 t146, .int .i64 t149, .int .i64 t147, .int .i64 x129005_1] (0, 0) _ rfl (by refine bq ?_; refine blk_put (cs := #[.int .i64 x129000_1, .int .i64 t143, .int .i64 t146, .int .i64 t149, .int .i64 t147, .int .i64 0]) ?_ 5 _ rfl; refine bq ?_; refine blk_put (cs := #[.int .i64 x129000_1, .int .i64 t143, .int .i64 t146, .int .i64 t149, .int .i64 0, .int .i64 0]) ?_ 4 _ rfl; refine bq ?_; refine blk_put (cs := #[.int .i64 x129000_1, .int .i64 t143, .int .i64 t146, .int .i64 0, .int .i64 0, .int .i64 0]) ?_ 3 _ rfl; refine bq ?_; refine blk_put (cs := #[.int .i64 x129000_1, .int .i64 t143, .int .i64 0, .int .i64 0, .int .i64 0, .int .i64 0]) ?_ 2 _ rfl; refine bq ?_; refine blk_put (cs := #[.int .i64 x129000_1, .int .i64 0, .int .i64 0, .int .i64 0, .int .i64 0, .int .i64 0]) ?_ 1 _ rfl; refine bq ?_; refine blk_put (cs := #[.int .i64 0, .int .i64 0, .int .i64 0, .int .i64 0, .int .i64 0, .int .i64 0]) ?_ 0 _ rfl; refine fq ?_ NB122_128.out; refine fq ?_ NB122_128.out; refine fq ?_ NB122_128.out; refine fq ?_ NB122_128.out; exact bq BK122.out) Tryd.underlying23 rfl (by kernel_rfl)) rfl ?_
           exact ⟨zR, zB⟩
          ·rw [if_neg c67] at H
           exact absurd H (by simp)
         ·rw [if_neg c66] at H
          have c66b0 : ((l0.length : Int) == 4) = false := beq_eq_false_iff_ne.mpr c66
          have c66b1 : ((l0.length : Int) != 4) = true := bne_iff_ne.mpr c66
          simp only [Option.some.injEq, Prod.mk.injEq] at H
          obtain ⟨rfl, rfl, rfl, rfl, rfl, rfl⟩ := H
          have p142 : 0 ≤ (1 : Int) := (by omega)
          have q142 : 1 < (l0.length : Int) := of_decide_eq_true (by first | (with_reducible assumption) | assumption)
          obtain ⟨ad142, e142, hx142_0⟩ := Kd.at_string HR0.out 1 p142 q142
          obtain rfl : ad126 = ad142 := (by injection e142)
          (try simp only [show (1 : Int).toNat = 1 from rfl, Nat.reduceMul, Nat.reduceEqDiff, Go.Addr.add, ↓reduceIte] at hx142_0)
          have qi142 : (1 < l0.length) = True := eq_true (by omega)
          (try rw [show ((1 : Int)).toNat = 1 from rfl] at hx142_0)
          replace hx142_0 := (HB.out.cell (World.block_lt_of_cell? w _ hx142_0)).trans hx142_0
          replace p142 := eq_true p142
          replace q142 := eq_true q142
          go_wp2_with (first | ((with_reducible refine gate_callee (f := 25) rfl ?_); refine gl 81 Tryd.func25 #[.string (rdOf ByteArray.empty l0 1)] ?_; (with_reducible refine (spec_l1ReadReg.calls kj42 (rdOf ByteArray.empty l0 1) t143 t144 _ A63.out).mono ?_); rintro e w' ⟨rfl, ⟨nd, rfl⟩⟩; refine ⟨_, rfl, ?_⟩; (try (rw [drewN_self wc]; generalize hq_ : World.drewN wc _ = wc; have n0_ : Aside0 (wc.heap[gb122]? = some (.cells #[.int .i64 0, .int .i64 0, .int .i64 0, .int .i64 0, .int .i64 0, .int .i64 0] 23 (0, 0))) := ⟨by rw [← hq_]; exact (by exact bq BK122.out)⟩; have n1_ : Aside0 (wc.heap[gb128]? = some (.cells #[.int .i64 x129000_1, .int .i64 0, .int .i64 (-1), .int .i64 0, .int .i64 0, .int .i64 x129005_1] 23 (0, 0))) := ⟨by rw [← hq_]; exact (by exact bq BK128.out)⟩; have n2_ : Aside0 (Below w.heap.size w wc) := ⟨by rw [← hq_]; exact zB⟩; clear BK122 BK128 HB hq_; have BK122 := n0_; have BK128 := n1_; have HB := n2_; clear n0_ n1_ n2_)); have p145 : 0 ≤ (2 : Int) := (by omega); have q145 : 2 < (l0.length : Int) := of_decide_eq_true (by first | (with_reducible assumption) | assumption); obtain ⟨ad145, e145, hx145_0⟩ := Kd.at_string HR0.out 2 p145 q145; obtain rfl : ad126 = ad145 := (by injection e145); (try simp only [show (2 : Int).toNat = 2 from rfl, Nat.reduceMul, Nat.reduceEqDiff, Go.Addr.add, ↓reduceIte] at hx145_0); have qi145 : (2 < l0.length) = True := eq_true (by omega); (try rw [show ((2 : Int)).toNat = 2 from rfl] at hx145_0); replace hx145_0 := (HB.out.cell (World.block_lt_of_cell? w _ hx145_0)).trans hx145_0; replace p145 := eq_true p145; replace q145 := eq_true q145) | ((with_reducible refine gate_callee (f := 25) rfl ?_); refine gl 88 Tryd.func25 #[.string (rdOf ByteArray.empty l0 2)] ?_; (with_reducible refine (spec_l1ReadReg.calls kj42 (rdOf ByteArray.empty l0 2) t146 t147 _ A65.out).mono ?_); rintro e w' ⟨rfl, ⟨nd, rfl⟩⟩; refine ⟨_, rfl, ?_⟩; (try (rw [drewN_self wc]; generalize hq_ : World.drewN wc _ = wc; have n0_ : Aside0 (wc.heap[gb122]? = some (.cells #[.int .i64 0, .int .i64 0, .int .i64 0, .int .i64 0, .int .i64 0, .int .i64 0] 23 (0, 0))) := ⟨by rw [← hq_]; exact (by exact bq BK122.out)⟩; have n1_ : Aside0 (wc.heap[gb128]? = some (.cells #[.int .i64 x129000_1, .int .i64 0, .int .i64 (-1), .int .i64 0, .int .i64 0, .int .i64 x129005_1] 23 (0, 0))) := ⟨by rw [← hq_]; exact (by exact bq BK128.out)⟩; have n2_ : Aside0 (Below w.heap.size w wc) := ⟨by rw [← hq_]; exact zB⟩; clear BK122 BK128 HB hq_; have BK122 := n0_; have BK128 := n1_; have HB := n2_; clear n0_ n1_ n2_)); have hnb72 := NB128_122.out; have hnc72 := NB122_128.out; obtain ⟨hcz73_0, hcz73_1, hcz73_2, hcz73_3, hcz73_4, hcz73_5, hfz73_0, hfz73_1, hfz73_2, hfz73_3, hfz73_4, hfz73_5⟩ := zc6 BK128; obtain ⟨hcz74_0, hcz74_1, hcz74_2, hcz74_3, hcz74_4, hcz74_5, hfz74_0, hfz74_1, hfz74_2, hfz74_3, hfz74_4, hfz74_5⟩ := zc6 BK122))
          refine bodyPost_ret (results_cell_row rfl _ _ gb122 23 #[.int .i64 x129000_1, .int .i64 t143, .int .i64 t146, .int .i64 0, .int .i64 t147, .int .i64 x129005_1] (0, 0) _ rfl (by refine bq ?_; refine blk_put (cs := #[.int .i64 x129000_1, .int .i64 t143, .int .i64 t146, .int .i64 0, .int .i64 t147, .int .i64 0]) ?_ 5 _ rfl; refine bq ?_; refine blk_put (cs := #[.int .i64 x129000_1, .int .i64 t143, .int .i64 t146, .int .i64 0, .int .i64 0, .int .i64 0]) ?_ 4 _ rfl; refine bq ?_; refine blk_put (cs := #[.int .i64 x129000_1, .int .i64 t143, .int .i64 t146, .int .i64 0, .int .i64 0, .int .i64 0]) ?_ 3 _ rfl; refine bq ?_; refine blk_put (cs := #[.int .i64 x129000_1, .int .i64 t143, .int .i64 0, .int .i64 0, .int .i64 0, .int .i64 0]) ?_ 2 _ rfl; refine bq ?_; refine blk_put (cs := #[.int .i64 x129000_1, .int .i64 0, .int .i64 0, .int .i64 0, .int .i64 0, .int .i64 0]) ?_ 1 _ rfl; refine bq ?_; refine blk_put (cs := #[.int .i64 0, .int .i64 0, .int .i64 0, .int .i64 0, .int .i64 0, .int .i64 0]) ?_ 0 _ rfl; refine fq ?_ NB122_128.out; refine fq ?_ NB122_128.out; refine fq ?_ NB122_128.out; exact bq BK122.out) Tryd.underlying23 rfl (by kernel_rfl)) rfl ?_
          exact ⟨zR, zB⟩
        ·rw [if_neg c64] at H
         exact absurd H (by simp)
       ·rw [if_neg c62] at H
        exact absurd H (by simp)
      ·replace c61 := Bool.eq_false_iff.mpr c61
       subst c61
       rw [if_neg (show ¬ (false = true) by decide)] at H
       have HC75 := Aside0.mk H
       clear H
       go_upto_region 17 with (fail)
       go_cut [104] (fun v104 wc => ∃ (kq : Nat) (x104_74 : Bool), v104 = .bool x104_74 ∧ Aside0 (spec_l1Read.j3 kq l0 (l0.length : Int) x104_74 x129000_1 0 (-1) 0 0 x129005_1 = some (r1, r2, r3, r4, r5, r6)) ∧ Aside0 (kq ≤ kj42) ∧ Aside0 (wc.heap[gb122]? = some (.cells #[.int .i64 0, .int .i64 0, .int .i64 0, .int .i64 0, .int .i64 0, .int .i64 0] 23 (0, 0))) ∧ Aside0 (wc.heap[gb128]? = some (.cells #[.int .i64 x129000_1, .int .i64 0, .int .i64 (-1), .int .i64 0, .int .i64 0, .int .i64 x129005_1] 23 (0, 0))) ∧ Aside0 (Below w.heap.size w wc))
       case first =>
        have H := HC75.out
        clear HC75
        by_cases c76 : x129000_1 = 16
        ·rw [if_pos c76] at H
         have c76b0 : (x129000_1 == 16) = true := beq_iff_eq.mpr c76
         have c76b1 : (x129000_1 != 16) = false := bne_eq_false_iff_eq.mpr c76
         clear c76
         (first | rw [c76b0] | (simp only [i64_w, i32_w]; rw [c76b0]) | skip)
         have H' := Aside0.mk H
         clear H
         have hnb77 := NB128_122.out
         have hnc77 := NB122_128.out
         obtain ⟨hcz78_0, hcz78_1, hcz78_2, hcz78_3, hcz78_4, hcz78_5, hfz78_0, hfz78_1, hfz78_2, hfz78_3, hfz78_4, hfz78_5⟩ := zc6 BK128
         as_aux_lemma =>
          go_wp2
          go_meet
          case rel => exact ⟨_, (((l0.length : Int) == 2)), (by first | rfl | (simp; done) | (simp [*]; done)), H', ⟨by have := HK1.out; have := HJ42.out; first | omega | exact Nat.le_refl _⟩, ⟨by exact bq BK122.out⟩, ⟨by exact bq BK128.out⟩, ⟨zB⟩⟩
        ·rw [if_neg c76] at H
         have c76b0 : (x129000_1 == 16) = false := beq_eq_false_iff_ne.mpr c76
         have c76b1 : (x129000_1 != 16) = true := bne_iff_ne.mpr c76
         (first | rw [c76b0] | (simp only [i64_w, i32_w]; rw [c76b0]) | skip)
         have H' := Aside0.mk H
         clear H
         have hnb79 := NB128_122.out
         have hnc79 := NB122_128.out
         obtain ⟨hcz80_0, hcz80_1, hcz80_2, hcz80_3, hcz80_4, hcz80_5, hfz80_0, hfz80_1, hfz80_2, hfz80_3, hfz80_4, hfz80_5⟩ := zc6 BK128
         as_aux_lemma =>
          go_wp2
          go_meet
          case rel => exact ⟨_, (false), (by first | rfl | (simp; done) | (simp [*]; done)), H', ⟨by have := HK1.out; have := HJ42.out; first | omega | exact Nat.le_refl _⟩, ⟨by exact bq BK122.out⟩, ⟨by exact bq BK128.out⟩, ⟨zB⟩⟩
       case rest =>
        clear HC75
        try clear c1
        try clear p1 p1
        try clear q1 q1
        try clear hx1
        try clear qi1
        try clear c2
        try clear p2 p2
        try clear c3
        try clear c3b0
        try clear c3b1
        try clear c4
        try clear c5
        try clear c6
        try clear p6 p6
        try clear c7
        try clear c11
        try clear p12 p12
        try clear q12 q12
        try clear hx12
        try clear qi12
        try clear p13 p13
        try clear q13 q13
        try clear hx13
        try clear qi13
        try clear p14
        try clear q14
        try clear hx14
        try clear qi14
        try clear c17
        try clear c17b0
        try clear c19
        try clear c19b0
        try clear c19b1
        try clear c20
        try clear c21
        try clear c21b0
        try clear c21b1
        try clear c21b2
        try clear c22
        try clear c22b0
        try clear c22b1
        try clear c23
        try clear c25
        try clear c26
        try clear c26b0
        try clear c26b1
        try clear c26b2
        try clear c30
        try clear c32
        try clear c32b0
        try clear c32b1
        try clear c34
        try clear c34b0
        try clear c34b1
        try clear c35
        try clear c35b0
        try clear c35b1
        try clear c41
        try clear c45
        try clear c46
        try clear c46b0
        try clear c46b1
        try clear c47
        try clear c50
        try clear c51
        try clear c53
        try clear c56
        try clear c57
        try clear c59
        try clear c61
        try clear c62
        try clear c62b0
        try clear c62b1
        try clear c64
        try clear c64b0
        try clear c64b1
        try clear p64
        try clear c66
        try clear c66b0
        try clear c66b1
        try clear c67
        try clear c67b0
        try clear c67b1
        try clear c69
        try clear c72
        try clear c76
        try clear c76b0
        try clear c76b1
        try clear c77
        try clear c79
        try clear hcz42_0 hcz42_1 hcz42_2 hcz42_3 hcz42_4 hcz42_5 hfz42_0 hfz42_1 hfz42_2 hfz42_3 hfz42_4 hfz42_5
        try clear hcz48_0 hcz48_1 hcz48_2 hcz48_3 hcz48_4 hcz48_5 hfz48_0 hfz48_1 hfz48_2 hfz48_3 hfz48_4 hfz48_5
        try clear hcz52_0 hcz52_1 hcz52_2 hcz52_3 hcz52_4 hcz52_5 hfz52_0 hfz52_1 hfz52_2 hfz52_3 hfz52_4 hfz52_5
        try clear hcz54_0 hcz54_1 hcz54_2 hcz54_3 hcz54_4 hcz54_5 hfz54_0 hfz54_1 hfz54_2 hfz54_3 hfz54_4 hfz54_5
        try clear hcz58_0 hcz58_1 hcz58_2 hcz58_3 hcz58_4 hcz58_5 hfz58_0 hfz58_1 hfz58_2 hfz58_3 hfz58_4 hfz58_5
        try clear hcz60_0 hcz60_1 hcz60_2 hcz60_3 hcz60_4 hcz60_5 hfz60_0 hfz60_1 hfz60_2 hfz60_3 hfz60_4 hfz60_5
        try clear hcz70_0 hcz70_1 hcz70_2 hcz70_3 hcz70_4 hcz70_5 hfz70_0 hfz70_1 hfz70_2 hfz70_3 hfz70_4 hfz70_5
        try clear hcz71_0 hcz71_1 hcz71_2 hcz71_3 hcz71_4 hcz71_5 hfz71_0 hfz71_1 hfz71_2 hfz71_3 hfz71_4 hfz71_5
        try clear hcz73_0 hcz73_1 hcz73_2 hcz73_3 hcz73_4 hcz73_5 hfz73_0 hfz73_1 hfz73_2 hfz73_3 hfz73_4 hfz73_5
        try clear hcz74_0 hcz74_1 hcz74_2 hcz74_3 hcz74_4 hcz74_5 hfz74_0 hfz74_1 hfz74_2 hfz74_3 hfz74_4 hfz74_5
        try clear hcz78_0 hcz78_1 hcz78_2 hcz78_3 hcz78_4 hcz78_5 hfz78_0 hfz78_1 hfz78_2 hfz78_3 hfz78_4 hfz78_5
        try clear hcz80_0 hcz80_1 hcz80_2 hcz80_3 hcz80_4 hcz80_5 hfz80_0 hfz80_1 hfz80_2 hfz80_3 hfz80_4 hfz80_5
        try clear hx126_0
        try clear hx129_0
        try clear hx131_0
        try clear hx136_0
        try clear hx137_0
        try clear hx142_0
        try clear hx145_0
        try clear hx148_0
        try clear p126
        try clear p129
        try clear p131
        try clear p136
        try clear p137
        try clear p142
        try clear p145
        try clear p148
        try clear q126
        try clear q129
        try clear q131
        try clear q136
        try clear q137
        try clear q142
        try clear q145
        try clear q148
        obtain ⟨kq, x104_74, rfl, HA, HJ74, BK122, BK128, HB⟩ := hcut
        cases kq with
        | zero => exact absurd HA.out (by simp [spec_l1Read.j3])
        | succ kj74 =>
         have H := HA.out
         clear HA
         simp only [spec_l1Read.j3] at H
         by_cases c81 : x104_74 = true
         ·subst c81
          rw [if_pos rfl] at H
          by_cases c82 : 1 < (l0.length : Int)
          ·rw [if_pos c82] at H
           have c82b0 : decide (1 < (l0.length : Int)) = true := decide_eq_true c82
           have c82b1 : decide (1 < l0.length) = true := decide_eq_true (by omega)
           clear c82
           replace H := Option.bind_eq_some_iff.mp H
           obtain ⟨t151, A830, H⟩ := H
           try dsimp only at H
           have A83 := Aside0.mk A830
           clear A830
           simp only [Option.some.injEq, Prod.mk.injEq] at H
           obtain ⟨rfl, rfl, rfl, rfl, rfl, rfl⟩ := H
           have p150 : 0 ≤ (1 : Int) := (by omega)
           have q150 : 1 < (l0.length : Int) := of_decide_eq_true (by first | (with_reducible assumption) | assumption)
           obtain ⟨ad150, e150, hx150_0⟩ := Kd.at_string HR0.out 1 p150 q150
           obtain rfl : ad126 = ad150 := (by injection e150)
           (try simp only [show (1 : Int).toNat = 1 from rfl, Nat.reduceMul, Nat.reduceEqDiff, Go.Addr.add, ↓reduceIte] at hx150_0)
           have qi150 : (1 < l0.length) = True := eq_true (by omega)
           (try rw [show ((1 : Int)).toNat = 1 from rfl] at hx150_0)
           replace hx150_0 := (HB.out.cell (World.block_lt_of_cell? w _ hx150_0)).trans hx150_0
           replace p150 := eq_true p150
           replace q150 := eq_true q150
           go_wp2_with (first | ((with_reducible refine gate_callee (f := 26) rfl ?_); refine gl 115 Tryd.func26 #[.string (rdOf ByteArray.empty l0 1)] ?_; (with_reducible refine (spec_l1Signed.calls kj74 (rdOf ByteArray.empty l0 1) t151 _ A83.out).mono ?_); rintro e w' ⟨rfl, ⟨nd, rfl⟩⟩; refine ⟨_, rfl, ?_⟩; (try (rw [drewN_self wc]; generalize hq_ : World.drewN wc _ = wc; have n0_ : Aside0 (wc.heap[gb122]? = some (.cells #[.int .i64 0, .int .i64 0, .int .i64 0, .int .i64 0, .int .i64 0, .int .i64 0] 23 (0, 0))) := ⟨by rw [← hq_]; exact (by exact bq BK122.out)⟩; have n1_ : Aside0 (wc.heap[gb128]? = some (.cells #[.int .i64 x129000_1, .int .i64 0, .int .i64 (-1), .int .i64 0, .int .i64 0, .int .i64 x129005_1] 23 (0, 0))) := ⟨by rw [← hq_]; exact (by exact bq BK128.out)⟩; have n2_ : Aside0 (Below w.heap.size w wc) := ⟨by rw [← hq_]; exact zB⟩; clear BK122 BK128 HB hq_; have BK122 := n0_; have BK128 := n1_; have HB := n2_; clear n0_ n1_ n2_)); have hnb84 := NB128_122.out; have hnc84 := NB122_128.out; obtain ⟨hcz85_0, hcz85_1, hcz85_2, hcz85_3, hcz85_4, hcz85_5, hfz85_0, hfz85_1, hfz85_2, hfz85_3, hfz85_4, hfz85_5⟩ := zc6 BK128; obtain ⟨hcz86_0, hcz86_1, hcz86_2, hcz86_3, hcz86_4, hcz86_5, hfz86_0, hfz86_1, hfz86_2, hfz86_3, hfz86_4, hfz86_5⟩ := zc6 BK122))
           refine bodyPost_ret (results_cell_row rfl _ _ gb122 23 #[.int .i64 x129000_1, .int .i64 0, .int .i64 (-1), .int .i64 t151, .int .i64 0, .int .i64 x129005_1] (0, 0) _ rfl (by refine bq ?_; refine blk_put (cs := #[.int .i64 x129000_1, .int .i64 0, .int .i64 (-1), .int .i64 t151, .int .i64 0, .int .i64 0]) ?_ 5 _ rfl; refine bq ?_; refine blk_put (cs := #[.int .i64 x129000_1, .int .i64 0, .int .i64 (-1), .int .i64 t151, .int .i64 0, .int .i64 0]) ?_ 4 _ rfl; refine bq ?_; refine blk_put (cs := #[.int .i64 x129000_1, .int .i64 0, .int .i64 (-1), .int .i64 0, .int .i64 0, .int .i64 0]) ?_ 3 _ rfl; refine bq ?_; refine blk_put (cs := #[.int .i64 x129000_1, .int .i64 0, .int .i64 0, .int .i64 0, .int .i64 0, .int .i64 0]) ?_ 2 _ rfl; refine bq ?_; refine blk_put (cs := #[.int .i64 x129000_1, .int .i64 0, .int .i64 0, .int .i64 0, .int .i64 0, .int .i64 0]) ?_ 1 _ rfl; refine bq ?_; refine blk_put (cs := #[.int .i64 0, .int .i64 0, .int .i64 0, .int .i64 0, .int .i64 0, .int .i64 0]) ?_ 0 _ rfl; refine fq ?_ NB122_128.out; exact bq BK122.out) Tryd.underlying23 rfl (by kernel_rfl)) rfl ?_
           exact ⟨zR, zB⟩
          ·rw [if_neg c82] at H
           exact absurd H (by simp)
         ·replace c81 := Bool.eq_false_iff.mpr c81
          subst c81
          rw [if_neg (show ¬ (false = true) by decide)] at H
          have HC87 := Aside0.mk H
          clear H
          go_upto_region 19 with (fail)
          go_cut [117] (fun v117 wc => ∃ (kq : Nat) (x117_86 : Bool), v117 = .bool x117_86 ∧ Aside0 (spec_l1Read.j4 kq l0 (l0.length : Int) x117_86 x129000_1 0 (-1) 0 0 x129005_1 = some (r1, r2, r3, r4, r5, r6)) ∧ Aside0 (kq ≤ kj74) ∧ Aside0 (wc.heap[gb122]? = some (.cells #[.int .i64 0, .int .i64 0, .int .i64 0, .int .i64 0, .int .i64 0, .int .i64 0] 23 (0, 0))) ∧ Aside0 (wc.heap[gb128]? = some (.cells #[.int .i64 x129000_1, .int .i64 0, .int .i64 (-1), .int .i64 0, .int .i64 0, .int .i64 x129005_1] 23 (0, 0))) ∧ Aside0 (Below w.heap.size w wc))
          case first =>
           have H := HC87.out
           clear HC87
           by_cases c88 : x129000_1 = 17
           ·rw [if_pos c88] at H
            have c88b0 : (x129000_1 == 17) = true := beq_iff_eq.mpr c88
            have c88b1 : (x129000_1 != 17) = false := bne_eq_false_iff_eq.mpr c88
            clear c88
            (first | rw [c88b0] | (simp only [i64_w, i32_w]; rw [c88b0]) | skip)
            have H' := Aside0.mk H
            clear H
            have hnb89 := NB128_122.out
            have hnc89 := NB122_128.out
            obtain ⟨hcz90_0, hcz90_1, hcz90_2, hcz90_3, hcz90_4, hcz90_5, hfz90_0, hfz90_1, hfz90_2, hfz90_3, hfz90_4, hfz90_5⟩ := zc6 BK128
            as_aux_lemma =>
             go_wp2
             go_meet
             case rel => exact ⟨_, (((l0.length : Int) == 4)), (by first | rfl | (simp; done) | (simp [*]; done)), H', ⟨by have := HK1.out; have := HJ42.out; have := HJ74.out; first | omega | exact Nat.le_refl _⟩, ⟨by exact bq BK122.out⟩, ⟨by exact bq BK128.out⟩, ⟨zB⟩⟩
           ·rw [if_neg c88] at H
            have c88b0 : (x129000_1 == 17) = false := beq_eq_false_iff_ne.mpr c88
            have c88b1 : (x129000_1 != 17) = true := bne_iff_ne.mpr c88
            (first | rw [c88b0] | (simp only [i64_w, i32_w]; rw [c88b0]) | skip)
            have H' := Aside0.mk H
            clear H
            have hnb91 := NB128_122.out
            have hnc91 := NB122_128.out
            obtain ⟨hcz92_0, hcz92_1, hcz92_2, hcz92_3, hcz92_4, hcz92_5, hfz92_0, hfz92_1, hfz92_2, hfz92_3, hfz92_4, hfz92_5⟩ := zc6 BK128
            as_aux_lemma =>
             go_wp2
             go_meet
             case rel => exact ⟨_, (false), (by first | rfl | (simp; done) | (simp [*]; done)), H', ⟨by have := HK1.out; have := HJ42.out; have := HJ74.out; first | omega | exact Nat.le_refl _⟩, ⟨by exact bq BK122.out⟩, ⟨by exact bq BK128.out⟩, ⟨zB⟩⟩
          case rest =>
           clear HC87
           try clear c1
           try clear p1 p1
           try clear q1 q1
           try clear hx1
           try clear qi1
           try clear c2
           try clear p2 p2
           try clear c3
           try clear c3b0
           try clear c3b1
           try clear c4
           try clear c5
           try clear c6
           try clear p6 p6
           try clear c7
           try clear c8
           try clear c9
           try clear c11
           try clear p12 p12
           try clear q12 q12
           try clear hx12
           try clear qi12
           try clear p13 p13
           try clear q13 q13
           try clear hx13
           try clear qi13
           try clear p14 p14
           try clear q14 q14
           try clear hx14
           try clear qi14
           try clear p15
           try clear q15
           try clear hx15
           try clear qi15
           try clear c17
           try clear c17b0
           try clear c19
           try clear c19b0
           try clear c19b1
           try clear c20
           try clear c21
           try clear c21b0
           try clear c21b1
           try clear c21b2
           try clear c22
           try clear c22b0
           try clear c22b1
           try clear c23
           try clear c25
           try clear c26
           try clear c26b0
           try clear c26b1
           try clear c26b2
           try clear c30
           try clear c32
           try clear c32b0
           try clear c32b1
           try clear c34
           try clear c34b0
           try clear c34b1
           try clear c35
           try clear c35b0
           try clear c35b1
           try clear c41
           try clear c45
           try clear c46
           try clear c46b0
           try clear c46b1
           try clear c47
           try clear c50
           try clear c51
           try clear c53
           try clear c56
           try clear c57
           try clear c59
           try clear c61
           try clear c62
           try clear c62b0
           try clear c62b1
           try clear c64
           try clear c64b0
           try clear c64b1
           try clear p64 p64
           try clear c66
           try clear c66b0
           try clear c66b1
           try clear c67
           try clear c67b0
           try clear c67b1
           try clear c69
           try clear c72
           try clear c76
           try clear c76b0
           try clear c76b1
           try clear c77
           try clear c79
           try clear c81
           try clear c82
           try clear c82b0
           try clear c82b1
           try clear c84
           try clear c88
           try clear c88b0
           try clear c88b1
           try clear c89
           try clear c91
           try clear hcz42_0 hcz42_1 hcz42_2 hcz42_3 hcz42_4 hcz42_5 hfz42_0 hfz42_1 hfz42_2 hfz42_3 hfz42_4 hfz42_5
           try clear hcz48_0 hcz48_1 hcz48_2 hcz48_3 hcz48_4 hcz48_5 hfz48_0 hfz48_1 hfz48_2 hfz48_3 hfz48_4 hfz48_5
           try clear hcz52_0 hcz52_1 hcz52_2 hcz52_3 hcz52_4 hcz52_5 hfz52_0 hfz52_1 hfz52_2 hfz52_3 hfz52_4 hfz52_5
           try clear hcz54_0 hcz54_1 hcz54_2 hcz54_3 hcz54_4 hcz54_5 hfz54_0 hfz54_1 hfz54_2 hfz54_3 hfz54_4 hfz54_5
           try clear hcz58_0 hcz58_1 hcz58_2 hcz58_3 hcz58_4 hcz58_5 hfz58_0 hfz58_1 hfz58_2 hfz58_3 hfz58_4 hfz58_5
           try clear hcz60_0 hcz60_1 hcz60_2 hcz60_3 hcz60_4 hcz60_5 hfz60_0 hfz60_1 hfz60_2 hfz60_3 hfz60_4 hfz60_5
           try clear hcz70_0 hcz70_1 hcz70_2 hcz70_3 hcz70_4 hcz70_5 hfz70_0 hfz70_1 hfz70_2 hfz70_3 hfz70_4 hfz70_5
           try clear hcz71_0 hcz71_1 hcz71_2 hcz71_3 hcz71_4 hcz71_5 hfz71_0 hfz71_1 hfz71_2 hfz71_3 hfz71_4 hfz71_5
           try clear hcz73_0 hcz73_1 hcz73_2 hcz73_3 hcz73_4 hcz73_5 hfz73_0 hfz73_1 hfz73_2 hfz73_3 hfz73_4 hfz73_5
           try clear hcz74_0 hcz74_1 hcz74_2 hcz74_3 hcz74_4 hcz74_5 hfz74_0 hfz74_1 hfz74_2 hfz74_3 hfz74_4 hfz74_5
           try clear hcz78_0 hcz78_1 hcz78_2 hcz78_3 hcz78_4 hcz78_5 hfz78_0 hfz78_1 hfz78_2 hfz78_3 hfz78_4 hfz78_5
           try clear hcz80_0 hcz80_1 hcz80_2 hcz80_3 hcz80_4 hcz80_5 hfz80_0 hfz80_1 hfz80_2 hfz80_3 hfz80_4 hfz80_5
           try clear hcz85_0 hcz85_1 hcz85_2 hcz85_3 hcz85_4 hcz85_5 hfz85_0 hfz85_1 hfz85_2 hfz85_3 hfz85_4 hfz85_5
           try clear hcz86_0 hcz86_1 hcz86_2 hcz86_3 hcz86_4 hcz86_5 hfz86_0 hfz86_1 hfz86_2 hfz86_3 hfz86_4 hfz86_5
           try clear hcz90_0 hcz90_1 hcz90_2 hcz90_3 hcz90_4 hcz90_5 hfz90_0 hfz90_1 hfz90_2 hfz90_3 hfz90_4 hfz90_5
           try clear hcz92_0 hcz92_1 hcz92_2 hcz92_3 hcz92_4 hcz92_5 hfz92_0 hfz92_1 hfz92_2 hfz92_3 hfz92_4 hfz92_5
           try clear hx126_0
           try clear hx129_0
           try clear hx131_0
           try clear hx136_0
           try clear hx137_0
           try clear hx142_0
           try clear hx145_0
           try clear hx148_0
           try clear hx150_0
           try clear p126
           try clear p129
           try clear p131
           try clear p136
           try clear p137
           try clear p142
           try clear p145
           try clear p148
           try clear p150
           try clear q126
           try clear q129
           try clear q131
           try clear q136
           try clear q137
           try clear q142
           try clear q145
           try clear q148
           try clear q150
           obtain ⟨kq, x117_86, rfl, HA, HJ86, BK122, BK128, HB⟩ := hcut
           cases kq with
           | zero => exact absurd HA.out (by simp [spec_l1Read.j4])
           | succ kj86 =>
            have H := HA.out
            clear HA
            simp only [spec_l1Read.j4] at H
            by_cases c93 : x117_86 = true
            ·subst c93
             rw [if_pos rfl] at H
             by_cases c94 : 1 < (l0.length : Int)
             ·rw [if_pos c94] at H
              have c94b0 : decide (1 < (l0.length : Int)) = true := decide_eq_true c94
              have c94b1 : decide (1 < l0.length) = true := decide_eq_true (by omega)
              clear c94
              replace H := Option.bind_eq_some_iff.mp H
              obtain ⟨⟨t153, t154⟩, A950, H⟩ := H
              try dsimp only at H
              have A95 := Aside0.mk A950
              clear A950
              by_cases c96 : 2 < (l0.length : Int)
              ·rw [if_pos c96] at H
               have c96b0 : decide (2 < (l0.length : Int)) = true := decide_eq_true c96
               have c96b1 : decide (2 < l0.length) = true := decide_eq_true (by omega)
               clear c96
               replace H := Option.bind_eq_some_iff.mp H
               obtain ⟨⟨t156, t157⟩, A970, H⟩ := H
               try dsimp only at H
               have A97 := Aside0.mk A970
               clear A970
               by_cases c98 : 3 < (l0.length : Int)
               ·rw [if_pos c98] at H
                have c98b0 : decide (3 < (l0.length : Int)) = true := decide_eq_true c98
                have c98b1 : decide (3 < l0.length) = true := decide_eq_true (by omega)
                clear c98
                replace H := Option.bind_eq_some_iff.mp H
                obtain ⟨t159, A990, H⟩ := H
                try dsimp only at H
                have A99 := Aside0.mk A990
                clear A990
                simp only [Option.some.injEq, Prod.mk.injEq] at H
                obtain ⟨rfl, rfl, rfl, rfl, rfl, rfl⟩ := H
                have p152 : 0 ≤ (1 : Int) := (by omega)
                have q152 : 1 < (l0.length : Int) := of_decide_eq_true (by first | (with_reducible assumption) | assumption)
                obtain ⟨ad152, e152, hx152_0⟩ := Kd.at_string HR0.out 1 p152 q152
                obtain rfl : ad126 = ad152 := (by injection e152)
                (try simp only [show (1 : Int).toNat = 1 from rfl, Nat.reduceMul, Nat.reduceEqDiff, Go.Addr.add, ↓reduceIte] at hx152_0)
                have qi152 : (1 < l0.length) = True := eq_true (by omega)
                (try rw [show ((1 : Int)).toNat = 1 from rfl] at hx152_0)
                replace hx152_0 := (HB.out.cell (World.block_lt_of_cell? w _ hx152_0)).trans hx152_0
                replace p152 := eq_true p152
                replace q152 := eq_true q152
                go_wp2_with (first | ((with_reducible refine gate_callee (f := 25) rfl ?_); refine gl 129 Tryd.func25 #[.string (rdOf ByteArray.empty l0 1)] ?_; (with_reducible refine (spec_l1ReadReg.calls kj86 (rdOf ByteArray.empty l0 1) t153 t154 _ A95.out).mono ?_); rintro e w' ⟨rfl, ⟨nd, rfl⟩⟩; refine ⟨_, rfl, ?_⟩; (try (rw [drewN_self wc]; generalize hq_ : World.drewN wc _ = wc; have n0_ : Aside0 (wc.heap[gb122]? = some (.cells #[.int .i64 0, .int .i64 0, .int .i64 0, .int .i64 0, .int .i64 0, .int .i64 0] 23 (0, 0))) := ⟨by rw [← hq_]; exact (by exact bq BK122.out)⟩; have n1_ : Aside0 (wc.heap[gb128]? = some (.cells #[.int .i64 x129000_1, .int .i64 0, .int .i64 (-1), .int .i64 0, .int .i64 0, .int .i64 x129005_1] 23 (0, 0))) := ⟨by rw [← hq_]; exact (by exact bq BK128.out)⟩; have n2_ : Aside0 (Below w.heap.size w wc) := ⟨by rw [← hq_]; exact zB⟩; clear BK122 BK128 HB hq_; have BK122 := n0_; have BK128 := n1_; have HB := n2_; clear n0_ n1_ n2_)); have p155 : 0 ≤ (2 : Int) := (by omega); have q155 : 2 < (l0.length : Int) := of_decide_eq_true (by first | (with_reducible assumption) | assumption); obtain ⟨ad155, e155, hx155_0⟩ := Kd.at_string HR0.out 2 p155 q155; obtain rfl : ad126 = ad155 := (by injection e155); (try simp only [show (2 : Int).toNat = 2 from rfl, Nat.reduceMul, Nat.reduceEqDiff, Go.Addr.add, ↓reduceIte] at hx155_0); have qi155 : (2 < l0.length) = True := eq_true (by omega); (try rw [show ((2 : Int)).toNat = 2 from rfl] at hx155_0); replace hx155_0 := (HB.out.cell (World.block_lt_of_cell? w _ hx155_0)).trans hx155_0; replace p155 := eq_true p155; replace q155 := eq_true q155) | ((with_reducible refine gate_callee (f := 25) rfl ?_); refine gl 136 Tryd.func25 #[.string (rdOf ByteArray.empty l0 2)] ?_; (with_reducible refine (spec_l1ReadReg.calls kj86 (rdOf ByteArray.empty l0 2) t156 t157 _ A97.out).mono ?_); rintro e w' ⟨rfl, ⟨nd, rfl⟩⟩; refine ⟨_, rfl, ?_⟩; (try (rw [drewN_self wc]; generalize hq_ : World.drewN wc _ = wc; have n0_ : Aside0 (wc.heap[gb122]? = some (.cells #[.int .i64 0, .int .i64 0, .int .i64 0, .int .i64 0, .int .i64 0, .int .i64 0] 23 (0, 0))) := ⟨by rw [← hq_]; exact (by exact bq BK122.out)⟩; have n1_ : Aside0 (wc.heap[gb128]? = some (.cells #[.int .i64 x129000_1, .int .i64 0, .int .i64 (-1), .int .i64 0, .int .i64 0, .int .i64 x129005_1] 23 (0, 0))) := ⟨by rw [← hq_]; exact (by exact bq BK128.out)⟩; have n2_ : Aside0 (Below w.heap.size w wc) := ⟨by rw [← hq_]; exact zB⟩; clear BK122 BK128 HB hq_; have BK122 := n0_; have BK128 := n1_; have HB := n2_; clear n0_ n1_ n2_)); have hnb100 := NB128_122.out; have hnc100 := NB122_128.out; obtain ⟨hcz101_0, hcz101_1, hcz101_2, hcz101_3, hcz101_4, hcz101_5, hfz101_0, hfz101_1, hfz101_2, hfz101_3, hfz101_4, hfz101_5⟩ := zc6 BK128; have p158 : 0 ≤ (3 : Int) := (by omega); have q158 : 3 < (l0.length : Int) := of_decide_eq_true (by first | (with_reducible assumption) | assumption); obtain ⟨ad158, e158, hx158_0⟩ := Kd.at_string HR0.out 3 p158 q158; obtain rfl : ad126 = ad158 := (by injection e158); (try simp only [show (3 : Int).toNat = 3 from rfl, Nat.reduceMul, Nat.reduceEqDiff, Go.Addr.add, ↓reduceIte] at hx158_0); have qi158 : (3 < l0.length) = True := eq_true (by omega); (try rw [show ((3 : Int)).toNat = 3 from rfl] at hx158_0); have hn158_0 : ad126.block ≠ gb128 := Nat.ne_of_lt (Nat.lt_of_lt_of_le (by have := World.block_lt_of_cell? _ _ hx158_0; first | rwa [add_block] at this | exact this) GW128.out); have hn158_1 : ad126.block ≠ gb128 := Nat.ne_of_lt (Nat.lt_of_lt_of_le (by have := World.block_lt_of_cell? _ _ hx158_0; first | rwa [add_block] at this | exact this) GW128.out); replace hx158_0 := (HB.out.cell (World.block_lt_of_cell? w _ hx158_0)).trans hx158_0; replace hx158_0 := (cell_far (p := ⟨gb128, 1, none⟩) (by first | (rw [add_block]; exact hn158_0) | (show (Addr.add _ _).block ≠ _; rw [add_block]; exact hn158_0) | exact hn158_0) (.int .i64 t153)).trans hx158_0; replace hx158_0 := (cell_far (p := ⟨gb128, 2, none⟩) (by first | (rw [add_block]; exact hn158_1) | (show (Addr.add _ _).block ≠ _; rw [add_block]; exact hn158_1) | exact hn158_1) (.int .i64 t156)).trans hx158_0; clear hn158_0; clear hn158_1; replace p158 := eq_true p158; replace q158 := eq_true q158) | ((with_reducible refine gate_callee (f := 26) rfl ?_); refine gl 146 Tryd.func26 #[.string (rdOf ByteArray.empty l0 3)] ?_; (with_reducible refine (spec_l1Signed.calls kj86 (rdOf ByteArray.empty l0 3) t159 _ A99.out).mono ?_); rintro e w' ⟨rfl, ⟨nd, rfl⟩⟩; refine ⟨_, rfl, ?_⟩; obtain ⟨hcz102_0, hcz102_1, hcz102_2, hcz102_3, hcz102_4, hcz102_5, hfz102_0, hfz102_1, hfz102_2, hfz102_3, hfz102_4, hfz102_5⟩ := zc6 BK122))
                refine bodyPost_ret (results_cell_row rfl _ _ gb122 23 #[.int .i64 x129000_1, .int .i64 t153, .int .i64 t156, .int .i64 t159, .int .i64 0, .int .i64 x129005_1] (0, 0) _ rfl (by refine bq ?_; refine blk_put (cs := #[.int .i64 x129000_1, .int .i64 t153, .int .i64 t156, .int .i64 t159, .int .i64 0, .int .i64 0]) ?_ 5 _ rfl; refine bq ?_; refine blk_put (cs := #[.int .i64 x129000_1, .int .i64 t153, .int .i64 t156, .int .i64 t159, .int .i64 0, .int .i64 0]) ?_ 4 _ rfl; refine bq ?_; refine blk_put (cs := #[.int .i64 x129000_1, .int .i64 t153, .int .i64 t156, .int .i64 0, .int .i64 0, .int .i64 0]) ?_ 3 _ rfl; refine bq ?_; refine blk_put (cs := #[.int .i64 x129000_1, .int .i64 t153, .int .i64 0, .int .i64 0, .int .i64 0, .int .i64 0]) ?_ 2 _ rfl; refine bq ?_; refine blk_put (cs := #[.int .i64 x129000_1, .int .i64 0, .int .i64 0, .int .i64 0, .int .i64 0, .int .i64 0]) ?_ 1 _ rfl; refine bq ?_; refine blk_put (cs := #[.int .i64 0, .int .i64 0, .int .i64 0, .int .i64 0, .int .i64 0, .int .i64 0]) ?_ 0 _ rfl; refine fq ?_ NB122_128.out; refine fq ?_ NB122_128.out; refine fq ?_ NB122_128.out; exact bq BK122.out) Tryd.underlying23 rfl (by kernel_rfl)) rfl ?_
                exact ⟨zR, zB⟩
               ·rw [if_neg c98] at H
                exact absurd H (by simp)
              ·rw [if_neg c96] at H
               exact absurd H (by simp)
             ·rw [if_neg c94] at H
              exact absurd H (by simp)
            ·replace c93 := Bool.eq_false_iff.mpr c93
             subst c93
             rw [if_neg (show ¬ (false = true) by decide)] at H
             have HC103 := Aside0.mk H
             clear H
             go_upto_region 25 with (fail)
             go_cut [148] (fun v148 wc => ∃ (kq : Nat) (x148_102 : Bool), v148 = .bool x148_102 ∧ Aside0 (spec_l1Read.j5 kq l0 (l0.length : Int) x148_102 x129000_1 0 (-1) 0 0 x129005_1 = some (r1, r2, r3, r4, r5, r6)) ∧ Aside0 (kq ≤ kj86) ∧ Aside0 (wc.heap[gb122]? = some (.cells #[.int .i64 0, .int .i64 0, .int .i64 0, .int .i64 0, .int .i64 0, .int .i64 0] 23 (0, 0))) ∧ Aside0 (wc.heap[gb128]? = some (.cells #[.int .i64 x129000_1, .int .i64 0, .int .i64 (-1), .int .i64 0, .int .i64 0, .int .i64 x129005_1] 23 (0, 0))) ∧ Aside0 (Below w.heap.size w wc))
             case first =>
              have H := HC103.out
              clear HC103
              by_cases c104 : x129000_1 = 18
              ·rw [if_pos c104] at H
               have c104b0 : (x129000_1 == 18) = true := beq_iff_eq.mpr c104
               have c104b1 : (x129000_1 != 18) = false := bne_eq_false_iff_eq.mpr c104
               clear c104
               (first | rw [c104b0] | (simp only [i64_w, i32_w]; rw [c104b0]) | skip)
               have H' := Aside0.mk H
               clear H
               have hnb105 := NB128_122.out
               have hnc105 := NB122_128.out
               obtain ⟨hcz106_0, hcz106_1, hcz106_2, hcz106_3, hcz106_4, hcz106_5, hfz106_0, hfz106_1, hfz106_2, hfz106_3, hfz106_4, hfz106_5⟩ := zc6 BK128
               as_aux_lemma =>
                go_wp2
                go_meet
                case rel => exact ⟨_, (((l0.length : Int) == 4)), (by first | rfl | (simp; done) | (simp [*]; done)), H', ⟨by have := HK1.out; have := HJ42.out; have := HJ74.out; have := HJ86.out; first | omega | exact Nat.le_refl _⟩, ⟨by exact bq BK122.out⟩, ⟨by exact bq BK128.out⟩, ⟨zB⟩⟩
              ·rw [if_neg c104] at H
               have c104b0 : (x129000_1 == 18) = false := beq_eq_false_iff_ne.mpr c104
               have c104b1 : (x129000_1 != 18) = true := bne_iff_ne.mpr c104
               (first | rw [c104b0] | (simp only [i64_w, i32_w]; rw [c104b0]) | skip)
               have H' := Aside0.mk H
               clear H
               have hnb107 := NB128_122.out
               have hnc107 := NB122_128.out
               obtain ⟨hcz108_0, hcz108_1, hcz108_2, hcz108_3, hcz108_4, hcz108_5, hfz108_0, hfz108_1, hfz108_2, hfz108_3, hfz108_4, hfz108_5⟩ := zc6 BK128
               as_aux_lemma =>
                go_wp2
                go_meet
                case rel => exact ⟨_, (false), (by first | rfl | (simp; done) | (simp [*]; done)), H', ⟨by have := HK1.out; have := HJ42.out; have := HJ74.out; have := HJ86.out; first | omega | exact Nat.le_refl _⟩, ⟨by exact bq BK122.out⟩, ⟨by exact bq BK128.out⟩, ⟨zB⟩⟩
             case rest =>
              clear HC103
              try clear c1
              try clear p1 p1
              try clear q1 q1
              try clear hx1
              try clear qi1
              try clear c2
              try clear p2 p2
              try clear c3
              try clear c3b0
              try clear c3b1
              try clear c4
              try clear c5
              try clear c6
              try clear p6 p6
              try clear c7
              try clear c8
              try clear c9
              try clear c10
              try clear c11
              try clear p12 p12
              try clear q12 q12
              try clear hx12
              try clear qi12
              try clear p13 p13
              try clear q13 q13
              try clear hx13
              try clear qi13
              try clear p14 p14
              try clear q14 q14
              try clear hx14
              try clear qi14
              try clear p15 p15
              try clear q15 q15
              try clear hx15
              try clear qi15
              try clear c17
              try clear c17b0
              try clear c19
              try clear c19b0
              try clear c19b1
              try clear c20
              try clear c21
              try clear c21b0
              try clear c21b1
              try clear c21b2
              try clear c22
              try clear c22b0
              try clear c22b1
              try clear c23
              try clear c25
              try clear c26
              try clear c26b0
              try clear c26b1
              try clear c26b2
              try clear c30
              try clear c32
              try clear c32b0
              try clear c32b1
              try clear c34
              try clear c34b0
              try clear c34b1
              try clear c35
              try clear c35b0
              try clear c35b1
              try clear c41
              try clear c45
              try clear c46
              try clear c46b0
              try clear c46b1
              try clear c47
              try clear c50
              try clear c51
              try clear c53
              try clear c56
              try clear c57
              try clear c59
              try clear c61
              try clear c62
              try clear c62b0
              try clear c62b1
              try clear c64
              try clear c64b0
              try clear c64b1
              try clear p64 p64
              try clear c66
              try clear c66b0
              try clear c66b1
              try clear c67
              try clear c67b0
              try clear c67b1
              try clear c69
              try clear c72
              try clear c76
              try clear c76b0
              try clear c76b1
              try clear c77
              try clear c79
              try clear c81
              try clear c82
              try clear c82b0
              try clear c82b1
              try clear c84
              try clear c88
              try clear c88b0
              try clear c88b1
              try clear c89
              try clear c91
              try clear c93
              try clear c94
              try clear c94b0
              try clear c94b1
              try clear c96
              try clear c96b0
              try clear c96b1
              try clear c98
              try clear c98b0
              try clear c98b1
              try clear c100
              try clear c104
              try clear c104b0
              try clear c104b1
              try clear c105
              try clear c107
              try clear hcz101_0 hcz101_1 hcz101_2 hcz101_3 hcz101_4 hcz101_5 hfz101_0 hfz101_1 hfz101_2 hfz101_3 hfz101_4 hfz101_5
              try clear hcz102_0 hcz102_1 hcz102_2 hcz102_3 hcz102_4 hcz102_5 hfz102_0 hfz102_1 hfz102_2 hfz102_3 hfz102_4 hfz102_5
              try clear hcz106_0 hcz106_1 hcz106_2 hcz106_3 hcz106_4 hcz106_5 hfz106_0 hfz106_1 hfz106_2 hfz106_3 hfz106_4 hfz106_5
              try clear hcz108_0 hcz108_1 hcz108_2 hcz108_3 hcz108_4 hcz108_5 hfz108_0 hfz108_1 hfz108_2 hfz108_3 hfz108_4 hfz108_5
              try clear hcz42_0 hcz42_1 hcz42_2 hcz42_3 hcz42_4 hcz42_5 hfz42_0 hfz42_1 hfz42_2 hfz42_3 hfz42_4 hfz42_5
              try clear hcz48_0 hcz48_1 hcz48_2 hcz48_3 hcz48_4 hcz48_5 hfz48_0 hfz48_1 hfz48_2 hfz48_3 hfz48_4 hfz48_5
              try clear hcz52_0 hcz52_1 hcz52_2 hcz52_3 hcz52_4 hcz52_5 hfz52_0 hfz52_1 hfz52_2 hfz52_3 hfz52_4 hfz52_5
              try clear hcz54_0 hcz54_1 hcz54_2 hcz54_3 hcz54_4 hcz54_5 hfz54_0 hfz54_1 hfz54_2 hfz54_3 hfz54_4 hfz54_5
              try clear hcz58_0 hcz58_1 hcz58_2 hcz58_3 hcz58_4 hcz58_5 hfz58_0 hfz58_1 hfz58_2 hfz58_3 hfz58_4 hfz58_5
              try clear hcz60_0 hcz60_1 hcz60_2 hcz60_3 hcz60_4 hcz60_5 hfz60_0 hfz60_1 hfz60_2 hfz60_3 hfz60_4 hfz60_5
              try clear hcz70_0 hcz70_1 hcz70_2 hcz70_3 hcz70_4 hcz70_5 hfz70_0 hfz70_1 hfz70_2 hfz70_3 hfz70_4 hfz70_5
              try clear hcz71_0 hcz71_1 hcz71_2 hcz71_3 hcz71_4 hcz71_5 hfz71_0 hfz71_1 hfz71_2 hfz71_3 hfz71_4 hfz71_5
              try clear hcz73_0 hcz73_1 hcz73_2 hcz73_3 hcz73_4 hcz73_5 hfz73_0 hfz73_1 hfz73_2 hfz73_3 hfz73_4 hfz73_5
              try clear hcz74_0 hcz74_1 hcz74_2 hcz74_3 hcz74_4 hcz74_5 hfz74_0 hfz74_1 hfz74_2 hfz74_3 hfz74_4 hfz74_5
              try clear hcz78_0 hcz78_1 hcz78_2 hcz78_3 hcz78_4 hcz78_5 hfz78_0 hfz78_1 hfz78_2 hfz78_3 hfz78_4 hfz78_5
              try clear hcz80_0 hcz80_1 hcz80_2 hcz80_3 hcz80_4 hcz80_5 hfz80_0 hfz80_1 hfz80_2 hfz80_3 hfz80_4 hfz80_5
              try clear hcz85_0 hcz85_1 hcz85_2 hcz85_3 hcz85_4 hcz85_5 hfz85_0 hfz85_1 hfz85_2 hfz85_3 hfz85_4 hfz85_5
              try clear hcz86_0 hcz86_1 hcz86_2 hcz86_3 hcz86_4 hcz86_5 hfz86_0 hfz86_1 hfz86_2 hfz86_3 hfz86_4 hfz86_5
              try clear hcz90_0 hcz90_1 hcz90_2 hcz90_3 hcz90_4 hcz90_5 hfz90_0 hfz90_1 hfz90_2 hfz90_3 hfz90_4 hfz90_5
              try clear hcz92_0 hcz92_1 hcz92_2 hcz92_3 hcz92_4 hcz92_5 hfz92_0 hfz92_1 hfz92_2 hfz92_3 hfz92_4 hfz92_5
              try clear hx126_0
              try clear hx129_0
              try clear hx131_0
              try clear hx136_0
              try clear hx137_0
              try clear hx142_0
              try clear hx145_0
              try clear hx148_0
              try clear hx150_0
              try clear hx152_0
              try clear hx155_0
              try clear hx158_0
              try clear p126
              try clear p129
              try clear p131
              try clear p136
              try clear p137
              try clear p142
              try clear p145
              try clear p148
              try clear p150
              try clear p152
              try clear p155
              try clear p158
              try clear q126
              try clear q129
              try clear q131
              try clear q136
              try clear q137
              try clear q142
              try clear q145
              try clear q148
              try clear q150
              try clear q152
              try clear q155
              try clear q158
              obtain ⟨kq, x148_102, rfl, HA, HJ102, BK122, BK128, HB⟩ := hcut
              cases kq with
              | zero => exact absurd HA.out (by simp [spec_l1Read.j5])
              | succ kj102 =>
               have H := HA.out
               clear HA
               simp only [spec_l1Read.j5] at H
               by_cases c109 : x148_102 = true
               ·subst c109
                rw [if_pos rfl] at H
                by_cases c110 : 1 < (l0.length : Int)
                ·rw [if_pos c110] at H
                 have c110b0 : decide (1 < (l0.length : Int)) = true := decide_eq_true c110
                 have c110b1 : decide (1 < l0.length) = true := decide_eq_true (by omega)
                 clear c110
                 replace H := Option.bind_eq_some_iff.mp H
                 obtain ⟨⟨t161, t162⟩, A1110, H⟩ := H
                 try dsimp only at H
                 have A111 := Aside0.mk A1110
                 clear A1110
                 by_cases c112 : 3 < (l0.length : Int)
                 ·rw [if_pos c112] at H
                  have c112b0 : decide (3 < (l0.length : Int)) = true := decide_eq_true c112
                  have c112b1 : decide (3 < l0.length) = true := decide_eq_true (by omega)
                  clear c112
                  replace H := Option.bind_eq_some_iff.mp H
                  obtain ⟨⟨t164, t165⟩, A1130, H⟩ := H
                  try dsimp only at H
                  have A113 := Aside0.mk A1130
                  clear A1130
                  by_cases c114 : 2 < (l0.length : Int)
                  ·rw [if_pos c114] at H
                   have c114b0 : decide (2 < (l0.length : Int)) = true := decide_eq_true c114
                   have c114b1 : decide (2 < l0.length) = true := decide_eq_true (by omega)
                   clear c114
                   replace H := Option.bind_eq_some_iff.mp H
                   obtain ⟨t167, A1150, H⟩ := H
                   try dsimp only at H
                   have A115 := Aside0.mk A1150
                   clear A1150
                   simp only [Option.some.injEq, Prod.mk.injEq] at H
                   obtain ⟨rfl, rfl, rfl, rfl, rfl, rfl⟩ := H
                   have p160 : 0 ≤ (1 : Int) := (by omega)
                   have q160 : 1 < (l0.length : Int) := of_decide_eq_true (by first | (with_reducible assumption) | assumption)
                   obtain ⟨ad160, e160, hx160_0⟩ := Kd.at_string HR0.out 1 p160 q160
                   obtain rfl : ad126 = ad160 := (by injection e160)
                   (try simp only [show (1 : Int).toNat = 1 from rfl, Nat.reduceMul, Nat.reduceEqDiff, Go.Addr.add, ↓reduceIte] at hx160_0)
                   have qi160 : (1 < l0.length) = True := eq_true (by omega)
                   (try rw [show ((1 : Int)).toNat = 1 from rfl] at hx160_0)
                   replace hx160_0 := (HB.out.cell (World.block_lt_of_cell? w _ hx160_0)).trans hx160_0
                   replace p160 := eq_true p160
                   replace q160 := eq_true q160
                   go_wp2_with (first | ((with_reducible refine gate_callee (f := 25) rfl ?_); refine gl 160 Tryd.func25 #[.string (rdOf ByteArray.empty l0 1)] ?_; (with_reducible refine (spec_l1ReadReg.calls kj102 (rdOf ByteArray.empty l0 1) t161 t162 _ A111.out).mono ?_); rintro e w' ⟨rfl, ⟨nd, rfl⟩⟩; refine ⟨_, rfl, ?_⟩; (try (rw [drewN_self wc]; generalize hq_ : World.drewN wc _ = wc; have n0_ : Aside0 (wc.heap[gb122]? = some (.cells #[.int .i64 0, .int .i64 0, .int .i64 0, .int .i64 0, .int .i64 0, .int .i64 0] 23 (0, 0))) := ⟨by rw [← hq_]; exact (by exact bq BK122.out)⟩; have n1_ : Aside0 (wc.heap[gb128]? = some (.cells #[.int .i64 x129000_1, .int .i64 0, .int .i64 (-1), .int .i64 0, .int .i64 0, .int .i64 x129005_1] 23 (0, 0))) := ⟨by rw [← hq_]; exact (by exact bq BK128.out)⟩; have n2_ : Aside0 (Below w.heap.size w wc) := ⟨by rw [← hq_]; exact zB⟩; clear BK122 BK128 HB hq_; have BK122 := n0_; have BK128 := n1_; have HB := n2_; clear n0_ n1_ n2_)); have p163 : 0 ≤ (3 : Int) := (by omega); have q163 : 3 < (l0.length : Int) := of_decide_eq_true (by first | (with_reducible assumption) | assumption); obtain ⟨ad163, e163, hx163_0⟩ := Kd.at_string HR0.out 3 p163 q163; obtain rfl : ad126 = ad163 := (by injection e163); (try simp only [show (3 : Int).toNat = 3 from rfl, Nat.reduceMul, Nat.reduceEqDiff, Go.Addr.add, ↓reduceIte] at hx163_0); have qi163 : (3 < l0.length) = True := eq_true (by omega); (try rw [show ((3 : Int)).toNat = 3 from rfl] at hx163_0); replace hx163_0 := (HB.out.cell (World.block_lt_of_cell? w _ hx163_0)).trans hx163_0; replace p163 := eq_true p163; replace q163 := eq_true q163) | ((with_reducible refine gate_callee (f := 25) rfl ?_); refine gl 167 Tryd.func25 #[.string (rdOf ByteArray.empty l0 3)] ?_; (with_reducible refine (spec_l1ReadReg.calls kj102 (rdOf ByteArray.empty l0 3) t164 t165 _ A113.out).mono ?_); rintro e w' ⟨rfl, ⟨nd, rfl⟩⟩; refine ⟨_, rfl, ?_⟩; (try (rw [drewN_self wc]; generalize hq_ : World.drewN wc _ = wc; have n0_ : Aside0 (wc.heap[gb122]? = some (.cells #[.int .i64 0, .int .i64 0, .int .i64 0, .int .i64 0, .int .i64 0, .int .i64 0] 23 (0, 0))) := ⟨by rw [← hq_]; exact (by exact bq BK122.out)⟩; have n1_ : Aside0 (wc.heap[gb128]? = some (.cells #[.int .i64 x129000_1, .int .i64 0, .int .i64 (-1), .int .i64 0, .int .i64 0, .int .i64 x129005_1] 23 (0, 0))) := ⟨by rw [← hq_]; exact (by exact bq BK128.out)⟩; have n2_ : Aside0 (Below w.heap.size w wc) := ⟨by rw [← hq_]; exact zB⟩; clear BK122 BK128 HB hq_; have BK122 := n0_; have BK128 := n1_; have HB := n2_; clear n0_ n1_ n2_)); have hnb116 := NB128_122.out; have hnc116 := NB122_128.out; obtain ⟨hcz117_0, hcz117_1, hcz117_2, hcz117_3, hcz117_4, hcz117_5, hfz117_0, hfz117_1, hfz117_2, hfz117_3, hfz117_4, hfz117_5⟩ := zc6 BK128; have p166 : 0 ≤ (2 : Int) := (by omega); have q166 : 2 < (l0.length : Int) := of_decide_eq_true (by first | (with_reducible assumption) | assumption); obtain ⟨ad166, e166, hx166_0⟩ := Kd.at_string HR0.out 2 p166 q166; obtain rfl : ad126 = ad166 := (by injection e166); (try simp only [show (2 : Int).toNat = 2 from rfl, Nat.reduceMul, Nat.reduceEqDiff, Go.Addr.add, ↓reduceIte] at hx166_0); have qi166 : (2 < l0.length) = True := eq_true (by omega); (try rw [show ((2 : Int)).toNat = 2 from rfl] at hx166_0); have hn166_0 : ad126.block ≠ gb128 := Nat.ne_of_lt (Nat.lt_of_lt_of_le (by have := World.block_lt_of_cell? _ _ hx166_0; first | rwa [add_block] at this | exact this) GW128.out); replace hx166_0 := (HB.out.cell (World.block_lt_of_cell? w _ hx166_0)).trans hx166_0; replace hx166_0 := (cell_far (p := ⟨gb128, 1, none⟩) (by first | (rw [add_block]; exact hn166_0) | (show (Addr.add _ _).block ≠ _; rw [add_block]; exact hn166_0) | exact hn166_0) (.int .i64 t161)).trans hx166_0; clear hn166_0; replace p166 := eq_true p166; replace q166 := eq_true q166) | ((with_reducible refine gate_callee (f := 26) rfl ?_); refine gl 175 Tryd.func26 #[.string (rdOf ByteArray.empty l0 2)] ?_; (with_reducible refine (spec_l1Signed.calls kj102 (rdOf ByteArray.empty l0 2) t167 _ A115.out).mono ?_); rintro e w' ⟨rfl, ⟨nd, rfl⟩⟩; refine ⟨_, rfl, ?_⟩; obtain ⟨hcz118_0, hcz118_1, hcz118_2, hcz118_3, hcz118_4, hcz118_5, hfz118_0, hfz118_1, hfz118_2, hfz118_3, hfz118_4, hfz118_5⟩ := zc6 BK122))
                   refine bodyPost_ret (results_cell_row rfl _ _ gb122 23 #[.int .i64 x129000_1, .int .i64 t161, .int .i64 t164, .int .i64 t167, .int .i64 t165, .int .i64 x129005_1] (0, 0) _ rfl (by refine bq ?_; refine blk_put (cs := #[.int .i64 x129000_1, .int .i64 t161, .int .i64 t164, .int .i64 t167, .int .i64 t165, .int .i64 0]) ?_ 5 _ rfl; refine bq ?_; refine blk_put (cs := #[.int .i64 x129000_1, .int .i64 t161, .int .i64 t164, .int .i64 t167, .int .i64 0, .int .i64 0]) ?_ 4 _ rfl; refine bq ?_; refine blk_put (cs := #[.int .i64 x129000_1, .int .i64 t161, .int .i64 t164, .int .i64 0, .int .i64 0, .int .i64 0]) ?_ 3 _ rfl; refine bq ?_; refine blk_put (cs := #[.int .i64 x129000_1, .int .i64 t161, .int .i64 0, .int .i64 0, .int .i64 0, .int .i64 0]) ?_ 2 _ rfl; refine bq ?_; refine blk_put (cs := #[.int .i64 x129000_1, .int .i64 0, .int .i64 0, .int .i64 0, .int .i64 0, .int .i64 0]) ?_ 1 _ rfl; refine bq ?_; refine blk_put (cs := #[.int .i64 0, .int .i64 0, .int .i64 0, .int .i64 0, .int .i64 0, .int .i64 0]) ?_ 0 _ rfl; refine fq ?_ NB122_128.out; refine fq ?_ NB122_128.out; refine fq ?_ NB122_128.out; refine fq ?_ NB122_128.out; exact bq BK122.out) Tryd.underlying23 rfl (by kernel_rfl)) rfl ?_
                   exact ⟨zR, zB⟩
                  ·rw [if_neg c114] at H
                   exact absurd H (by simp)
                 ·rw [if_neg c112] at H
                  exact absurd H (by simp)
                ·rw [if_neg c110] at H
                 exact absurd H (by simp)
               ·replace c109 := Bool.eq_false_iff.mpr c109
                subst c109
                rw [if_neg (show ¬ (false = true) by decide)] at H
                have HC119 := Aside0.mk H
                clear H
                go_upto_region 32 with (fail)
                go_cut [181] (fun v181 wc => ∃ (kq : Nat) (x181_118 : Bool), v181 = .bool x181_118 ∧ Aside0 (spec_l1Read.j6 kq l0 x181_118 x129000_1 0 (-1) 0 0 x129005_1 = some (r1, r2, r3, r4, r5, r6)) ∧ Aside0 (kq ≤ kj102) ∧ Aside0 (wc.heap[gb122]? = some (.cells #[.int .i64 0, .int .i64 0, .int .i64 0, .int .i64 0, .int .i64 0, .int .i64 0] 23 (0, 0))) ∧ Aside0 (wc.heap[gb128]? = some (.cells #[.int .i64 x129000_1, .int .i64 0, .int .i64 (-1), .int .i64 0, .int .i64 0, .int .i64 x129005_1] 23 (0, 0))) ∧ Aside0 (Below w.heap.size w wc))
                case first =>
                 have H := HC119.out
                 clear HC119
                 by_cases c120 : x129000_1 = 19
                 ·rw [if_pos c120] at H
                  have c120b0 : (x129000_1 == 19) = true := beq_iff_eq.mpr c120
                  have c120b1 : (x129000_1 != 19) = false := bne_eq_false_iff_eq.mpr c120
                  clear c120
                  (first | rw [c120b0] | (simp only [i64_w, i32_w]; rw [c120b0]) | skip)
                  have H' := Aside0.mk H
                  clear H
                  have hnb121 := NB128_122.out
                  have hnc121 := NB122_128.out
                  obtain ⟨hcz122_0, hcz122_1, hcz122_2, hcz122_3, hcz122_4, hcz122_5, hfz122_0, hfz122_1, hfz122_2, hfz122_3, hfz122_4, hfz122_5⟩ := zc6 BK128
                  as_aux_lemma =>
                   go_wp2
                   go_meet
                   case rel => exact ⟨_, (((l0.length : Int) == 2)), (by first | rfl | (simp; done) | (simp [*]; done)), H', ⟨by have := HK1.out; have := HJ42.out; have := HJ74.out; have := HJ86.out; have := HJ102.out; first | omega | exact Nat.le_refl _⟩, ⟨by exact bq BK122.out⟩, ⟨by exact bq BK128.out⟩, ⟨zB⟩⟩
                 ·rw [if_neg c120] at H
                  have c120b0 : (x129000_1 == 19) = false := beq_eq_false_iff_ne.mpr c120
                  have c120b1 : (x129000_1 != 19) = true := bne_iff_ne.mpr c120
                  (first | rw [c120b0] | (simp only [i64_w, i32_w]; rw [c120b0]) | skip)
                  have H' := Aside0.mk H
                  clear H
                  have hnb123 := NB128_122.out
                  have hnc123 := NB122_128.out
                  obtain ⟨hcz124_0, hcz124_1, hcz124_2, hcz124_3, hcz124_4, hcz124_5, hfz124_0, hfz124_1, hfz124_2, hfz124_3, hfz124_4, hfz124_5⟩ := zc6 BK128
                  as_aux_lemma =>
                   go_wp2
                   go_meet
                   case rel => exact ⟨_, (false), (by first | rfl | (simp; done) | (simp [*]; done)), H', ⟨by have := HK1.out; have := HJ42.out; have := HJ74.out; have := HJ86.out; have := HJ102.out; first | omega | exact Nat.le_refl _⟩, ⟨by exact bq BK122.out⟩, ⟨by exact bq BK128.out⟩, ⟨zB⟩⟩
                case rest =>
                 clear HC119
                 try clear c1
                 try clear p1 p1
                 try clear q1 q1
                 try clear hx1
                 try clear qi1
                 try clear c2
                 try clear p2 p2
                 try clear c3
                 try clear c3b0
                 try clear c3b1
                 try clear c4
                 try clear c5
                 try clear c6
                 try clear p6 p6
                 try clear c7
                 try clear c8
                 try clear c9
                 try clear c10
                 try clear c11
                 try clear c12
                 try clear p12 p12
                 try clear q12 q12
                 try clear hx12
                 try clear qi12
                 try clear p13 p13
                 try clear q13 q13
                 try clear hx13
                 try clear qi13
                 try clear p14 p14
                 try clear q14 q14
                 try clear hx14
                 try clear qi14
                 try clear p15 p15
                 try clear q15 q15
                 try clear hx15
                 try clear qi15
                 try clear p16
                 try clear q16
                 try clear hx16
                 try clear qi16
                 try clear c17
                 try clear c17b0
                 try clear c19
                 try clear c19b0
                 try clear c19b1
                 try clear c20
                 try clear c21
                 try clear c21b0
                 try clear c21b1
                 try clear c21b2
                 try clear c22
                 try clear c22b0
                 try clear c22b1
                 try clear c23
                 try clear c25
                 try clear c26
                 try clear c26b0
                 try clear c26b1
                 try clear c26b2
                 try clear c30
                 try clear c32
                 try clear c32b0
                 try clear c32b1
                 try clear c34
                 try clear c34b0
                 try clear c34b1
                 try clear c35
                 try clear c35b0
                 try clear c35b1
                 try clear c41
                 try clear c45
                 try clear c46
                 try clear c46b0
                 try clear c46b1
                 try clear c47
                 try clear c50
                 try clear c51
                 try clear c53
                 try clear c56
                 try clear c57
                 try clear c59
                 try clear c61
                 try clear c62
                 try clear c62b0
                 try clear c62b1
                 try clear c64
                 try clear c64b0
                 try clear c64b1
                 try clear p64 p64
                 try clear c66
                 try clear c66b0
                 try clear c66b1
                 try clear c67
                 try clear c67b0
                 try clear c67b1
                 try clear c69
                 try clear c72
                 try clear c76
                 try clear c76b0
                 try clear c76b1
                 try clear c77
                 try clear c79
                 try clear c81
                 try clear c82
                 try clear c82b0
                 try clear c82b1
                 try clear c84
                 try clear c88
                 try clear c88b0
                 try clear c88b1
                 try clear c89
                 try clear c91
                 try clear c93
                 try clear c94
                 try clear c94b0
                 try clear c94b1
                 try clear c96
                 try clear c96b0
                 try clear c96b1
                 try clear c98
                 try clear c98b0
                 try clear c98b1
                 try clear c100
                 try clear c104
                 try clear c104b0
                 try clear c104b1
                 try clear c105
                 try clear c107
                 try clear c109
                 try clear c110
                 try clear c110b0
                 try clear c110b1
                 try clear c112
                 try clear c112b0
                 try clear c112b1
                 try clear c114
                 try clear c114b0
                 try clear c114b1
                 try clear c116
                 try clear c120
                 try clear c120b0
                 try clear c120b1
                 try clear c121
                 try clear c123
                 try clear hcz101_0 hcz101_1 hcz101_2 hcz101_3 hcz101_4 hcz101_5 hfz101_0 hfz101_1 hfz101_2 hfz101_3 hfz101_4 hfz101_5
                 try clear hcz102_0 hcz102_1 hcz102_2 hcz102_3 hcz102_4 hcz102_5 hfz102_0 hfz102_1 hfz102_2 hfz102_3 hfz102_4 hfz102_5
                 try clear hcz106_0 hcz106_1 hcz106_2 hcz106_3 hcz106_4 hcz106_5 hfz106_0 hfz106_1 hfz106_2 hfz106_3 hfz106_4 hfz106_5
                 try clear hcz108_0 hcz108_1 hcz108_2 hcz108_3 hcz108_4 hcz108_5 hfz108_0 hfz108_1 hfz108_2 hfz108_3 hfz108_4 hfz108_5
                 try clear hcz117_0 hcz117_1 hcz117_2 hcz117_3 hcz117_4 hcz117_5 hfz117_0 hfz117_1 hfz117_2 hfz117_3 hfz117_4 hfz117_5
                 try clear hcz118_0 hcz118_1 hcz118_2 hcz118_3 hcz118_4 hcz118_5 hfz118_0 hfz118_1 hfz118_2 hfz118_3 hfz118_4 hfz118_5
                 try clear hcz122_0 hcz122_1 hcz122_2 hcz122_3 hcz122_4 hcz122_5 hfz122_0 hfz122_1 hfz122_2 hfz122_3 hfz122_4 hfz122_5
                 try clear hcz124_0 hcz124_1 hcz124_2 hcz124_3 hcz124_4 hcz124_5 hfz124_0 hfz124_1 hfz124_2 hfz124_3 hfz124_4 hfz124_5
                 try clear hcz42_0 hcz42_1 hcz42_2 hcz42_3 hcz42_4 hcz42_5 hfz42_0 hfz42_1 hfz42_2 hfz42_3 hfz42_4 hfz42_5
                 try clear hcz48_0 hcz48_1 hcz48_2 hcz48_3 hcz48_4 hcz48_5 hfz48_0 hfz48_1 hfz48_2 hfz48_3 hfz48_4 hfz48_5
                 try clear hcz52_0 hcz52_1 hcz52_2 hcz52_3 hcz52_4 hcz52_5 hfz52_0 hfz52_1 hfz52_2 hfz52_3 hfz52_4 hfz52_5
                 try clear hcz54_0 hcz54_1 hcz54_2 hcz54_3 hcz54_4 hcz54_5 hfz54_0 hfz54_1 hfz54_2 hfz54_3 hfz54_4 hfz54_5
                 try clear hcz58_0 hcz58_1 hcz58_2 hcz58_3 hcz58_4 hcz58_5 hfz58_0 hfz58_1 hfz58_2 hfz58_3 hfz58_4 hfz58_5
                 try clear hcz60_0 hcz60_1 hcz60_2 hcz60_3 hcz60_4 hcz60_5 hfz60_0 hfz60_1 hfz60_2 hfz60_3 hfz60_4 hfz60_5
                 try clear hcz70_0 hcz70_1 hcz70_2 hcz70_3 hcz70_4 hcz70_5 hfz70_0 hfz70_1 hfz70_2 hfz70_3 hfz70_4 hfz70_5
                 try clear hcz71_0 hcz71_1 hcz71_2 hcz71_3 hcz71_4 hcz71_5 hfz71_0 hfz71_1 hfz71_2 hfz71_3 hfz71_4 hfz71_5
                 try clear hcz73_0 hcz73_1 hcz73_2 hcz73_3 hcz73_4 hcz73_5 hfz73_0 hfz73_1 hfz73_2 hfz73_3 hfz73_4 hfz73_5
                 try clear hcz74_0 hcz74_1 hcz74_2 hcz74_3 hcz74_4 hcz74_5 hfz74_0 hfz74_1 hfz74_2 hfz74_3 hfz74_4 hfz74_5
                 try clear hcz78_0 hcz78_1 hcz78_2 hcz78_3 hcz78_4 hcz78_5 hfz78_0 hfz78_1 hfz78_2 hfz78_3 hfz78_4 hfz78_5
                 try clear hcz80_0 hcz80_1 hcz80_2 hcz80_3 hcz80_4 hcz80_5 hfz80_0 hfz80_1 hfz80_2 hfz80_3 hfz80_4 hfz80_5
                 try clear hcz85_0 hcz85_1 hcz85_2 hcz85_3 hcz85_4 hcz85_5 hfz85_0 hfz85_1 hfz85_2 hfz85_3 hfz85_4 hfz85_5
                 try clear hcz86_0 hcz86_1 hcz86_2 hcz86_3 hcz86_4 hcz86_5 hfz86_0 hfz86_1 hfz86_2 hfz86_3 hfz86_4 hfz86_5
                 try clear hcz90_0 hcz90_1 hcz90_2 hcz90_3 hcz90_4 hcz90_5 hfz90_0 hfz90_1 hfz90_2 hfz90_3 hfz90_4 hfz90_5
                 try clear hcz92_0 hcz92_1 hcz92_2 hcz92_3 hcz92_4 hcz92_5 hfz92_0 hfz92_1 hfz92_2 hfz92_3 hfz92_4 hfz92_5
                 try clear hx126_0
                 try clear hx129_0
                 try clear hx131_0
                 try clear hx136_0
                 try clear hx137_0
                 try clear hx142_0
                 try clear hx145_0
                 try clear hx148_0
                 try clear hx150_0
                 try clear hx152_0
                 try clear hx155_0
                 try clear hx158_0
                 try clear hx160_0
                 try clear hx163_0
                 try clear hx166_0
                 try clear p126
                 try clear p129
                 try clear p131
                 try clear p136
                 try clear p137
                 try clear p142
                 try clear p145
                 try clear p148
                 try clear p150
                 try clear p152
                 try clear p155
                 try clear p158
                 try clear p160
                 try clear p163
                 try clear p166
                 try clear q126
                 try clear q129
                 try clear q131
                 try clear q136
                 try clear q137
                 try clear q142
                 try clear q145
                 try clear q148
                 try clear q150
                 try clear q152
                 try clear q155
                 try clear q158
                 try clear q160
                 try clear q163
                 try clear q166
                 obtain ⟨kq, x181_118, rfl, HA, HJ118, BK122, BK128, HB⟩ := hcut
                 cases kq with
                 | zero => exact absurd HA.out (by simp [spec_l1Read.j6])
                 | succ kj118 =>
                  have H := HA.out
                  clear HA
                  simp only [spec_l1Read.j6] at H
                  by_cases c125 : x181_118 = true
                  ·subst c125
                   rw [if_pos rfl] at H
                   replace H := Option.bind_eq_some_iff.mp H
                   obtain ⟨t168, A1260, H⟩ := H
                   try dsimp only at H
                   have A126 := Aside0.mk A1260
                   clear A1260
                   by_cases c127 : 1 < (l0.length : Int)
                   ·rw [if_pos c127] at H
                    have c127b0 : decide (1 < (l0.length : Int)) = true := decide_eq_true c127
                    have c127b1 : decide (1 < l0.length) = true := decide_eq_true (by omega)
                    clear c127
                    replace H := Option.bind_eq_some_iff.mp H
                    obtain ⟨t172, A1280, H⟩ := H
                    try dsimp only at H
                    have A128 := Aside0.mk A1280
                    clear A1280
                    simp only [Option.some.injEq, Prod.mk.injEq] at H
                    obtain ⟨rfl, rfl, rfl, rfl, rfl, rfl⟩ := H
                    try go_wp2
                    replace BK122 := Aside0.mk (blk_drew BK122.out)
                    replace BK128 := Aside0.mk (blk_drew BK128.out)
                    replace HB := Aside0.mk (below_drew1 HB.out)
                    have p171 : 0 ≤ (1 : Int) := (by omega)
                    have q171 : 1 < (l0.length : Int) := of_decide_eq_true (by first | (with_reducible assumption) | assumption)
                    obtain ⟨ad171, e171, hx171_0⟩ := Kd.at_string HR0.out 1 p171 q171
                    have hw171_0 := hx171_0
                    (try rw [show ((1 : Int)).toNat = 1 from rfl] at hw171_0)
                    (try rw [show 1 * 1 = 1 from rfl] at hw171_0)
                    (try simp only [Nat.reduceMul, Nat.reduceEqDiff, Go.Addr.add, ↓reduceIte] at hw171_0)
                    obtain rfl : ad126 = ad171 := (by injection e171)
                    (try simp only [show (1 : Int).toNat = 1 from rfl, Nat.reduceMul, Nat.reduceEqDiff, Go.Addr.add, ↓reduceIte] at hx171_0)
                    have qi171 : (1 < l0.length) = True := eq_true (by omega)
                    (try rw [show ((1 : Int)).toNat = 1 from rfl] at hx171_0)
                    replace hx171_0 := (HB.out.cell (World.block_lt_of_cell? w _ hx171_0)).trans hx171_0
                    replace p171 := eq_true p171
                    replace q171 := eq_true q171
                    refine start_ (n := 7) (S := fun w' => w'.cell? ⟨ad126.block, ad126.off + 1, none⟩ = some (.string (rdOf ByteArray.empty l0 1))) (ds := []) #[false, false, false, false, false, false, false] (by kernel_rfl) rfl rfl (((HB.out.cell (World.block_lt_of_cell? w _ hw171_0)).trans hw171_0)) (fun hHeld => ?_)
                    generalize wc.drew = w129 at BK122 BK128 HB hx171_0 hHeld ⊢
                    refine pz 1 190 ?_
                    refine pz 2 191 ?_
                    refine take_ (i := 3) (N := some 192) (v := ?_) (a' := ?_) #[false, true, true, true, false, false, false] rfl rfl (by kernel_rfl) (fun _ _ _ h => h) (Or.inl ⟨by rfl, ?_⟩) hHeld ?_ ?_
                    rotate_left
                    ·intro w' s0
                     go_simp
                     with_reducible rfl
                    rotate_left
                    ·simp only [Act.put, List.setIfInBounds_toArray, List.set_cons_zero, List.set_cons_succ, i64_w, i32_w]
                     rfl
                    refine oz 0 189 fun K hK => ?_
                    refine gz Tryd.func27 #[] ?_
                    with_reducible refine (spec_l1Calls.calls  t168 _ A126.out).mono ?_
                    rintro e w130 ⟨v169, rfl, ho0, hb⟩
                    refine ⟨_, rfl, ?_⟩
                    have HO170 := Aside0.mk (Kd.R_lower ho0 (below_size zB))
                    replace BK122 := zb BK122 hb rfl
                    replace BK128 := zb BK128 hb rfl
                    replace HB := zS hb
                    (try clear hb)
                    (try clear hb2)
                    (try clear hk)
                    (try clear hi)
                    (try clear ho0)
                    obtain ⟨Ao131, co131, eo131⟩ := Kd.R_slice HO170.out
                    (first | subst eo131 | (injection eo131 with f1_ f2_ f3_; have f4_ := f1_.symm; have f5_ := f3_.symm; clear f1_ f2_ f3_; subst f4_; subst f5_))
                    refine hK.out _ _ (((HB.out.cell (World.block_lt_of_cell? w _ hw171_0)).trans hw171_0)) (fun hHeld => ?_)
                    clear hK K
                    refine nz ?_
                    refine oz 4 193 fun K hK => ?_
                    refine gz Tryd.func20 #[.slice Ao131 t168.length co131, .string (rdOf ByteArray.empty l0 1)] ?_
                    with_reducible refine (spec_l1Find.calls kj118 _ _ t168 (rdOf ByteArray.empty l0 1) t172 _ ?side1 ?side2 A128.out).mono ?_
                    (case side1 => repeat (first | exact (Kd.R_reads' HO170.out).2.2 | (with_reducible refine Kd.C_alloc ?_ _) | (with_reducible refine Kd.C_drewN ?_ _) | (with_reducible refine Kd.C_drew ?_)))
                    (case side2 => exact (Kd.R_reads' HO170.out).2.1)
                    rintro e w' ⟨rfl, ⟨nd, rfl⟩⟩
                    refine ⟨_, rfl, ?_⟩
                    refine hK.out _ _ (((HB.out.cell (World.block_lt_of_cell? w _ hw171_0)).trans hw171_0)) (fun hHeld => ?_)
                    clear hK K
                    refine nz ?_
                    refine pz 5 194 ?_
                    refine oN 6 fun K hK => ?_
                    have hs132 : w130.cell? ⟨gb128, 4, none⟩ = some (.int .i64 0) := (blk_cell BK128.out 4).trans rfl
                    have hfs132 := blk_frozen BK128.out 4
                    have hns132_0 := NB122_128.out
                    have hms132_0 := NB128_122.out
                    refine skip_ (w1 := ?_) (by rfl) rfl ?_ ?_
                    rotate_left
                    ·go_simp
                     rfl
                    refine hK.out _ _ (((cell_far (p := ⟨gb128, _, none⟩) (by first | exact Nat.ne_of_lt (Nat.lt_of_lt_of_le (by have := World.block_lt_of_cell? _ _ hw171_0; first | rwa [add_block] at this | exact this) GW128.out) | (rw [add_block]; exact Nat.ne_of_lt (Nat.lt_of_lt_of_le (by have := World.block_lt_of_cell? _ _ hw171_0; first | rwa [add_block] at this | exact this) GW128.out)) | (show (Addr.add _ _).block ≠ _; rw [add_block]; exact Nat.ne_of_lt (Nat.lt_of_lt_of_le (by have := World.block_lt_of_cell? _ _ hw171_0; first | rwa [add_block] at this | exact this) GW128.out)) | (dsimp only; exact Nat.ne_of_lt (Nat.lt_of_lt_of_le (by have := World.block_lt_of_cell? _ _ hw171_0; first | rwa [add_block] at this | exact this) GW128.out))) _).trans (hHeld))) (fun hHeld => ?_)
                    clear hK K
                    refine done_ (by kernel_rfl) ?_
                    have hnb133 := NB128_122.out
                    have hnc133 := NB122_128.out
                    obtain ⟨hcz134_0, hcz134_1, hcz134_2, hcz134_3, hcz134_4, hcz134_5, hfz134_0, hfz134_1, hfz134_2, hfz134_3, hfz134_4, hfz134_5⟩ := zc6 BK128
                    obtain ⟨hcz135_0, hcz135_1, hcz135_2, hcz135_3, hcz135_4, hcz135_5, hfz135_0, hfz135_1, hfz135_2, hfz135_3, hfz135_4, hfz135_5⟩ := zc6 BK122
                    try go_wp2
                    refine bodyPost_ret (results_cell_row rfl _ _ gb122 23 #[.int .i64 x129000_1, .int .i64 0, .int .i64 (-1), .int .i64 0, .int .i64 t172, .int .i64 x129005_1] (0, 0) _ rfl (by refine bq ?_; refine blk_put (cs := #[.int .i64 x129000_1, .int .i64 0, .int .i64 (-1), .int .i64 0, .int .i64 t172, .int .i64 0]) ?_ 5 _ rfl; refine bq ?_; refine blk_put (cs := #[.int .i64 x129000_1, .int .i64 0, .int .i64 (-1), .int .i64 0, .int .i64 0, .int .i64 0]) ?_ 4 _ rfl; refine bq ?_; refine blk_put (cs := #[.int .i64 x129000_1, .int .i64 0, .int .i64 (-1), .int .i64 0, .int .i64 0, .int .i64 0]) ?_ 3 _ rfl; refine bq ?_; refine blk_put (cs := #[.int .i64 x129000_1, .int .i64 0, .int .i64 0, .int .i64 0, .int .i64 0, .int .i64 0]) ?_ 2 _ rfl; refine bq ?_; refine blk_put (cs := #[.int .i64 x129000_1, .int .i64 0, .int .i64 0, .int .i64 0, .int .i64 0, .int .i64 0]) ?_ 1 _ rfl; refine bq ?_; refine blk_put (cs := #[.int .i64 0, .int .i64 0, .int .i64 0, .int .i64 0, .int .i64 0, .int .i64 0]) ?_ 0 _ rfl; refine fq ?_ NB122_128.out; exact bq BK122.out) Tryd.underlying23 rfl (by kernel_rfl)) rfl ?_
                    exact ⟨zR, zB⟩
                   ·rw [if_neg c127] at H
                    exact absurd H (by simp)
                  ·replace c125 := Bool.eq_false_iff.mpr c125
                   subst c125
                   rw [if_neg (show ¬ (false = true) by decide)] at H
                   simp only [Option.some.injEq, Prod.mk.injEq] at H
                   obtain ⟨rfl, rfl, rfl, rfl, rfl, rfl⟩ := H
                   have hnb136 := NB128_122.out
                   have hnc136 := NB122_128.out
                   obtain ⟨hcz137_0, hcz137_1, hcz137_2, hcz137_3, hcz137_4, hcz137_5, hfz137_0, hfz137_1, hfz137_2, hfz137_3, hfz137_4, hfz137_5⟩ := zc6 BK128
                   obtain ⟨hcz138_0, hcz138_1, hcz138_2, hcz138_3, hcz138_4, hcz138_5, hfz138_0, hfz138_1, hfz138_2, hfz138_3, hfz138_4, hfz138_5⟩ := zc6 BK122
                   go_wp2
                   refine bodyPost_ret (results_cell_row rfl _ _ gb122 23 #[.int .i64 x129000_1, .int .i64 0, .int .i64 (-1), .int .i64 0, .int .i64 0, .int .i64 x129005_1] (0, 0) _ rfl (by refine bq ?_; refine blk_put (cs := #[.int .i64 x129000_1, .int .i64 0, .int .i64 (-1), .int .i64 0, .int .i64 0, .int .i64 0]) ?_ 5 _ rfl; refine bq ?_; refine blk_put (cs := #[.int .i64 x129000_1, .int .i64 0, .int .i64 (-1), .int .i64 0, .int .i64 0, .int .i64 0]) ?_ 4 _ rfl; refine bq ?_; refine blk_put (cs := #[.int .i64 x129000_1, .int .i64 0, .int .i64 (-1), .int .i64 0, .int .i64 0, .int .i64 0]) ?_ 3 _ rfl; refine bq ?_; refine blk_put (cs := #[.int .i64 x129000_1, .int .i64 0, .int .i64 0, .int .i64 0, .int .i64 0, .int .i64 0]) ?_ 2 _ rfl; refine bq ?_; refine blk_put (cs := #[.int .i64 x129000_1, .int .i64 0, .int .i64 0, .int .i64 0, .int .i64 0, .int .i64 0]) ?_ 1 _ rfl; refine bq ?_; refine blk_put (cs := #[.int .i64 0, .int .i64 0, .int .i64 0, .int .i64 0, .int .i64 0, .int .i64 0]) ?_ 0 _ rfl; exact bq BK122.out) Tryd.underlying23 rfl (by kernel_rfl)) rfl ?_
                   exact ⟨zR, zB⟩
set_option maxHeartbeats 8000000 in
set_option maxRecDepth 100000 in
theorem spec_l1Read.calls (k : Nat) (A0 : Option Addr) (c0 : Nat) (l0 : List ByteArray) (r1 : Int) (r2 : Int) (r3 : Int) (r4 : Int) (r5 : Int) (r6 : Int) (w : World) (hr0 : Kd.C Kd.string w A0 l0.length l0) (hc0 : l0.length ≤ c0) (h : spec_l1Read.f k l0 = some (r1, r2, r3, r4, r5, r6)) :
  Calls Tryd.prog 11 #[.slice A0 l0.length c0] w fun e w' => e = .returned (.agg #[.int .i64 r1, .int .i64 r2, .int .i64 r3, .int .i64 r4, .int .i64 r5, .int .i64 r6]) ∧ Below w.heap.size w w' := by
 have hu23 := Tryd.underlying23
 have HR0 := Aside0.mk hr0
 have HC0 := Aside0.mk hc0
 clear hr0 hc0
 have HB := Aside0.mk (Below.refl w.heap.size w)
 have H : ((spec_l1Words.f).bind fun t123 => (if 0 < (l0.length : Int) then ((spec_l1Find.f k t123 (rdOf ByteArray.empty l0 0)).bind fun t127 => (spec_l1Read.l0 k l0 1 t127 0 (-1) 0 0 0)) else (none))) = some (r1, r2, r3, r4, r5, r6) := h
 clear h
 replace H := Option.bind_eq_some_iff.mp H
 obtain ⟨t123, A20, H⟩ := H
 try dsimp only at H
 have A2 := Aside0.mk A20
 clear A20
 by_cases c3 : 0 < (l0.length : Int)
 ·rw [if_pos c3] at H
  have c3b0 : decide (0 < (l0.length : Int)) = true := decide_eq_true c3
  have c3b1 : decide (0 < l0.length) = true := decide_eq_true (by omega)
  clear c3
  replace H := Option.bind_eq_some_iff.mp H
  obtain ⟨t127, A40, H⟩ := H
  try dsimp only at H
  have A4 := Aside0.mk A40
  clear A40
  exact spec_l1Read.way k A0 c0 l0 r1 r2 r3 r4 r5 r6 w HR0 HC0 t123 A2 c3b0 c3b1 t127 A4 ⟨H⟩ HB
 ·rw [if_neg c3] at H
  exact absurd H (by simp)

end Go.Proofs.YtllmbooicobmkaaDoor.Q
