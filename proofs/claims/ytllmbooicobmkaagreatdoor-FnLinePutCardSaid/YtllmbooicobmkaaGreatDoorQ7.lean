/- The machine's side of this seat's laws: Go functions as Lean functions, and their contracts. By a program of this work over the kit's print. -/
import Derived.Test.YtllmbooicobmkaaGreatDoorQ0
import Derived.Test.YtllmbooicobmkaaGreatDoorQ2
import Derived.Test.YtllmbooicobmkaaGreatDoorQ4
import Derived.Test.YtllmbooicobmkaaGreatDoorQ6
namespace Go.Proofs.YtllmbooicobmkaaGreatDoor.Q
open Go.RowKit Go.Proofs.YtllmbooicobmkaaGreatDoorW.PrintWords Go.Proofs.YtllmbooicobmkaaGreatDoorW.PrintLast Go.Proofs.YtllmbooicobmkaaGreatDoorW.PrintMore
attribute [local go_sem] max2_int min2_int max_two min_two max_three min_three max_four min_four Go.Proofs.YtllmbooicobmkaaGreatDoorN.not_i64 Go.Proofs.YtllmbooicobmkaaGreatDoorN.isSome_setCell
set_option linter.unusedVariables false
set_option linter.unusedSimpArgs false
theorem dz7 {p : Prop} [Decidable p] (h : decide p = true := by first | (with_reducible assumption) | assumption) : p := of_decide_eq_true h
mutual
def spec_l1Read.l0 : Nat → List ByteArray → Int → Int → Int → Int → Int → Int → Int → Option (Int × Int × Int × Int × Int × Int)
 | 0, _, _, _, _, _, _, _, _ => none
 | k + 1, x0, x4, x166000, x166001, x166002, x166003, x166004, x166005 => if x4 ≤ 4 then (if 0 < (x0.length : Int) then ((spec_l1Dec.f k x4).bind fun t167 => (if 4 + t167.size ≤ 9223372036854775807 then (if (rdOf ByteArray.empty x0 0).toList = ((⟨#[108, 111, 97, 100]⟩ : ByteArray) ++ t167).toList then (spec_l1Read.j1 k x0 x4 true x166000 x166001 x166002 x166003 x166004 x166005) else ((spec_l1Dec.f k x4).bind fun t169 => (if 5 + t169.size ≤ 9223372036854775807 then (spec_l1Read.j1 k x0 x4 ((rdOf ByteArray.empty x0 0).toList == ((⟨#[115, 116, 111, 114, 101]⟩ : ByteArray) ++ t169).toList) x166000 x166001 x166002 x166003 x166004 x166005) else (none)))) else (none))) else (none)) else ((spec_l1Alu.f x166000).bind fun t176 => (if t176 = true then (if (x0.length : Int) = 3 then (spec_l1Read.j2 k x0 (x0.length : Int) true x166000 x166001 x166002 x166003 x166004 x166005) else ((spec_l1Jump.f x166000).bind fun t177 => (if t177 = true then (spec_l1Read.j2 k x0 (x0.length : Int) ((x0.length : Int) == 4) x166000 x166001 x166002 x166003 x166004 x166005) else (spec_l1Read.j2 k x0 (x0.length : Int) false x166000 x166001 x166002 x166003 x166004 x166005)))) else ((spec_l1Jump.f x166000).bind fun t178 => (if t178 = true then (spec_l1Read.j2 k x0 (x0.length : Int) ((x0.length : Int) == 4) x166000 x166001 x166002 x166003 x166004 x166005) else (spec_l1Read.j2 k x0 (x0.length : Int) false x166000 x166001 x166002 x166003 x166004 x166005)))))
def spec_l1Read.j1 : Nat → List ByteArray → Int → Bool → Int → Int → Int → Int → Int → Int → Option (Int × Int × Int × Int × Int × Int)
 | 0, _, _, _, _, _, _, _, _, _ => none
 | k + 1, x0, x4, x43, x166000, x166001, x166002, x166003, x166004, x166005 => if x43 = true then ((spec_l1Words.f).bind fun t170 => (if 0 < (x0.length : Int) then (if 0 ≤ (wrap64 (((rdOf ByteArray.empty x0 0).size : Int) - 1)) then (if (wrap64 (((rdOf ByteArray.empty x0 0).size : Int) - 1)) ≤ ((rdOf ByteArray.empty x0 0).size : Int) then ((spec_l1Find.f k t170 ((rdOf ByteArray.empty x0 0).extract 0 ((wrap64 (((rdOf ByteArray.empty x0 0).size : Int) - 1)) : Int).toNat)).bind fun t175 => (spec_l1Read.l0 k x0 (wrap64 (x4 * 2)) t175 x166001 x166002 x166003 x166004 x4)) else (none)) else (none)) else (none))) else (spec_l1Read.l0 k x0 (wrap64 (x4 * 2)) x166000 x166001 x166002 x166003 x166004 x166005)
def spec_l1Read.j2 : Nat → List ByteArray → Int → Bool → Int → Int → Int → Int → Int → Int → Option (Int × Int × Int × Int × Int × Int)
 | 0, _, _, _, _, _, _, _, _, _ => none
 | k + 1, x0, x5, x60, x166000, x166001, x166002, x166003, x166004, x166005 => if x60 = true then (if 1 < (x0.length : Int) then ((spec_l1ReadReg.f k (rdOf ByteArray.empty x0 1)).bind fun bt180 => (if 2 < (x0.length : Int) then ((spec_l1ReadReg.f k (rdOf ByteArray.empty x0 2)).bind fun bt183 => (if x5 = 4 then (if 3 < (x0.length : Int) then ((spec_l1Signed.f k (rdOf ByteArray.empty x0 3)).bind fun t186 => (some (x166000, bt180.1, bt183.1, t186, bt183.2, x166005))) else (none)) else (some (x166000, bt180.1, bt183.1, x166003, bt183.2, x166005)))) else (none))) else (none)) else (if x166000 = 16 then (spec_l1Read.j3 k x0 x5 (x5 == 2) x166000 x166001 x166002 x166003 x166004 x166005) else (spec_l1Read.j3 k x0 x5 false x166000 x166001 x166002 x166003 x166004 x166005))
def spec_l1Read.j3 : Nat → List ByteArray → Int → Bool → Int → Int → Int → Int → Int → Int → Option (Int × Int × Int × Int × Int × Int)
 | 0, _, _, _, _, _, _, _, _, _ => none
 | k + 1, x0, x5, x104, x166000, x166001, x166002, x166003, x166004, x166005 => if x104 = true then (if 1 < (x0.length : Int) then ((spec_l1Signed.f k (rdOf ByteArray.empty x0 1)).bind fun t188 => (some (x166000, x166001, x166002, t188, x166004, x166005))) else (none)) else (if x166000 = 17 then (spec_l1Read.j4 k x0 x5 (x5 == 4) x166000 x166001 x166002 x166003 x166004 x166005) else (spec_l1Read.j4 k x0 x5 false x166000 x166001 x166002 x166003 x166004 x166005))
def spec_l1Read.j4 : Nat → List ByteArray → Int → Bool → Int → Int → Int → Int → Int → Int → Option (Int × Int × Int × Int × Int × Int)
 | 0, _, _, _, _, _, _, _, _, _ => none
 | k + 1, x0, x5, x117, x166000, x166001, x166002, x166003, x166004, x166005 => if x117 = true then (if 1 < (x0.length : Int) then ((spec_l1ReadReg.f k (rdOf ByteArray.empty x0 1)).bind fun bt190 => (if 2 < (x0.length : Int) then ((spec_l1ReadReg.f k (rdOf ByteArray.empty x0 2)).bind fun bt193 => (if 3 < (x0.length : Int) then ((spec_l1Signed.f k (rdOf ByteArray.empty x0 3)).bind fun t196 => (some (x166000, bt190.1, bt193.1, t196, x166004, x166005))) else (none))) else (none))) else (none)) else (if x166000 = 18 then (spec_l1Read.j5 k x0 x5 (x5 == 4) x166000 x166001 x166002 x166003 x166004 x166005) else (spec_l1Read.j5 k x0 x5 false x166000 x166001 x166002 x166003 x166004 x166005))
def spec_l1Read.j5 : Nat → List ByteArray → Int → Bool → Int → Int → Int → Int → Int → Int → Option (Int × Int × Int × Int × Int × Int)
 | 0, _, _, _, _, _, _, _, _, _ => none
 | k + 1, x0, x5, x148, x166000, x166001, x166002, x166003, x166004, x166005 => if x148 = true then (if 1 < (x0.length : Int) then ((spec_l1ReadReg.f k (rdOf ByteArray.empty x0 1)).bind fun bt198 => (if 3 < (x0.length : Int) then ((spec_l1ReadReg.f k (rdOf ByteArray.empty x0 3)).bind fun bt201 => (if 2 < (x0.length : Int) then ((spec_l1Signed.f k (rdOf ByteArray.empty x0 2)).bind fun t204 => (some (x166000, bt198.1, bt201.1, t204, bt201.2, x166005))) else (none))) else (none))) else (none)) else (if x166000 = 19 then (spec_l1Read.j6 k x0 (x5 == 2) x166000 x166001 x166002 x166003 x166004 x166005) else (spec_l1Read.j6 k x0 false x166000 x166001 x166002 x166003 x166004 x166005))
def spec_l1Read.j6 : Nat → List ByteArray → Bool → Int → Int → Int → Int → Int → Int → Option (Int × Int × Int × Int × Int × Int)
 | 0, _, _, _, _, _, _, _, _ => none
 | k + 1, x0, x181, x166000, x166001, x166002, x166003, x166004, x166005 => if x181 = true then ((spec_l1Calls.f).bind fun t205 => (if 1 < (x0.length : Int) then ((spec_l1Find.f k t205 (rdOf ByteArray.empty x0 1)).bind fun t209 => (some (x166000, x166001, x166002, x166003, t209, x166005))) else (none))) else (some (x166000, x166001, x166002, x166003, x166004, x166005))
end
def spec_l1Read.f (k : Nat) (l0 : List ByteArray) : Option (Int × Int × Int × Int × Int × Int) := (spec_l1Words.f).bind fun t160 => (if 0 < (l0.length : Int) then ((spec_l1Find.f k t160 (rdOf ByteArray.empty l0 0)).bind fun t164 => (spec_l1Read.l0 k l0 1 t164 0 (-1) 0 0 0)) else (none))
def spec_l1Read.T1 : Bool × List (List Nat × List Nat) := (true, [([], []), ([], []), ([1], [1]), ([2], [2]), ([0, 3, 0], [0, 3]), ([4], [4]), ([], []), ([6, 5, 4, 0, 1, 2, 3, 4, 5, 6], [5, 6])])
def spec_l1Read.B1 : List Nat := [0, 0, 2, 6, 15, 31, 0, 127]
theorem spec_l1Read.tab1 : rtab .any (opsOf Tryz.f70 1) = spec_l1Read.T1 := by kernel_rfl
theorem spec_l1Read.bits1 : waitsOk spec_l1Read.T1.2 spec_l1Read.B1 = true := by kernel_rfl
def spec_l1Read.T5 : Bool × List (List Nat × List Nat) := (true, [([], []), ([0], [0]), ([1], [1]), ([], []), ([3], [3]), ([4], [4]), ([2, 5], [2, 5]), ([6, 4], [6]), ([7], [7]), ([8, 7], [7, 8]), ([9, 7], [7, 9]), ([7], [7]), ([11, 7, 7], [7, 11]), ([12, 7], [7, 12]), ([10, 13, 7], [7, 10, 13]), ([7, 14], [7, 14])])
def spec_l1Read.B5 : List Nat := [0, 1, 3, 0, 8, 24, 63, 127, 255, 511, 1023, 255, 2303, 6399, 16383, 32767]
theorem spec_l1Read.tab5 : rtab .any (opsOf Tryz.f70 5) = spec_l1Read.T5 := by kernel_rfl
theorem spec_l1Read.bits5 : waitsOk spec_l1Read.T5.2 spec_l1Read.B5 = true := by kernel_rfl
def spec_l1Read.T6 : Bool × List (List Nat × List Nat) := (true, [([], []), ([], []), ([1], [1]), ([2], [2]), ([], []), ([4], [4]), ([5], [5]), ([6], [6]), ([7], [7]), ([3, 8], [3, 8]), ([0, 9, 0], [0, 9]), ([0, 1, 2, 3, 4, 5, 6, 7, 8, 9, 10], []), ([11, 10, 10, 0, 1, 2, 3, 4, 5, 6, 7, 8, 9, 10], [10, 11])])
def spec_l1Read.B6 : List Nat := [0, 0, 2, 6, 0, 16, 48, 112, 240, 510, 1023, 2047, 4095]
theorem spec_l1Read.tab6 : rtab .any (opsOf Tryz.f70 6) = spec_l1Read.T6 := by kernel_rfl
theorem spec_l1Read.bits6 : waitsOk spec_l1Read.T6.2 spec_l1Read.B6 = true := by kernel_rfl
set_option maxHeartbeats 8000000 in
set_option maxRecDepth 100000 in
theorem spec_l1Read.way (k : Nat) (A0 : Option Addr) (c0 : Nat) (l0 : List ByteArray) (r1 r2 : Int) (r3 r4 : Int) (r5 r6 : Int) (w : World) (HR0 : Aside0 (Kd.C Kd.string w A0 l0.length l0)) (HC0 : Aside0 (l0.length ≤ c0)) (t160 : List ByteArray) (A2 : Aside0 (spec_l1Words.f = some t160)) (c3b0 : decide (0 < (l0.length : Int)) = true) (c3b1 : decide (0 < l0.length) = true) (t164 : Int) (A4 : Aside0 (spec_l1Find.f k t160 (rdOf ByteArray.empty l0 0) = some t164)) (H' : Aside0 (spec_l1Read.l0 k l0 1 t164 0 (-1) 0 0 0 = some (r1, r2, r3, r4, r5, r6))) (HB : Aside0 (Below w.heap.size w w)) :
  Calls Tryz.prog 70 #[.slice A0 l0.length c0] w fun e w' => e = .returned (.agg #[.int .i64 r1, .int .i64 r2, .int .i64 r3, .int .i64 r4, .int .i64 r5, .int .i64 r6]) ∧ Below w.heap.size w w' := by
 have hu24 := Tryz.underlying24
 go_enter Tryz.func70, Tryz.ntmps70
 try go_wp2_with (first | ((with_reducible refine gate_dst (N := 2) rfl ?_); refine be 2 #[.int .i64 0, .int .i64 0, .int .i64 0, .int .i64 0, .int .i64 0, .int .i64 0] 24 ?_; intro gb159 hg w5 hbox hb; have BK159 := Aside0.mk hbox; have GW159 := zW hg; replace HB := zS hb; have GE159 := GW159; clear hb hbox hg))
 replace BK159 := Aside0.mk (blk_drew BK159.out)
 replace HB := Aside0.mk (below_drew1 HB.out)
 have p163 : 0 ≤ (0 : Int) := (by omega)
 have q163 : 0 < (l0.length : Int) := dz7
 obtain ⟨ad163, e163, hx163_0⟩ := Kd.at_string HR0.out 0 p163 q163
 have hw163_0 := hx163_0
 (try rw [show ((0 : Int)).toNat = 0 from rfl] at hw163_0)
 (try rw [show 0 * 1 = 0 from rfl] at hw163_0)
 (try rw [Addr.add_zero'] at hw163_0)
 cases e163
 have qi163 : (0 < l0.length) = True := eq_true (by omega)
 (try rw [show ((0 : Int)).toNat = 0 from rfl] at hx163_0)
 (try rw [Addr.add_zero'] at hx163_0)
 replace hx163_0 := (HB.out.cell (World.block_lt_of_cell? w _ hx163_0)).trans hx163_0
 replace p163 := eq_true p163
 replace q163 := eq_true q163
 refine start_ (n := 8) (S := fun w' => w'.cell? ad163 = some (.string (rdOf ByteArray.empty l0 0))) (ds := []) #[false, false, false, false, false, false, false, false] (by kernel_rfl) rfl rfl (((HB.out.cell (World.block_lt_of_cell? w _ hw163_0)).trans hw163_0)) (fun hHeld => ?_); refine with_tabW spec_l1Read.tab1 spec_l1Read.bits1 (fun HT_ HW_ => ?_)
 generalize w5.drew = w6 at BK159 HB hx163_0 hHeld ⊢
 refine pz 1 19 ?_
 refine pz 2 20 ?_
 refine take_ (i := 3) (N := some 21) (v := ?_) (a' := ?_) #[false, true, true, true, false, false, false, false] rfl rfl (take_ofW HT_.out HW_.out (by kernel_rfl)) (fun _ _ _ h => h) (Or.inl ⟨by rfl, ?_⟩) hHeld ?_ ?_
 rotate_left
 ·intro w' s0
  go_simp
  with_reducible rfl
 rotate_left
 ·simp only [Act.put, List.setIfInBounds_toArray, List.set_cons_zero, List.set_cons_succ, i64_w, i32_w]
  rfl
 refine join_ (σ := Value × Nat) 1 #[true, true, true, true, true, true, true, false] (fun s_ => [(18, s_.1), (22, .int .i64 t164), (3, .pointer (some ⟨s_.2, 0, none⟩)), (23, .agg #[.int .i64 t164, .int .i64 0, .int .i64 (-1), .int .i64 0, .int .i64 0, .int .i64 0])]) (fun s_ w' => (w'.cell? ad163 = some (.string (rdOf ByteArray.empty l0 0))) ∧ (Kd.R Kd.string 9 w' w.heap.size (fun _ => True) s_.1 t160) ∧ (w'.heap[gb159]? = some (.cells #[.int .i64 0, .int .i64 0, .int .i64 0, .int .i64 0, .int .i64 0, .int .i64 0] 24 (0, 0))) ∧ (w'.heap[s_.2]? = some (.cells #[.int .i64 0, .int .i64 0, .int .i64 0, .int .i64 0, .int .i64 0, .int .i64 0] 24 (0, 0))) ∧ (w.heap.size ≤ s_.2) ∧ (w.heap.size ≤ s_.2) ∧ (gb159 ≠ s_.2) ∧ (s_.2 ≠ gb159) ∧ (Below w.heap.size w w')) ?_ ?_
 rotate_left
 ·intro hCont
  refine two_ (i := 0) (j := 6) (Ni := some 18) (Nj := some 3) #[true, true, true, true, false, false, false, false] #[false, true, true, true, false, false, true, false] rfl rfl rfl rfl (two_of HT_.out (by kernel_rfl)) (by decide) (by decide) (fun K hK => ?_) (fun K hK => ?_)
  ·skip
   refine gz Tryz.func32 #[] ?_
   with_reducible refine (spec_l1Words.calls  t160 _ A2.out).mono ?_
   rintro e w7 ⟨v161, rfl, ho0, hb⟩
   refine ⟨_, rfl, ?_⟩
   have HO162 := Aside0.mk (Kd.R_lower ho0 (below_size zB))
   replace BK159 := zb BK159 hb rfl
   replace HB := zS hb
   (try clear hb)
   (try clear hi)
   (try clear ho0)
   obtain ⟨Ao8, co8, eo8⟩ := Kd.R_slice HO162.out
   (first | subst eo8 | (injection eo8 with f1_ f2_ f3_; have f4_ := f1_.symm; have f5_ := f3_.symm; clear f1_ f2_ f3_; subst f4_; subst f5_))
   refine hK.out _ _ (((HB.out.cell (World.block_lt_of_cell? w _ hw163_0)).trans hw163_0)) (fun hHeld => ?_)
   clear hK K
   refine nz ?_
   refine two_ (i := 4) (j := 6) (Ni := some 22) (Nj := some 3) #[true, true, true, true, true, false, false, false] #[true, true, true, true, false, false, true, false] rfl rfl rfl rfl (two_of HT_.out (by kernel_rfl)) (by decide) (by decide) (fun K hK => ?_) (fun K hK => ?_)
   ·skip
    refine gz Tryz.func87 #[.slice Ao8 t160.length co8, .string (rdOf ByteArray.empty l0 0)] ?_
    with_reducible refine (spec_l1Find.calls k _ _ t160 (rdOf ByteArray.empty l0 0) t164 _ ?side1 ?side2 A4.out).mono ?_
    (case side1 => exact zC HO162)
    (case side2 => exact (Kd.R_reads' HO162.out).2.1)
    rintro e w' ⟨rfl, ⟨nd, rfl⟩⟩
    refine ⟨_, rfl, ?_⟩
    refine hK.out _ _ (((HB.out.cell (World.block_lt_of_cell? w _ hw163_0)).trans hw163_0)) (fun hHeld => ?_)
    clear hK K
    refine nz ?_
    refine pz 5 23 ?_
    refine oz 6 3 fun K hK => ?_
    refine box_step ?hg (N := 3) ?hd (cs := #[.int .i64 0, .int .i64 0, .int .i64 0, .int .i64 0, .int .i64 0, .int .i64 0]) (t := 24) ?hr ?_; (case hd => rfl); (case hg => rfl); (case hr => first | (go_simp; done) | (go_simp; rfl))
    intro gb165 hg w9 hbox hb
    replace HO162 := Aside0.mk (Kd.R_below (zU HO162) hb)
    have BK165 := Aside0.mk hbox
    have GW165 := zW hg
    have GE165 := zW hg
    replace HB := zS hb
    have NB159_165 := zl BK159 hg rfl
    have NB165_159 := zg BK159 hg rfl
    replace BK159 := zb BK159 hb rfl
    clear hb hbox hg
    refine hK.out _ _ (((HB.out.cell (World.block_lt_of_cell? w _ hw163_0)).trans hw163_0)) (fun hHeld => ?_)
    clear hK K
    refine nz ?_
    exact norm_ (by simp only [putAll, Act.put, List.setIfInBounds_toArray, List.set_cons_zero, List.set_cons_succ]) (hCont (.slice Ao8 t160.length co8, gb165) _ ⟨hHeld, (zU HO162), (by exact bq BK159.out), (by exact bq BK165.out), GW165.out, GE165.out, NB159_165.out, NB165_159.out, zB⟩)
   ·skip
    refine box_step ?hg (N := 3) ?hd (cs := #[.int .i64 0, .int .i64 0, .int .i64 0, .int .i64 0, .int .i64 0, .int .i64 0]) (t := 24) ?hr ?_; (case hd => rfl); (case hg => rfl); (case hr => first | (go_simp; done) | (go_simp; rfl))
    intro gb165 hg w8 hbox hb
    replace HO162 := Aside0.mk (Kd.R_below (zU HO162) hb)
    have BK165 := Aside0.mk hbox
    have GW165 := zW hg
    have GE165 := zW hg
    replace HB := zS hb
    have NB159_165 := zl BK159 hg rfl
    have NB165_159 := zg BK159 hg rfl
    replace BK159 := zb BK159 hb rfl
    clear hb hbox hg
    obtain ⟨Ao9, co9, eo9⟩ := Kd.R_slice HO162.out
    (first | subst eo9 | (injection eo9 with f1_ f2_ f3_; have f4_ := f1_.symm; have f5_ := f3_.symm; clear f1_ f2_ f3_; subst f4_; subst f5_))
    refine hK.out _ _ (((HB.out.cell (World.block_lt_of_cell? w _ hw163_0)).trans hw163_0)) (fun hHeld => ?_)
    clear hK K
    refine nz ?_
    refine oz 4 22 fun K hK => ?_
    refine gz Tryz.func87 #[.slice Ao9 t160.length co9, .string (rdOf ByteArray.empty l0 0)] ?_
    with_reducible refine (spec_l1Find.calls k _ _ t160 (rdOf ByteArray.empty l0 0) t164 _ ?side1 ?side2 A4.out).mono ?_
    (case side1 => exact zC HO162)
    (case side2 => exact (Kd.R_reads' HO162.out).2.1)
    rintro e w' ⟨rfl, ⟨nd, rfl⟩⟩
    refine ⟨_, rfl, ?_⟩
    refine hK.out _ _ (((HB.out.cell (World.block_lt_of_cell? w _ hw163_0)).trans hw163_0)) (fun hHeld => ?_)
    clear hK K
    refine nz ?_
    refine pz 5 23 ?_
    exact norm_ (by simp only [putAll, Act.put, List.setIfInBounds_toArray, List.set_cons_zero, List.set_cons_succ]) (hCont (.slice Ao9 t160.length co9, gb165) _ ⟨hHeld, (zU HO162), (by exact bq BK159.out), (by exact bq BK165.out), GW165.out, GE165.out, NB159_165.out, NB165_159.out, zB⟩)
  ·skip
   refine box_step ?hg (N := 3) ?hd (cs := #[.int .i64 0, .int .i64 0, .int .i64 0, .int .i64 0, .int .i64 0, .int .i64 0]) (t := 24) ?hr ?_; (case hd => rfl); (case hg => rfl); (case hr => first | (go_simp; done) | (go_simp; rfl))
   intro gb165 hg w7 hbox hb
   have BK165 := Aside0.mk hbox
   have GW165 := zW hg
   have GE165 := zW hg
   replace HB := zS hb
   have NB159_165 := zl BK159 hg rfl
   have NB165_159 := zg BK159 hg rfl
   replace BK159 := zb BK159 hb rfl
   clear hb hbox hg
   refine hK.out _ _ (((HB.out.cell (World.block_lt_of_cell? w _ hw163_0)).trans hw163_0)) (fun hHeld => ?_)
   clear hK K
   refine nz ?_
   refine oz 0 18 fun K hK => ?_
   refine gz Tryz.func32 #[] ?_
   with_reducible refine (spec_l1Words.calls  t160 _ A2.out).mono ?_
   rintro e w8 ⟨v161, rfl, ho0, hb⟩
   refine ⟨_, rfl, ?_⟩
   have HO162 := Aside0.mk (Kd.R_lower ho0 (below_size zB))
   replace BK159 := zb BK159 hb rfl
   replace BK165 := zb BK165 hb rfl
   replace HB := zS hb
   (try clear hb)
   (try clear hi)
   (try clear ho0)
   obtain ⟨Ao9, co9, eo9⟩ := Kd.R_slice HO162.out
   (first | subst eo9 | (injection eo9 with f1_ f2_ f3_; have f4_ := f1_.symm; have f5_ := f3_.symm; clear f1_ f2_ f3_; subst f4_; subst f5_))
   refine hK.out _ _ (((HB.out.cell (World.block_lt_of_cell? w _ hw163_0)).trans hw163_0)) (fun hHeld => ?_)
   clear hK K
   refine nz ?_
   refine oz 4 22 fun K hK => ?_
   refine gz Tryz.func87 #[.slice Ao9 t160.length co9, .string (rdOf ByteArray.empty l0 0)] ?_
   with_reducible refine (spec_l1Find.calls k _ _ t160 (rdOf ByteArray.empty l0 0) t164 _ ?side1 ?side2 A4.out).mono ?_
   (case side1 => exact zC HO162)
   (case side2 => exact (Kd.R_reads' HO162.out).2.1)
   rintro e w' ⟨rfl, ⟨nd, rfl⟩⟩
   refine ⟨_, rfl, ?_⟩
   refine hK.out _ _ (((HB.out.cell (World.block_lt_of_cell? w _ hw163_0)).trans hw163_0)) (fun hHeld => ?_)
   clear hK K
   refine nz ?_
   refine pz 5 23 ?_
   exact norm_ (by simp only [putAll, Act.put, List.setIfInBounds_toArray, List.set_cons_zero, List.set_cons_succ]) (hCont (.slice Ao9 t160.length co9, gb165) _ ⟨hHeld, (zU HO162), (by exact bq BK159.out), (by exact bq BK165.out), GW165.out, GE165.out, NB159_165.out, NB165_159.out, zB⟩)
 rintro ⟨v161, gb165⟩ w10 ⟨hS_, h0_, h1_, h2_, h3_, h4_, h5_, h6_, h7_⟩
 have n0_ : Aside0 (Kd.R Kd.string 9 w10 w.heap.size (fun _ => True) v161 t160) := ⟨h0_⟩
 have n1_ : Aside0 (w10.heap[gb159]? = some (.cells #[.int .i64 0, .int .i64 0, .int .i64 0, .int .i64 0, .int .i64 0, .int .i64 0] 24 (0, 0))) := ⟨h1_⟩
 have n2_ : Aside0 (w10.heap[gb165]? = some (.cells #[.int .i64 0, .int .i64 0, .int .i64 0, .int .i64 0, .int .i64 0, .int .i64 0] 24 (0, 0))) := ⟨h2_⟩
 have n3_ : Aside0 (w.heap.size ≤ gb165) := ⟨h3_⟩
 have n4_ : Aside0 (w.heap.size ≤ gb165) := ⟨h4_⟩
 have n5_ : Aside0 (gb159 ≠ gb165) := ⟨h5_⟩
 have n6_ : Aside0 (gb165 ≠ gb159) := ⟨h6_⟩
 have n7_ : Aside0 (Below w.heap.size w w10) := ⟨h7_⟩
 clear BK159
 clear HB
 clear h0_ h1_ h2_ h3_ h4_ h5_ h6_ h7_
 have HO162 := n0_
 have BK159 := n1_
 have BK165 := n2_
 have GW165 := n3_
 have GE165 := n4_
 have NB159_165 := n5_
 have NB165_159 := n6_
 have HB := n7_
 clear n0_ n1_ n2_ n3_ n4_ n5_ n6_ n7_
 have hHeld : w10.cell? ad163 = some (.string (rdOf ByteArray.empty l0 0)) := hS_
 refine norm_ (a' := ?_) ?_ ?_
 rotate_left
 ·simp only [putAll, Act.put, List.setIfInBounds_toArray, List.set_cons_zero, List.set_cons_succ]
  rfl
 refine oN 7 fun K hK => ?_
 have hs11 : w10.cell? ⟨gb165, 0, none⟩ = some (.int .i64 0) := (blk_cell BK165.out 0).trans rfl
 have hfs11 := blk_frozen BK165.out 0
 have hns11_0 := NB159_165.out
 have hms11_0 := NB165_159.out
 have hs12 : w10.cell? ⟨gb165, 1, none⟩ = some (.int .i64 0) := (blk_cell BK165.out 1).trans rfl
 have hfs12 := blk_frozen BK165.out 1
 have hns12_0 := NB159_165.out
 have hms12_0 := NB165_159.out
 have hs13 : w10.cell? ⟨gb165, 2, none⟩ = some (.int .i64 0) := (blk_cell BK165.out 2).trans rfl
 have hfs13 := blk_frozen BK165.out 2
 have hns13_0 := NB159_165.out
 have hms13_0 := NB165_159.out
 have hs14 : w10.cell? ⟨gb165, 3, none⟩ = some (.int .i64 0) := (blk_cell BK165.out 3).trans rfl
 have hfs14 := blk_frozen BK165.out 3
 have hns14_0 := NB159_165.out
 have hms14_0 := NB165_159.out
 have hs15 : w10.cell? ⟨gb165, 4, none⟩ = some (.int .i64 0) := (blk_cell BK165.out 4).trans rfl
 have hfs15 := blk_frozen BK165.out 4
 have hns15_0 := NB159_165.out
 have hms15_0 := NB165_159.out
 have hs16 : w10.cell? ⟨gb165, 5, none⟩ = some (.int .i64 0) := (blk_cell BK165.out 5).trans rfl
 have hfs16 := blk_frozen BK165.out 5
 have hns16_0 := NB159_165.out
 have hms16_0 := NB165_159.out
 refine skip_ (w1 := ?_) (by rfl) rfl ?_ ?_
 rotate_left
 ·go_simp
  rfl
 refine hK.out _ _ (((cell_far (p := ⟨gb165, _, none⟩) (zN hw163_0 GW165) _).trans (((cell_far (p := ⟨gb165, _, none⟩) (zN hw163_0 GW165) _).trans (((cell_far (p := ⟨gb165, _, none⟩) (zN hw163_0 GW165) _).trans (((cell_far (p := ⟨gb165, _, none⟩) (zN hw163_0 GW165) _).trans (((cell_far (p := ⟨gb165, _, none⟩) (zN hw163_0 GW165) _).trans (((cell_far (p := ⟨gb165, _, none⟩) (zN hw163_0 GW165) _).trans (hHeld))))))))))))) (fun hHeld => ?_)
 clear hK K
 refine done_ (done_of HT_.out (by kernel_rfl)) ?_
 try go_wp2
 go_loopg [4] k (fun kq v4 w' => ∃ (x4_1 x166000_1 x166005_1 : Int), v4 = .int .i64 x4_1 ∧ Aside0 (spec_l1Read.l0 kq l0 x4_1 x166000_1 0 (-1) 0 0 x166005_1 = some (r1, r2, r3, r4, r5, r6)) ∧ Aside0 (kq ≤ k) ∧ Aside0 (w'.heap[gb159]? = some (.cells #[.int .i64 0, .int .i64 0, .int .i64 0, .int .i64 0, .int .i64 0, .int .i64 0] 24 (0, 0))) ∧ Aside0 (w'.heap[gb165]? = some (.cells #[.int .i64 x166000_1, .int .i64 0, .int .i64 (-1), .int .i64 0, .int .i64 0, .int .i64 x166005_1] 24 (0, 0))) ∧ Aside0 (Below w.heap.size w w'))
 case atStart => exact ⟨(1), (t164), (0), zQ, H', ⟨Nat.le_refl _⟩, ⟨by refine fq ?_ NB159_165.out; refine fq ?_ NB159_165.out; refine fq ?_ NB159_165.out; refine fq ?_ NB159_165.out; refine fq ?_ NB159_165.out; refine fq ?_ NB159_165.out; exact bq BK159.out⟩, ⟨by refine bq ?_; refine blk_put (cs := #[.int .i64 t164, .int .i64 0, .int .i64 (-1), .int .i64 0, .int .i64 0, .int .i64 0]) ?_ 5 _ rfl; refine bq ?_; refine blk_put (cs := #[.int .i64 t164, .int .i64 0, .int .i64 (-1), .int .i64 0, .int .i64 0, .int .i64 0]) ?_ 4 _ rfl; refine bq ?_; refine blk_put (cs := #[.int .i64 t164, .int .i64 0, .int .i64 (-1), .int .i64 0, .int .i64 0, .int .i64 0]) ?_ 3 _ rfl; refine bq ?_; refine blk_put (cs := #[.int .i64 t164, .int .i64 0, .int .i64 0, .int .i64 0, .int .i64 0, .int .i64 0]) ?_ 2 _ rfl; refine bq ?_; refine blk_put (cs := #[.int .i64 t164, .int .i64 0, .int .i64 0, .int .i64 0, .int .i64 0, .int .i64 0]) ?_ 1 _ rfl; refine bq ?_; refine blk_put (cs := #[.int .i64 0, .int .i64 0, .int .i64 0, .int .i64 0, .int .i64 0, .int .i64 0]) ?_ 0 _ rfl; exact bq BK165.out⟩, ⟨zB⟩⟩
 case round =>
  clear H'
  try clear p1
  try clear q1
  try clear hx1
  try clear qi1
  try clear p2
  try clear c3
  try clear c3b0
  try clear c3b1
  try clear c7
  try clear c8
  try clear p16
  try clear q16
  try clear hx16
  try clear qi16
  try clear hx163_0
  try clear p163
  try clear q163
  obtain ⟨x4_1, x166000_1, x166005_1, rfl, HA, HK1, BK159, BK165, HB⟩ := hrel
  cases gk with
  | zero => exact absurd HA.out (by simp [spec_l1Read.l0])
  | succ k1 =>
   have H := HA.out
   clear HA
   simp only [spec_l1Read.l0] at H
   by_cases c17 : x4_1 ≤ 4
   ·rw [if_pos c17] at H
    have c17b0 : decide (x4_1 ≤ 4) = true := decide_eq_true c17
    clear c17
    have HC18 := Aside0.mk H
    clear H
    go_upto_region 5 with (fail)
    go_cut [43] (fun v43 wc => ∃ (kq : Nat) (x43_17 : Bool), v43 = .bool x43_17 ∧ Aside0 (spec_l1Read.j1 kq l0 x4_1 x43_17 x166000_1 0 (-1) 0 0 x166005_1 = some (r1, r2, r3, r4, r5, r6)) ∧ Aside0 (kq ≤ k1) ∧ Aside0 (wc.heap[gb159]? = some (.cells #[.int .i64 0, .int .i64 0, .int .i64 0, .int .i64 0, .int .i64 0, .int .i64 0] 24 (0, 0))) ∧ Aside0 (wc.heap[gb165]? = some (.cells #[.int .i64 x166000_1, .int .i64 0, .int .i64 (-1), .int .i64 0, .int .i64 0, .int .i64 x166005_1] 24 (0, 0))) ∧ Aside0 (Below w.heap.size w wc))
    case first =>
     have H := HC18.out
     clear HC18
     by_cases c19 : 0 < (l0.length : Int)
     ·rw [if_pos c19] at H
      have c19b0 : decide (0 < (l0.length : Int)) = true := decide_eq_true c19
      have c19b1 : decide (0 < l0.length) = true := decide_eq_true (by omega)
      clear c19
      (first | rw [c19b0] | (simp only [i64_w, i32_w]; rw [c19b0]) | skip)
      replace H := oA H
      obtain ⟨t167, A20, H⟩ := H
      try dsimp only at H
      by_cases c21 : 4 + t167.size ≤ 9223372036854775807
      ·rw [if_pos c21] at H
       have c21b0 := eq_true c21
       have c21b1 : decide (4 + t167.size ≤ 9223372036854775807) = true := decide_eq_true c21
       try have c21b2 : (9223372036854775807 < 4 + t167.size) = False := eq_false (Nat.not_lt.2 c21)
       by_cases c22 : (rdOf ByteArray.empty l0 0).toList = ((⟨#[108, 111, 97, 100]⟩ : ByteArray) ++ t167).toList
       ·rw [if_pos c22] at H
        have c22b0 : ((rdOf ByteArray.empty l0 0).toList == ((⟨#[108, 111, 97, 100]⟩ : ByteArray) ++ t167).toList) = true := beq_iff_eq.mpr c22
        have c22b1 : ((rdOf ByteArray.empty l0 0).toList != ((⟨#[108, 111, 97, 100]⟩ : ByteArray) ++ t167).toList) = false := bne_eq_false_iff_eq.mpr c22
        clear c22
        have H' := Aside0.mk H
        clear H
        try go_wp2
        replace BK159 := Aside0.mk (blk_drew BK159.out)
        replace BK165 := Aside0.mk (blk_drew BK165.out)
        replace HB := Aside0.mk (below_drew1 HB.out)
        have p166 : 0 ≤ (0 : Int) := (by omega)
        have q166 : 0 < (l0.length : Int) := dz7
        obtain ⟨ad166, e166, hx166_0⟩ := Kd.at_string HR0.out 0 p166 q166
        have hw166_0 := hx166_0
        (try rw [show ((0 : Int)).toNat = 0 from rfl] at hw166_0)
        (try rw [show 0 * 1 = 0 from rfl] at hw166_0)
        (try rw [Addr.add_zero'] at hw166_0)
        obtain rfl : ad163 = ad166 := (by injection e166)
        have qi166 : (0 < l0.length) = True := eq_true (by omega)
        (try rw [show ((0 : Int)).toNat = 0 from rfl] at hx166_0)
        (try rw [Addr.add_zero'] at hx166_0)
        replace hx166_0 := (HB.out.cell (World.block_lt_of_cell? w _ hx166_0)).trans hx166_0
        replace p166 := eq_true p166
        replace q166 := eq_true q166
        refine start_ (n := 16) (S := fun w' => w'.cell? ad163 = some (.string (rdOf ByteArray.empty l0 0))) (ds := []) #[false, false, false, false, false, false, false, false, false, false, false, false, false, false, false, false] (by kernel_rfl) rfl rfl (((HB.out.cell (World.block_lt_of_cell? w _ hw166_0)).trans hw166_0)) (fun hHeld => ?_); refine with_tabW spec_l1Read.tab5 spec_l1Read.bits5 (fun HT_ HW_ => ?_)
        generalize wr.drew = w23 at BK159 BK165 HB hx166_0 hHeld ⊢
        refine pz 0 28 ?_
        refine pz 1 29 ?_
        refine pz 3 31 ?_
        refine take_ (i := 2) (N := some 30) (v := ?_) (a' := ?_) #[true, true, true, true, false, false, false, false, false, false, false, false, false, false, false, false] rfl rfl (take_ofW HT_.out HW_.out (by kernel_rfl)) (fun _ _ _ h => h) (Or.inl ⟨by rfl, ?_⟩) hHeld ?_ ?_
        rotate_left
        ·intro w' s0
         go_simp
         with_reducible rfl
        rotate_left
        ·simp only [Act.put, List.setIfInBounds_toArray, List.set_cons_zero, List.set_cons_succ, i64_w, i32_w]
         rfl
        refine oz 4 32 fun K hK => ?_
        refine gz Tryz.func33 #[.int .i64 x4_1] ?_
        with_reducible refine (spec_l1Dec.calls k1 x4_1 t167 _ A20.out).mono ?_
        rintro e w24 ⟨rfl, hb⟩
        refine ⟨_, rfl, ?_⟩
        replace BK159 := zb BK159 hb rfl
        replace BK165 := zb BK165 hb rfl
        replace HB := zS hb
        try clear hb
        refine hK.out _ _ (((HB.out.cell (World.block_lt_of_cell? w _ hw166_0)).trans hw166_0)) (fun hHeld => ?_)
        clear hK K
        refine nz ?_
        refine pz 5 33 ?_
        refine pz 6 34 ?_
        refine pz 7 35 ?_
        refine uz 8 36 ?_
        refine uz 9 37 ?_
        refine uz 10 38 ?_
        refine uz 11 39 ?_
        refine uz 12 40 ?_
        refine uz 13 41 ?_
        refine uz 14 42 ?_
        refine pz 15 43 ?_
        refine done_ (done_of HT_.out (by kernel_rfl)) ?_
        as_aux_lemma =>
         try go_wp2
         go_meet
         case rel => exact ⟨_, (true), zQ, H', ⟨by have := HK1.out; first | omega | exact Nat.le_refl _⟩, ⟨by exact bq BK159.out⟩, ⟨by exact bq BK165.out⟩, ⟨zB⟩⟩
       ·rw [if_neg c22] at H
        have c22b0 : ((rdOf ByteArray.empty l0 0).toList == ((⟨#[108, 111, 97, 100]⟩ : ByteArray) ++ t167).toList) = false := beq_eq_false_iff_ne.mpr c22
        have c22b1 : ((rdOf ByteArray.empty l0 0).toList != ((⟨#[108, 111, 97, 100]⟩ : ByteArray) ++ t167).toList) = true := bne_iff_ne.mpr c22
        replace H := oA H
        obtain ⟨t169, A25, H⟩ := H
        try dsimp only at H
        by_cases c26 : 5 + t169.size ≤ 9223372036854775807
        ·rw [if_pos c26] at H
         have c26b0 := eq_true c26
         have c26b1 : decide (5 + t169.size ≤ 9223372036854775807) = true := decide_eq_true c26
         try have c26b2 : (9223372036854775807 < 5 + t169.size) = False := eq_false (Nat.not_lt.2 c26)
         have H' := Aside0.mk H
         clear H
         as_aux_lemma =>
          try go_wp2
          replace BK159 := Aside0.mk (blk_drew BK159.out)
          replace BK165 := Aside0.mk (blk_drew BK165.out)
          replace HB := Aside0.mk (below_drew1 HB.out)
          have p166 : 0 ≤ (0 : Int) := (by omega)
          have q166 : 0 < (l0.length : Int) := dz7
          obtain ⟨ad166, e166, hx166_0⟩ := Kd.at_string HR0.out 0 p166 q166
          have hw166_0 := hx166_0
          (try rw [show ((0 : Int)).toNat = 0 from rfl] at hw166_0)
          (try rw [show 0 * 1 = 0 from rfl] at hw166_0)
          (try rw [Addr.add_zero'] at hw166_0)
          obtain rfl : ad163 = ad166 := (by injection e166)
          have qi166 : (0 < l0.length) = True := eq_true (by omega)
          (try rw [show ((0 : Int)).toNat = 0 from rfl] at hx166_0)
          (try rw [Addr.add_zero'] at hx166_0)
          replace hx166_0 := (HB.out.cell (World.block_lt_of_cell? w _ hx166_0)).trans hx166_0
          replace p166 := eq_true p166
          replace q166 := eq_true q166
          have p168 : 0 ≤ (0 : Int) := (by omega)
          have q168 : 0 < (l0.length : Int) := dz7
          obtain ⟨ad168, e168, hx168_0⟩ := Kd.at_string HR0.out 0 p168 q168
          have hw168_0 := hx168_0
          (try rw [show ((0 : Int)).toNat = 0 from rfl] at hw168_0)
          (try rw [show 0 * 1 = 0 from rfl] at hw168_0)
          (try rw [Addr.add_zero'] at hw168_0)
          obtain rfl : ad163 = ad168 := (by injection e168)
          have qi168 : (0 < l0.length) = True := eq_true (by omega)
          (try rw [show ((0 : Int)).toNat = 0 from rfl] at hx168_0)
          (try rw [Addr.add_zero'] at hx168_0)
          replace hx168_0 := (HB.out.cell (World.block_lt_of_cell? w _ hx168_0)).trans hx168_0
          replace p168 := eq_true p168
          replace q168 := eq_true q168
          refine start_ (n := 16) (S := fun w' => w'.cell? ad163 = some (.string (rdOf ByteArray.empty l0 0)) ∧ w'.cell? ad163 = some (.string (rdOf ByteArray.empty l0 0))) (ds := []) #[false, false, false, false, false, false, false, false, false, false, false, false, false, false, false, false] (by kernel_rfl) rfl rfl ⟨((HB.out.cell (World.block_lt_of_cell? w _ hw166_0)).trans hw166_0), ((HB.out.cell (World.block_lt_of_cell? w _ hw168_0)).trans hw168_0)⟩ (fun hHeld => ?_); refine with_tabW spec_l1Read.tab5 spec_l1Read.bits5 (fun HT_ HW_ => ?_)
          generalize wr.drew = w27 at BK159 BK165 HB hx166_0 hx168_0 hHeld ⊢
          refine pz 0 28 ?_
          refine pz 1 29 ?_
          refine pz 3 31 ?_
          refine tz 2 30 ?_
          refine oz 4 32 fun K hK => ?_
          refine gz Tryz.func33 #[.int .i64 x4_1] ?_
          with_reducible refine (spec_l1Dec.calls k1 x4_1 t167 _ A20.out).mono ?_
          rintro e w28 ⟨rfl, hb⟩
          refine ⟨_, rfl, ?_⟩
          replace BK159 := zb BK159 hb rfl
          replace BK165 := zb BK165 hb rfl
          replace HB := zS hb
          try clear hb
          refine hK.out _ _ ⟨((HB.out.cell (World.block_lt_of_cell? w _ hw166_0)).trans hw166_0), ((HB.out.cell (World.block_lt_of_cell? w _ hw168_0)).trans hw168_0)⟩ (fun hHeld => ?_)
          clear hK K
          refine nz ?_
          refine pz 5 33 ?_
          refine pz 6 34 ?_
          refine pz 7 35 ?_
          refine pz 8 36 ?_
          refine pz 9 37 ?_
          refine pz 11 39 ?_
          refine tz 10 38 ?_
          refine oz 12 40 fun K hK => ?_
          refine gz Tryz.func33 #[.int .i64 x4_1] ?_
          with_reducible refine (spec_l1Dec.calls k1 x4_1 t169 _ A25.out).mono ?_
          rintro e w29 ⟨rfl, hb⟩
          refine ⟨_, rfl, ?_⟩
          replace BK159 := zb BK159 hb rfl
          replace BK165 := zb BK165 hb rfl
          replace HB := zS hb
          try clear hb
          refine hK.out _ _ ⟨((HB.out.cell (World.block_lt_of_cell? w _ hw166_0)).trans hw166_0), ((HB.out.cell (World.block_lt_of_cell? w _ hw168_0)).trans hw168_0)⟩ (fun hHeld => ?_)
          clear hK K
          refine nz ?_
          refine pz 13 41 ?_
          refine pz 14 42 ?_
          refine pz 15 43 ?_
          refine done_ (done_of HT_.out (by kernel_rfl)) ?_
          try go_wp2
          go_meet
          case rel => exact ⟨_, (((rdOf ByteArray.empty l0 0).toList == ((⟨#[115, 116, 111, 114, 101]⟩ : ByteArray) ++ t169).toList)), zQ, H', ⟨by have := HK1.out; first | omega | exact Nat.le_refl _⟩, ⟨by exact bq BK159.out⟩, ⟨by exact bq BK165.out⟩, ⟨zB⟩⟩
        ·exact absurd H (nN c26)
      ·exact absurd H (nN c21)
     ·exact absurd H (nN c19)
    case rest =>
     clear HC18
     try clear c1
     try clear p1 p1
     try clear q1 q1
     try clear hx1
     try clear qi1
     try clear c2
     try clear p2 p2
     try clear c3
     try clear c3b0
     try clear c3b1
     try clear c7
     try clear c8
     try clear p16 p16
     try clear q16 q16
     try clear hx16
     try clear qi16
     try clear c17
     try clear c17b0
     try clear c19
     try clear c19b0
     try clear c19b1
     try clear c21
     try clear c21b0
     try clear c21b1
     try clear c21b2
     try clear c22
     try clear c22b0
     try clear c22b1
     try clear c26
     try clear c26b0
     try clear c26b1
     try clear c26b2
     try clear hx163_0
     try clear hx166_0
     try clear hx168_0
     try clear p163
     try clear p166
     try clear p168
     try clear q163
     try clear q166
     try clear q168
     obtain ⟨kq, x43_17, rfl, HA, HJ17, BK159, BK165, HB⟩ := hcut
     cases kq with
     | zero => exact absurd HA.out (by simp [spec_l1Read.j1])
     | succ kj17 =>
      have H := HA.out
      clear HA
      simp only [spec_l1Read.j1] at H
      by_cases c30 : x43_17 = true
      ·subst c30
       rw [if_pos rfl] at H
       replace H := oA H
       obtain ⟨t170, A31, H⟩ := H
       try dsimp only at H
       by_cases c32 : 0 < (l0.length : Int)
       ·rw [if_pos c32] at H
        have c32b0 : decide (0 < (l0.length : Int)) = true := decide_eq_true c32
        have c32b1 : decide (0 < l0.length) = true := decide_eq_true (by omega)
        clear c32
        obtain ⟨ji33, hji33⟩ : ∃ j_ : Int, (wrap64 (((rdOf ByteArray.empty l0 0).size : Int) - 1)) = j_ := ⟨_, rfl⟩
        replace H : (if 0 ≤ (ji33) then (if (ji33) ≤ ((rdOf ByteArray.empty l0 0).size : Int) then ((spec_l1Find.f kj17 t170 ((rdOf ByteArray.empty l0 0).extract 0 ((ji33) : Int).toNat)).bind fun t175 => (spec_l1Read.l0 kj17 l0 (wrap64 (x4_1 * 2)) t175 0 (-1) 0 0 x4_1)) else (none)) else (none)) = some (r1, r2, r3, r4, r5, r6) := by first | (rw [hji33] at H; exact H) | (simp only [hji33] at H ⊢; exact H)
        (try rw [hji33] at A31)
        have hji33w : (IntKind.i64.wrap (((rdOf ByteArray.empty l0 0).size : Int) - 1)) = ji33 := (i64_w _).trans hji33
        by_cases c34 : 0 ≤ (ji33)
        ·rw [if_pos c34] at H
         have c34b0 := eq_true c34
         have c34b1 : decide (0 ≤ (ji33)) = true := decide_eq_true c34
         clear c34
         by_cases c35 : (ji33) ≤ ((rdOf ByteArray.empty l0 0).size : Int)
         ·rw [if_pos c35] at H
          have c35b0 := eq_true c35
          have c35b1 : decide ((ji33) ≤ ((rdOf ByteArray.empty l0 0).size : Int)) = true := decide_eq_true c35
          clear c35
          replace H := oA H
          obtain ⟨t175, A36, H⟩ := H
          try dsimp only at H
          have H' := Aside0.mk H
          clear H
          try go_wp2
          replace BK159 := Aside0.mk (blk_drew BK159.out)
          replace BK165 := Aside0.mk (blk_drew BK165.out)
          replace HB := Aside0.mk (below_drew1 HB.out)
          have p173 : 0 ≤ (0 : Int) := (by omega)
          have q173 : 0 < (l0.length : Int) := dz7
          obtain ⟨ad173, e173, hx173_0⟩ := Kd.at_string HR0.out 0 p173 q173
          have hw173_0 := hx173_0
          (try rw [show ((0 : Int)).toNat = 0 from rfl] at hw173_0)
          (try rw [show 0 * 1 = 0 from rfl] at hw173_0)
          (try rw [Addr.add_zero'] at hw173_0)
          obtain rfl : ad163 = ad173 := (by injection e173)
          have qi173 : (0 < l0.length) = True := eq_true (by omega)
          (try rw [show ((0 : Int)).toNat = 0 from rfl] at hx173_0)
          (try rw [Addr.add_zero'] at hx173_0)
          replace hx173_0 := (HB.out.cell (World.block_lt_of_cell? w _ hx173_0)).trans hx173_0
          replace p173 := eq_true p173
          replace q173 := eq_true q173
          have p174 : 0 ≤ (0 : Int) := (by omega)
          have q174 : 0 < (l0.length : Int) := dz7
          obtain ⟨ad174, e174, hx174_0⟩ := Kd.at_string HR0.out 0 p174 q174
          have hw174_0 := hx174_0
          (try rw [show ((0 : Int)).toNat = 0 from rfl] at hw174_0)
          (try rw [show 0 * 1 = 0 from rfl] at hw174_0)
          (try rw [Addr.add_zero'] at hw174_0)
          obtain rfl : ad163 = ad174 := (by injection e174)
          have qi174 : (0 < l0.length) = True := eq_true (by omega)
          (try rw [show ((0 : Int)).toNat = 0 from rfl] at hx174_0)
          (try rw [Addr.add_zero'] at hx174_0)
          replace hx174_0 := (HB.out.cell (World.block_lt_of_cell? w _ hx174_0)).trans hx174_0
          replace p174 := eq_true p174
          replace q174 := eq_true q174
          refine start_ (n := 13) (S := fun w' => w'.cell? ad163 = some (.string (rdOf ByteArray.empty l0 0)) ∧ w'.cell? ad163 = some (.string (rdOf ByteArray.empty l0 0))) (ds := []) #[false, false, false, false, false, false, false, false, false, false, false, false, false] (by kernel_rfl) rfl rfl ⟨((HB.out.cell (World.block_lt_of_cell? w _ hw173_0)).trans hw173_0), ((HB.out.cell (World.block_lt_of_cell? w _ hw174_0)).trans hw174_0)⟩ (fun hHeld => ?_); refine with_tabW spec_l1Read.tab6 spec_l1Read.bits6 (fun HT_ HW_ => ?_)
          generalize wc.drew = w37 at BK159 BK165 HB hx173_0 hx174_0 hHeld ⊢
          refine pz 1 45 ?_
          refine pz 2 46 ?_
          refine pz 4 48 ?_
          refine pz 5 49 ?_
          refine tz 3 47 ?_
          refine tz 6 50 ?_
          refine pz 7 51 ?_
          refine pz 8 52 ?_
          refine pz 9 53 ?_
          refine oz 0 44 fun K hK => ?_
          refine gz Tryz.func32 #[] ?_
          with_reducible refine (spec_l1Words.calls  t170 _ A31.out).mono ?_
          rintro e w38 ⟨v171, rfl, ho0, hb⟩
          refine ⟨_, rfl, ?_⟩
          have HO172 := Aside0.mk (Kd.R_lower ho0 (below_size zB))
          replace BK159 := zb BK159 hb rfl
          replace BK165 := zb BK165 hb rfl
          replace HB := zS hb
          (try clear hb)
          (try clear hi)
          (try clear ho0)
          obtain ⟨Ao39, co39, eo39⟩ := Kd.R_slice HO172.out
          (first | subst eo39 | (injection eo39 with f1_ f2_ f3_; have f4_ := f1_.symm; have f5_ := f3_.symm; clear f1_ f2_ f3_; subst f4_; subst f5_))
          refine hK.out _ _ ⟨((HB.out.cell (World.block_lt_of_cell? w _ hw173_0)).trans hw173_0), ((HB.out.cell (World.block_lt_of_cell? w _ hw174_0)).trans hw174_0)⟩ (fun hHeld => ?_)
          clear hK K
          refine nz ?_
          refine oz 10 54 fun K hK => ?_
          refine goes_ Tryz.func87 (by kernel_rfl) rfl #[.slice Ao39 t170.length co39, .string ((rdOf ByteArray.empty l0 0).extract 0 ((ji33) : Int).toNat)] (by rfl) rfl rfl (by (try simp only [List.map_toArray, List.map_cons, List.map_nil]); first | done | (simp only [hji33]; rfl) | rfl | (simp only [List.length_drop, List.length_take]; rfl)) ?_
          with_reducible refine (spec_l1Find.calls kj17 _ _ t170 ((rdOf ByteArray.empty l0 0).extract 0 ((ji33) : Int).toNat) t175 _ ?side1 ?side2 A36.out).mono ?_
          (case side1 => exact zC HO172)
          (case side2 => exact (Kd.R_reads' HO172.out).2.1)
          rintro e w' ⟨rfl, ⟨nd, rfl⟩⟩
          refine ⟨_, rfl, ?_⟩
          refine hK.out _ _ ⟨((HB.out.cell (World.block_lt_of_cell? w _ hw173_0)).trans hw173_0), ((HB.out.cell (World.block_lt_of_cell? w _ hw174_0)).trans hw174_0)⟩ (fun hHeld => ?_)
          clear hK K
          refine nz ?_
          refine pz 11 55 ?_
          refine oN 12 fun K hK => ?_
          have hs40 : w38.cell? ⟨gb165, 0, none⟩ = some (.int .i64 x166000_1) := (blk_cell BK165.out 0).trans rfl
          have hfs40 := blk_frozen BK165.out 0
          have hns40_0 := NB159_165.out
          have hms40_0 := NB165_159.out
          refine skip_ (w1 := ?_) (by rfl) rfl ?_ ?_
          rotate_left
          ·go_simp
           rfl
          refine hK.out _ _ ⟨((cell_far (p := ⟨gb165, _, none⟩) (zN hw173_0 GW165) _).trans (hHeld.1)), ((cell_far (p := ⟨gb165, _, none⟩) (zN hw174_0 GW165) _).trans (hHeld.2))⟩ (fun hHeld => ?_)
          clear hK K
          refine done_ (done_of HT_.out (by kernel_rfl)) ?_
          have hnb41 := NB165_159.out
          have hnc41 := NB159_165.out
          obtain ⟨u42_0, u42_1, u42_2, u42_3, u42_4, u42_5, v42_0, v42_1, v42_2, v42_3, v42_4, v42_5⟩ := zc6 BK165
          try go_wp2
          go_roundg kj17
          case measure => have := HK1.out; have := HJ17.out; omega
          case rel => exact ⟨(wrap64 (x4_1 * 2)), (t175), (x4_1), zQ, H', ⟨by have := HK1.out; have := HJ17.out; omega⟩, ⟨by refine fq ?_ NB159_165.out; refine fq ?_ NB159_165.out; exact bq BK159.out⟩, ⟨by refine bq ?_; refine blk_put (cs := #[.int .i64 t175, .int .i64 0, .int .i64 (-1), .int .i64 0, .int .i64 0, .int .i64 x166005_1]) ?_ 5 _ rfl; refine bq ?_; refine blk_put (cs := #[.int .i64 x166000_1, .int .i64 0, .int .i64 (-1), .int .i64 0, .int .i64 0, .int .i64 x166005_1]) ?_ 0 _ rfl; exact bq BK165.out⟩, ⟨zB⟩⟩
         ·exact absurd H (nN c35)
        ·exact absurd H (nN c34)
       ·exact absurd H (nN c32)
      ·replace c30 := Bool.eq_false_iff.mpr c30
       subst c30
       rw [if_neg (show ¬ (false = true) by decide)] at H
       have H' := Aside0.mk H
       clear H
       go_wp2
       go_roundg kj17
       case measure => have := HK1.out; have := HJ17.out; omega
       case rel => exact ⟨(wrap64 (x4_1 * 2)), (x166000_1), (x166005_1), zQ, H', ⟨by have := HK1.out; have := HJ17.out; omega⟩, ⟨by exact bq BK159.out⟩, ⟨by exact bq BK165.out⟩, ⟨zB⟩⟩
   ·rw [if_neg c17] at H
    have c17b0 : decide (x4_1 ≤ 4) = false := decide_eq_false c17
    clear c17
    have HC43 := Aside0.mk H
    clear H
    go_upto_region 9 with (fail)
    go_cut [60] (fun v60 wc => ∃ (kq : Nat) (x60_42 : Bool), v60 = .bool x60_42 ∧ Aside0 (spec_l1Read.j2 kq l0 (l0.length : Int) x60_42 x166000_1 0 (-1) 0 0 x166005_1 = some (r1, r2, r3, r4, r5, r6)) ∧ Aside0 (kq ≤ k1) ∧ Aside0 (wc.heap[gb159]? = some (.cells #[.int .i64 0, .int .i64 0, .int .i64 0, .int .i64 0, .int .i64 0, .int .i64 0] 24 (0, 0))) ∧ Aside0 (wc.heap[gb165]? = some (.cells #[.int .i64 x166000_1, .int .i64 0, .int .i64 (-1), .int .i64 0, .int .i64 0, .int .i64 x166005_1] 24 (0, 0))) ∧ Aside0 (Below w.heap.size w wc))
    case first =>
     have H := HC43.out
     clear HC43
     replace H := oA H
     obtain ⟨t176, A44, H⟩ := H
     try dsimp only at H
     by_cases c45 : t176 = true
     ·subst c45
      rw [if_pos rfl] at H
      by_cases c46 : (l0.length : Int) = 3
      ·rw [if_pos c46] at H
       have c46b0 : ((l0.length : Int) == 3) = true := beq_iff_eq.mpr c46
       have c46b1 : ((l0.length : Int) != 3) = false := bne_eq_false_iff_eq.mpr c46
       clear c46
       (first | rw [c46b0] | (simp only [i64_w, i32_w]; rw [c46b0]) | skip)
       have H' := Aside0.mk H
       clear H
       have hnb47 := NB165_159.out
       have hnc47 := NB159_165.out
       obtain ⟨u48_0, u48_1, u48_2, u48_3, u48_4, u48_5, v48_0, v48_1, v48_2, v48_3, v48_4, v48_5⟩ := zc6 BK165
       as_aux_lemma =>
        go_wp2_with (first | ((with_reducible refine gate_callee (f := 34) rfl ?_); refine gl 63 Tryz.func34 #[.int .i64 x166000_1] ?_; (with_reducible refine (spec_l1Alu.calls x166000_1 true _ A44.out).mono ?_); rintro e w' ⟨rfl, ⟨nd, rfl⟩⟩; refine ⟨_, rfl, ?_⟩))
        go_meet
        case rel => exact ⟨_, (true), zQ, H', ⟨by have := HK1.out; first | omega | exact Nat.le_refl _⟩, ⟨by exact bq BK159.out⟩, ⟨by exact bq BK165.out⟩, ⟨zB⟩⟩
      ·rw [if_neg c46] at H
       have c46b0 : ((l0.length : Int) == 3) = false := beq_eq_false_iff_ne.mpr c46
       have c46b1 : ((l0.length : Int) != 3) = true := bne_iff_ne.mpr c46
       (first | rw [c46b0] | (simp only [i64_w, i32_w]; rw [c46b0]) | skip)
       replace H := oA H
       obtain ⟨t177, A49, H⟩ := H
       try dsimp only at H
       by_cases c50 : t177 = true
       ·subst c50
        rw [if_pos rfl] at H
        have H' := Aside0.mk H
        clear H
        have hnb51 := NB165_159.out
        have hnc51 := NB159_165.out
        obtain ⟨u52_0, u52_1, u52_2, u52_3, u52_4, u52_5, v52_0, v52_1, v52_2, v52_3, v52_4, v52_5⟩ := zc6 BK165
        as_aux_lemma =>
         go_wp2_with (first | ((with_reducible refine gate_callee (f := 34) rfl ?_); refine gl 63 Tryz.func34 #[.int .i64 x166000_1] ?_; (with_reducible refine (spec_l1Alu.calls x166000_1 true _ A44.out).mono ?_); rintro e w' ⟨rfl, ⟨nd, rfl⟩⟩; refine ⟨_, rfl, ?_⟩) | (go_at_call 36; (with_reducible refine (spec_l1Jump.calls x166000_1 true _ A49.out).mono ?_); rintro e w' ⟨rfl, ⟨nd, rfl⟩⟩))
         go_meet
         case rel => exact ⟨_, (((l0.length : Int) == 4)), zQ, H', ⟨by have := HK1.out; first | omega | exact Nat.le_refl _⟩, ⟨by exact bq BK159.out⟩, ⟨by exact bq BK165.out⟩, ⟨zB⟩⟩
       ·replace c50 := Bool.eq_false_iff.mpr c50
        subst c50
        rw [if_neg (show ¬ (false = true) by decide)] at H
        have H' := Aside0.mk H
        clear H
        have hnb53 := NB165_159.out
        have hnc53 := NB159_165.out
        obtain ⟨u54_0, u54_1, u54_2, u54_3, u54_4, u54_5, v54_0, v54_1, v54_2, v54_3, v54_4, v54_5⟩ := zc6 BK165
        as_aux_lemma =>
         go_wp2_with (first | ((with_reducible refine gate_callee (f := 34) rfl ?_); refine gl 63 Tryz.func34 #[.int .i64 x166000_1] ?_; (with_reducible refine (spec_l1Alu.calls x166000_1 true _ A44.out).mono ?_); rintro e w' ⟨rfl, ⟨nd, rfl⟩⟩; refine ⟨_, rfl, ?_⟩) | (go_at_call 36; (with_reducible refine (spec_l1Jump.calls x166000_1 false _ A49.out).mono ?_); rintro e w' ⟨rfl, ⟨nd, rfl⟩⟩))
         go_meet
         case rel => exact ⟨_, (false), zQ, H', ⟨by have := HK1.out; first | omega | exact Nat.le_refl _⟩, ⟨by exact bq BK159.out⟩, ⟨by exact bq BK165.out⟩, ⟨zB⟩⟩
     ·replace c45 := Bool.eq_false_iff.mpr c45
      subst c45
      rw [if_neg (show ¬ (false = true) by decide)] at H
      replace H := oA H
      obtain ⟨t178, A55, H⟩ := H
      try dsimp only at H
      by_cases c56 : t178 = true
      ·subst c56
       rw [if_pos rfl] at H
       have H' := Aside0.mk H
       clear H
       have hnb57 := NB165_159.out
       have hnc57 := NB159_165.out
       obtain ⟨u58_0, u58_1, u58_2, u58_3, u58_4, u58_5, v58_0, v58_1, v58_2, v58_3, v58_4, v58_5⟩ := zc6 BK165
       as_aux_lemma =>
        go_wp2_with (first | ((with_reducible refine gate_callee (f := 34) rfl ?_); refine gl 63 Tryz.func34 #[.int .i64 x166000_1] ?_; (with_reducible refine (spec_l1Alu.calls x166000_1 false _ A44.out).mono ?_); rintro e w' ⟨rfl, ⟨nd, rfl⟩⟩; refine ⟨_, rfl, ?_⟩) | (go_at_call 36; (with_reducible refine (spec_l1Jump.calls x166000_1 true _ A55.out).mono ?_); rintro e w' ⟨rfl, ⟨nd, rfl⟩⟩))
        go_meet
        case rel => exact ⟨_, (((l0.length : Int) == 4)), zQ, H', ⟨by have := HK1.out; first | omega | exact Nat.le_refl _⟩, ⟨by exact bq BK159.out⟩, ⟨by exact bq BK165.out⟩, ⟨zB⟩⟩
      ·replace c56 := Bool.eq_false_iff.mpr c56
       subst c56
       rw [if_neg (show ¬ (false = true) by decide)] at H
       have H' := Aside0.mk H
       clear H
       have hnb59 := NB165_159.out
       have hnc59 := NB159_165.out
       obtain ⟨u60_0, u60_1, u60_2, u60_3, u60_4, u60_5, v60_0, v60_1, v60_2, v60_3, v60_4, v60_5⟩ := zc6 BK165
       as_aux_lemma =>
        go_wp2_with (first | ((with_reducible refine gate_callee (f := 34) rfl ?_); refine gl 63 Tryz.func34 #[.int .i64 x166000_1] ?_; (with_reducible refine (spec_l1Alu.calls x166000_1 false _ A44.out).mono ?_); rintro e w' ⟨rfl, ⟨nd, rfl⟩⟩; refine ⟨_, rfl, ?_⟩) | (go_at_call 36; (with_reducible refine (spec_l1Jump.calls x166000_1 false _ A55.out).mono ?_); rintro e w' ⟨rfl, ⟨nd, rfl⟩⟩))
        go_meet
        case rel => exact ⟨_, (false), zQ, H', ⟨by have := HK1.out; first | omega | exact Nat.le_refl _⟩, ⟨by exact bq BK159.out⟩, ⟨by exact bq BK165.out⟩, ⟨zB⟩⟩
    case rest =>
     clear HC43
     try clear c1
     try clear p1 p1
     try clear q1 q1
     try clear hx1
     try clear qi1
     try clear c2
     try clear p2 p2
     try clear c3
     try clear c3b0
     try clear c3b1
     try clear c4
     try clear c5
     try clear p6
     try clear c7
     try clear c8
     try clear p16 p16
     try clear q16 q16
     try clear hx16
     try clear qi16
     try clear c17
     try clear c17b0
     try clear p17
     try clear q17
     try clear hx17
     try clear qi17
     try clear c19
     try clear c19b0
     try clear c19b1
     try clear c21
     try clear c21b0
     try clear c21b1
     try clear c21b2
     try clear c22
     try clear c22b0
     try clear c22b1
     try clear c26
     try clear c26b0
     try clear c26b1
     try clear c26b2
     try clear c30
     try clear c32
     try clear c32b0
     try clear c32b1
     try clear c33
     try clear c34
     try clear c34b0
     try clear c34b1
     try clear c35
     try clear c35b0
     try clear c35b1
     try clear c41
     try clear c45
     try clear c46
     try clear c46b0
     try clear c46b1
     try clear c47
     try clear c50
     try clear c51
     try clear c53
     try clear c56
     try clear c57
     try clear c59
     try clear u42_0 u42_1 u42_2 u42_3 u42_4 u42_5 v42_0 v42_1 v42_2 v42_3 v42_4 v42_5
     try clear u48_0 u48_1 u48_2 u48_3 u48_4 u48_5 v48_0 v48_1 v48_2 v48_3 v48_4 v48_5
     try clear u52_0 u52_1 u52_2 u52_3 u52_4 u52_5 v52_0 v52_1 v52_2 v52_3 v52_4 v52_5
     try clear u54_0 u54_1 u54_2 u54_3 u54_4 u54_5 v54_0 v54_1 v54_2 v54_3 v54_4 v54_5
     try clear u58_0 u58_1 u58_2 u58_3 u58_4 u58_5 v58_0 v58_1 v58_2 v58_3 v58_4 v58_5
     try clear u60_0 u60_1 u60_2 u60_3 u60_4 u60_5 v60_0 v60_1 v60_2 v60_3 v60_4 v60_5
     try clear hx163_0
     try clear hx166_0
     try clear hx168_0
     try clear hx173_0
     try clear hx174_0
     try clear p163
     try clear p166
     try clear p168
     try clear p173
     try clear p174
     try clear q163
     try clear q166
     try clear q168
     try clear q173
     try clear q174
     obtain ⟨kq, x60_42, rfl, HA, HJ42, BK159, BK165, HB⟩ := hcut
     cases kq with
     | zero => exact absurd HA.out (by simp [spec_l1Read.j2])
     | succ kj42 =>
      have H := HA.out
      clear HA
      simp only [spec_l1Read.j2] at H
      by_cases c61 : x60_42 = true
      ·subst c61
       rw [if_pos rfl] at H
       by_cases c62 : 1 < (l0.length : Int)
       ·rw [if_pos c62] at H
        have c62b0 : decide (1 < (l0.length : Int)) = true := decide_eq_true c62
        have c62b1 : decide (1 < l0.length) = true := decide_eq_true (by omega)
        clear c62
        replace H := oA H
        obtain ⟨⟨t180, t181⟩, A63, H⟩ := H
        try dsimp only at H
        by_cases c64 : 2 < (l0.length : Int)
        ·rw [if_pos c64] at H
         have c64b0 : decide (2 < (l0.length : Int)) = true := decide_eq_true c64
         have c64b1 : decide (2 < l0.length) = true := decide_eq_true (by omega)
         clear c64
         replace H := oA H
         obtain ⟨⟨t183, t184⟩, A65, H⟩ := H
         try dsimp only at H
         by_cases c66 : (l0.length : Int) = 4
         ·rw [if_pos c66] at H
          have c66b0 : ((l0.length : Int) == 4) = true := beq_iff_eq.mpr c66
          have c66b1 : ((l0.length : Int) != 4) = false := bne_eq_false_iff_eq.mpr c66
          clear c66
          by_cases c67 : 3 < (l0.length : Int)
          ·rw [if_pos c67] at H
           have c67b0 : decide (3 < (l0.length : Int)) = true := decide_eq_true c67
           have c67b1 : decide (3 < l0.length) = true := decide_eq_true (by omega)
           clear c67
           replace H := oA H
           obtain ⟨t186, A68, H⟩ := H
           try dsimp only at H
           simp only [Option.some.injEq, Prod.mk.injEq] at H
           obtain ⟨rfl, rfl, rfl, rfl, rfl, rfl⟩ := H
           have p179 : 0 ≤ (1 : Int) := (by omega)
           have q179 : 1 < (l0.length : Int) := dz7
           obtain ⟨ad179, e179, hx179_0⟩ := Kd.at_string HR0.out 1 p179 q179
           obtain rfl : ad163 = ad179 := (by injection e179)
           (try simp only [show (1 : Int).toNat = 1 from rfl, Nat.reduceMul, Nat.reduceEqDiff, Go.Addr.add, ↓reduceIte] at hx179_0)
           have qi179 : (1 < l0.length) = True := eq_true (by omega)
           (try rw [show ((1 : Int)).toNat = 1 from rfl] at hx179_0)
           replace hx179_0 := (HB.out.cell (World.block_lt_of_cell? w _ hx179_0)).trans hx179_0
           replace p179 := eq_true p179
           replace q179 := eq_true q179
           go_wp2_with (first | ((with_reducible refine gate_callee (f := 88) rfl ?_); refine gl 81 Tryz.func88 #[.string (rdOf ByteArray.empty l0 1)] ?_; (with_reducible refine (spec_l1ReadReg.calls kj42 (rdOf ByteArray.empty l0 1) t180 t181 _ A63.out).mono ?_); rintro e w' ⟨rfl, ⟨nd, rfl⟩⟩; refine ⟨_, rfl, ?_⟩; (try (rw [drewN_self wc]; generalize hq_ : World.drewN wc _ = wc; have n0_ : Aside0 (wc.heap[gb159]? = some (.cells #[.int .i64 0, .int .i64 0, .int .i64 0, .int .i64 0, .int .i64 0, .int .i64 0] 24 (0, 0))) := ⟨by rw [← hq_]; exact (by exact bq BK159.out)⟩; have n1_ : Aside0 (wc.heap[gb165]? = some (.cells #[.int .i64 x166000_1, .int .i64 0, .int .i64 (-1), .int .i64 0, .int .i64 0, .int .i64 x166005_1] 24 (0, 0))) := ⟨by rw [← hq_]; exact (by exact bq BK165.out)⟩; have n2_ : Aside0 (Below w.heap.size w wc) := ⟨by rw [← hq_]; exact zB⟩; clear BK159 BK165 HB hq_; have BK159 := n0_; have BK165 := n1_; have HB := n2_; clear n0_ n1_ n2_)); have p182 : 0 ≤ (2 : Int) := (by omega); have q182 : 2 < (l0.length : Int) := dz7; obtain ⟨ad182, e182, hx182_0⟩ := Kd.at_string HR0.out 2 p182 q182; obtain rfl : ad163 = ad182 := (by injection e182); (try simp only [show (2 : Int).toNat = 2 from rfl, Nat.reduceMul, Nat.reduceEqDiff, Go.Addr.add, ↓reduceIte] at hx182_0); have qi182 : (2 < l0.length) = True := eq_true (by omega); (try rw [show ((2 : Int)).toNat = 2 from rfl] at hx182_0); replace hx182_0 := (HB.out.cell (World.block_lt_of_cell? w _ hx182_0)).trans hx182_0; replace p182 := eq_true p182; replace q182 := eq_true q182) | ((with_reducible refine gate_callee (f := 88) rfl ?_); refine gl 88 Tryz.func88 #[.string (rdOf ByteArray.empty l0 2)] ?_; (with_reducible refine (spec_l1ReadReg.calls kj42 (rdOf ByteArray.empty l0 2) t183 t184 _ A65.out).mono ?_); rintro e w' ⟨rfl, ⟨nd, rfl⟩⟩; refine ⟨_, rfl, ?_⟩; (try (rw [drewN_self wc]; generalize hq_ : World.drewN wc _ = wc; have n0_ : Aside0 (wc.heap[gb159]? = some (.cells #[.int .i64 0, .int .i64 0, .int .i64 0, .int .i64 0, .int .i64 0, .int .i64 0] 24 (0, 0))) := ⟨by rw [← hq_]; exact (by exact bq BK159.out)⟩; have n1_ : Aside0 (wc.heap[gb165]? = some (.cells #[.int .i64 x166000_1, .int .i64 0, .int .i64 (-1), .int .i64 0, .int .i64 0, .int .i64 x166005_1] 24 (0, 0))) := ⟨by rw [← hq_]; exact (by exact bq BK165.out)⟩; have n2_ : Aside0 (Below w.heap.size w wc) := ⟨by rw [← hq_]; exact zB⟩; clear BK159 BK165 HB hq_; have BK159 := n0_; have BK165 := n1_; have HB := n2_; clear n0_ n1_ n2_)); have hnb69 := NB165_159.out; have hnc69 := NB159_165.out; obtain ⟨u70_0, u70_1, u70_2, u70_3, u70_4, u70_5, v70_0, v70_1, v70_2, v70_3, v70_4, v70_5⟩ := zc6 BK165; have p185 : 0 ≤ (3 : Int) := (by omega); have q185 : 3 < (l0.length : Int) := dz7; obtain ⟨ad185, e185, hx185_0⟩ := Kd.at_string HR0.out 3 p185 q185; obtain rfl : ad163 = ad185 := (by injection e185); (try simp only [show (3 : Int).toNat = 3 from rfl, Nat.reduceMul, Nat.reduceEqDiff, Go.Addr.add, ↓reduceIte] at hx185_0); have qi185 : (3 < l0.length) = True := eq_true (by omega); (try rw [show ((3 : Int)).toNat = 3 from rfl] at hx185_0); have hn185_0 : ad163.block ≠ gb165 := Nat.ne_of_lt (Nat.lt_of_lt_of_le (by have := World.block_lt_of_cell? _ _ hx185_0; first | rwa [add_block] at this | exact this) GW165.out); have hn185_1 : ad163.block ≠ gb165 := Nat.ne_of_lt (Nat.lt_of_lt_of_le (by have := World.block_lt_of_cell? _ _ hx185_0; first | rwa [add_block] at this | exact this) GW165.out); have hn185_2 : ad163.block ≠ gb165 := Nat.ne_of_lt (Nat.lt_of_lt_of_le (by have := World.block_lt_of_cell? _ _ hx185_0; first | rwa [add_block] at this | exact this) GW165.out); replace hx185_0 := (HB.out.cell (World.block_lt_of_cell? w _ hx185_0)).trans hx185_0; replace hx185_0 := (cell_far (p := ⟨gb165, 1, none⟩) (by first | (rw [add_block]; exact hn185_0) | (show (Addr.add _ _).block ≠ _; rw [add_block]; exact hn185_0) | exact hn185_0) (.int .i64 t180)).trans hx185_0; replace hx185_0 := (cell_far (p := ⟨gb165, 2, none⟩) (by first | (rw [add_block]; exact hn185_1) | (show (Addr.add _ _).block ≠ _; rw [add_block]; exact hn185_1) | exact hn185_1) (.int .i64 t183)).trans hx185_0; replace hx185_0 := (cell_far (p := ⟨gb165, 4, none⟩) (by first | (rw [add_block]; exact hn185_2) | (show (Addr.add _ _).block ≠ _; rw [add_block]; exact hn185_2) | exact hn185_2) (.int .i64 t184)).trans hx185_0; clear hn185_0; clear hn185_1; clear hn185_2; replace p185 := eq_true p185; replace q185 := eq_true q185) | ((with_reducible refine gate_callee (f := 89) rfl ?_); refine gl 102 Tryz.func89 #[.string (rdOf ByteArray.empty l0 3)] ?_; (with_reducible refine (spec_l1Signed.calls kj42 (rdOf ByteArray.empty l0 3) t186 _ A68.out).mono ?_); rintro e w' ⟨rfl, ⟨nd, rfl⟩⟩; refine ⟨_, rfl, ?_⟩; obtain ⟨u71_0, u71_1, u71_2, u71_3, u71_4, u71_5, v71_0, v71_1, v71_2, v71_3, v71_4, v71_5⟩ := zc6 BK159))
           refine bodyPost_ret (results_cell_row rfl _ _ gb159 24 #[.int .i64 x166000_1, .int .i64 t180, .int .i64 t183, .int .i64 t186, .int .i64 t184, .int .i64 x166005_1] (0, 0) _ rfl (by refine bq ?_; refine blk_put (cs := #[.int .i64 x166000_1, .int .i64 t180, .int .i64 t183, .int .i64 t186, .int .i64 t184, .int .i64 0]) ?_ 5 _ rfl; refine bq ?_; refine blk_put (cs := #[.int .i64 x166000_1, .int .i64 t180, .int .i64 t183, .int .i64 t186, .int .i64 0, .int .i64 0]) ?_ 4 _ rfl; refine bq ?_; refine blk_put (cs := #[.int .i64 x166000_1, .int .i64 t180, .int .i64 t183, .int .i64 0, .int .i64 0, .int .i64 0]) ?_ 3 _ rfl; refine bq ?_; refine blk_put (cs := #[.int .i64 x166000_1, .int .i64 t180, .int .i64 0, .int .i64 0, .int .i64 0, .int .i64 0]) ?_ 2 _ rfl; refine bq ?_; refine blk_put (cs := #[.int .i64 x166000_1, .int .i64 0, .int .i64 0, .int .i64 0, .int .i64 0, .int .i64 0]) ?_ 1 _ rfl; refine bq ?_; refine blk_put (cs := #[.int .i64 0, .int .i64 0, .int .i64 0, .int .i64 0, .int .i64 0, .int .i64 0]) ?_ 0 _ rfl; refine fq ?_ NB159_165.out; refine fq ?_ NB159_165.out; refine fq ?_ NB159_165.out; refine fq ?_ NB159_165.out; exact bq BK159.out) Tryz.underlying24 rfl (by kernel_rfl)) rfl ?_
           exact ⟨zR, zB⟩
          ·exact absurd H (nN c67)
         ·rw [if_neg c66] at H
          have c66b0 : ((l0.length : Int) == 4) = false := beq_eq_false_iff_ne.mpr c66
          have c66b1 : ((l0.length : Int) != 4) = true := bne_iff_ne.mpr c66
          simp only [Option.some.injEq, Prod.mk.injEq] at H
          obtain ⟨rfl, rfl, rfl, rfl, rfl, rfl⟩ := H
          have p179 : 0 ≤ (1 : Int) := (by omega)
          have q179 : 1 < (l0.length : Int) := dz7
          obtain ⟨ad179, e179, hx179_0⟩ := Kd.at_string HR0.out 1 p179 q179
          obtain rfl : ad163 = ad179 := (by injection e179)
          (try simp only [show (1 : Int).toNat = 1 from rfl, Nat.reduceMul, Nat.reduceEqDiff, Go.Addr.add, ↓reduceIte] at hx179_0)
          have qi179 : (1 < l0.length) = True := eq_true (by omega)
          (try rw [show ((1 : Int)).toNat = 1 from rfl] at hx179_0)
          replace hx179_0 := (HB.out.cell (World.block_lt_of_cell? w _ hx179_0)).trans hx179_0
          replace p179 := eq_true p179
          replace q179 := eq_true q179
          go_wp2_with (first | ((with_reducible refine gate_callee (f := 88) rfl ?_); refine gl 81 Tryz.func88 #[.string (rdOf ByteArray.empty l0 1)] ?_; (with_reducible refine (spec_l1ReadReg.calls kj42 (rdOf ByteArray.empty l0 1) t180 t181 _ A63.out).mono ?_); rintro e w' ⟨rfl, ⟨nd, rfl⟩⟩; refine ⟨_, rfl, ?_⟩; (try (rw [drewN_self wc]; generalize hq_ : World.drewN wc _ = wc; have n0_ : Aside0 (wc.heap[gb159]? = some (.cells #[.int .i64 0, .int .i64 0, .int .i64 0, .int .i64 0, .int .i64 0, .int .i64 0] 24 (0, 0))) := ⟨by rw [← hq_]; exact (by exact bq BK159.out)⟩; have n1_ : Aside0 (wc.heap[gb165]? = some (.cells #[.int .i64 x166000_1, .int .i64 0, .int .i64 (-1), .int .i64 0, .int .i64 0, .int .i64 x166005_1] 24 (0, 0))) := ⟨by rw [← hq_]; exact (by exact bq BK165.out)⟩; have n2_ : Aside0 (Below w.heap.size w wc) := ⟨by rw [← hq_]; exact zB⟩; clear BK159 BK165 HB hq_; have BK159 := n0_; have BK165 := n1_; have HB := n2_; clear n0_ n1_ n2_)); have p182 : 0 ≤ (2 : Int) := (by omega); have q182 : 2 < (l0.length : Int) := dz7; obtain ⟨ad182, e182, hx182_0⟩ := Kd.at_string HR0.out 2 p182 q182; obtain rfl : ad163 = ad182 := (by injection e182); (try simp only [show (2 : Int).toNat = 2 from rfl, Nat.reduceMul, Nat.reduceEqDiff, Go.Addr.add, ↓reduceIte] at hx182_0); have qi182 : (2 < l0.length) = True := eq_true (by omega); (try rw [show ((2 : Int)).toNat = 2 from rfl] at hx182_0); replace hx182_0 := (HB.out.cell (World.block_lt_of_cell? w _ hx182_0)).trans hx182_0; replace p182 := eq_true p182; replace q182 := eq_true q182) | ((with_reducible refine gate_callee (f := 88) rfl ?_); refine gl 88 Tryz.func88 #[.string (rdOf ByteArray.empty l0 2)] ?_; (with_reducible refine (spec_l1ReadReg.calls kj42 (rdOf ByteArray.empty l0 2) t183 t184 _ A65.out).mono ?_); rintro e w' ⟨rfl, ⟨nd, rfl⟩⟩; refine ⟨_, rfl, ?_⟩; (try (rw [drewN_self wc]; generalize hq_ : World.drewN wc _ = wc; have n0_ : Aside0 (wc.heap[gb159]? = some (.cells #[.int .i64 0, .int .i64 0, .int .i64 0, .int .i64 0, .int .i64 0, .int .i64 0] 24 (0, 0))) := ⟨by rw [← hq_]; exact (by exact bq BK159.out)⟩; have n1_ : Aside0 (wc.heap[gb165]? = some (.cells #[.int .i64 x166000_1, .int .i64 0, .int .i64 (-1), .int .i64 0, .int .i64 0, .int .i64 x166005_1] 24 (0, 0))) := ⟨by rw [← hq_]; exact (by exact bq BK165.out)⟩; have n2_ : Aside0 (Below w.heap.size w wc) := ⟨by rw [← hq_]; exact zB⟩; clear BK159 BK165 HB hq_; have BK159 := n0_; have BK165 := n1_; have HB := n2_; clear n0_ n1_ n2_)); have hnb72 := NB165_159.out; have hnc72 := NB159_165.out; obtain ⟨u73_0, u73_1, u73_2, u73_3, u73_4, u73_5, v73_0, v73_1, v73_2, v73_3, v73_4, v73_5⟩ := zc6 BK165; obtain ⟨u74_0, u74_1, u74_2, u74_3, u74_4, u74_5, v74_0, v74_1, v74_2, v74_3, v74_4, v74_5⟩ := zc6 BK159))
          refine bodyPost_ret (results_cell_row rfl _ _ gb159 24 #[.int .i64 x166000_1, .int .i64 t180, .int .i64 t183, .int .i64 0, .int .i64 t184, .int .i64 x166005_1] (0, 0) _ rfl (by refine bq ?_; refine blk_put (cs := #[.int .i64 x166000_1, .int .i64 t180, .int .i64 t183, .int .i64 0, .int .i64 t184, .int .i64 0]) ?_ 5 _ rfl; refine bq ?_; refine blk_put (cs := #[.int .i64 x166000_1, .int .i64 t180, .int .i64 t183, .int .i64 0, .int .i64 0, .int .i64 0]) ?_ 4 _ rfl; refine bq ?_; refine blk_put (cs := #[.int .i64 x166000_1, .int .i64 t180, .int .i64 t183, .int .i64 0, .int .i64 0, .int .i64 0]) ?_ 3 _ rfl; refine bq ?_; refine blk_put (cs := #[.int .i64 x166000_1, .int .i64 t180, .int .i64 0, .int .i64 0, .int .i64 0, .int .i64 0]) ?_ 2 _ rfl; refine bq ?_; refine blk_put (cs := #[.int .i64 x166000_1, .int .i64 0, .int .i64 0, .int .i64 0, .int .i64 0, .int .i64 0]) ?_ 1 _ rfl; refine bq ?_; refine blk_put (cs := #[.int .i64 0, .int .i64 0, .int .i64 0, .int .i64 0, .int .i64 0, .int .i64 0]) ?_ 0 _ rfl; refine fq ?_ NB159_165.out; refine fq ?_ NB159_165.out; refine fq ?_ NB159_165.out; exact bq BK159.out) Tryz.underlying24 rfl (by kernel_rfl)) rfl ?_
          exact ⟨zR, zB⟩
        ·exact absurd H (nN c64)
       ·exact absurd H (nN c62)
      ·replace c61 := Bool.eq_false_iff.mpr c61
       subst c61
       rw [if_neg (show ¬ (false = true) by decide)] at H
       have HC75 := Aside0.mk H
       clear H
       go_upto_region 17 with (fail)
       go_cut [104] (fun v104 wc => ∃ (kq : Nat) (x104_74 : Bool), v104 = .bool x104_74 ∧ Aside0 (spec_l1Read.j3 kq l0 (l0.length : Int) x104_74 x166000_1 0 (-1) 0 0 x166005_1 = some (r1, r2, r3, r4, r5, r6)) ∧ Aside0 (kq ≤ kj42) ∧ Aside0 (wc.heap[gb159]? = some (.cells #[.int .i64 0, .int .i64 0, .int .i64 0, .int .i64 0, .int .i64 0, .int .i64 0] 24 (0, 0))) ∧ Aside0 (wc.heap[gb165]? = some (.cells #[.int .i64 x166000_1, .int .i64 0, .int .i64 (-1), .int .i64 0, .int .i64 0, .int .i64 x166005_1] 24 (0, 0))) ∧ Aside0 (Below w.heap.size w wc))
       case first =>
        have H := HC75.out
        clear HC75
        by_cases c76 : x166000_1 = 16
        ·rw [if_pos c76] at H
         have c76b0 : (x166000_1 == 16) = true := beq_iff_eq.mpr c76
         have c76b1 : (x166000_1 != 16) = false := bne_eq_false_iff_eq.mpr c76
         clear c76
         (first | rw [c76b0] | (simp only [i64_w, i32_w]; rw [c76b0]) | skip)
         have H' := Aside0.mk H
         clear H
         have hnb77 := NB165_159.out
         have hnc77 := NB159_165.out
         obtain ⟨u78_0, u78_1, u78_2, u78_3, u78_4, u78_5, v78_0, v78_1, v78_2, v78_3, v78_4, v78_5⟩ := zc6 BK165
         as_aux_lemma =>
          go_wp2
          go_meet
          case rel => exact ⟨_, (((l0.length : Int) == 2)), zQ, H', ⟨by have := HK1.out; have := HJ42.out; first | omega | exact Nat.le_refl _⟩, ⟨by exact bq BK159.out⟩, ⟨by exact bq BK165.out⟩, ⟨zB⟩⟩
        ·rw [if_neg c76] at H
         have c76b0 : (x166000_1 == 16) = false := beq_eq_false_iff_ne.mpr c76
         have c76b1 : (x166000_1 != 16) = true := bne_iff_ne.mpr c76
         (first | rw [c76b0] | (simp only [i64_w, i32_w]; rw [c76b0]) | skip)
         have H' := Aside0.mk H
         clear H
         have hnb79 := NB165_159.out
         have hnc79 := NB159_165.out
         obtain ⟨u80_0, u80_1, u80_2, u80_3, u80_4, u80_5, v80_0, v80_1, v80_2, v80_3, v80_4, v80_5⟩ := zc6 BK165
         as_aux_lemma =>
          go_wp2
          go_meet
          case rel => exact ⟨_, (false), zQ, H', ⟨by have := HK1.out; have := HJ42.out; first | omega | exact Nat.le_refl _⟩, ⟨by exact bq BK159.out⟩, ⟨by exact bq BK165.out⟩, ⟨zB⟩⟩
       case rest =>
        clear HC75
        try clear c1
        try clear p1 p1
        try clear q1 q1
        try clear hx1
        try clear qi1
        try clear c2
        try clear p2 p2
        try clear c3
        try clear c3b0
        try clear c3b1
        try clear c4
        try clear c5
        try clear c6
        try clear p6 p6
        try clear c7
        try clear c8
        try clear p16 p16
        try clear q16 q16
        try clear hx16
        try clear qi16
        try clear c17
        try clear c17b0
        try clear p17 p17
        try clear q17 q17
        try clear hx17
        try clear qi17
        try clear p18
        try clear q18
        try clear hx18
        try clear qi18
        try clear c19
        try clear c19b0
        try clear c19b1
        try clear c21
        try clear c21b0
        try clear c21b1
        try clear c21b2
        try clear c22
        try clear c22b0
        try clear c22b1
        try clear c26
        try clear c26b0
        try clear c26b1
        try clear c26b2
        try clear c30
        try clear c32
        try clear c32b0
        try clear c32b1
        try clear c33
        try clear c34
        try clear c34b0
        try clear c34b1
        try clear c35
        try clear c35b0
        try clear c35b1
        try clear c41
        try clear c45
        try clear c46
        try clear c46b0
        try clear c46b1
        try clear c47
        try clear c50
        try clear c51
        try clear c53
        try clear c56
        try clear c57
        try clear c59
        try clear c61
        try clear c62
        try clear c62b0
        try clear c62b1
        try clear c64
        try clear c64b0
        try clear c64b1
        try clear p64
        try clear c66
        try clear c66b0
        try clear c66b1
        try clear c67
        try clear c67b0
        try clear c67b1
        try clear c69
        try clear c72
        try clear c76
        try clear c76b0
        try clear c76b1
        try clear c77
        try clear c79
        try clear u42_0 u42_1 u42_2 u42_3 u42_4 u42_5 v42_0 v42_1 v42_2 v42_3 v42_4 v42_5
        try clear u48_0 u48_1 u48_2 u48_3 u48_4 u48_5 v48_0 v48_1 v48_2 v48_3 v48_4 v48_5
        try clear u52_0 u52_1 u52_2 u52_3 u52_4 u52_5 v52_0 v52_1 v52_2 v52_3 v52_4 v52_5
        try clear u54_0 u54_1 u54_2 u54_3 u54_4 u54_5 v54_0 v54_1 v54_2 v54_3 v54_4 v54_5
        try clear u58_0 u58_1 u58_2 u58_3 u58_4 u58_5 v58_0 v58_1 v58_2 v58_3 v58_4 v58_5
        try clear u60_0 u60_1 u60_2 u60_3 u60_4 u60_5 v60_0 v60_1 v60_2 v60_3 v60_4 v60_5
        try clear u70_0 u70_1 u70_2 u70_3 u70_4 u70_5 v70_0 v70_1 v70_2 v70_3 v70_4 v70_5
        try clear u71_0 u71_1 u71_2 u71_3 u71_4 u71_5 v71_0 v71_1 v71_2 v71_3 v71_4 v71_5
        try clear u73_0 u73_1 u73_2 u73_3 u73_4 u73_5 v73_0 v73_1 v73_2 v73_3 v73_4 v73_5
        try clear u74_0 u74_1 u74_2 u74_3 u74_4 u74_5 v74_0 v74_1 v74_2 v74_3 v74_4 v74_5
        try clear u78_0 u78_1 u78_2 u78_3 u78_4 u78_5 v78_0 v78_1 v78_2 v78_3 v78_4 v78_5
        try clear u80_0 u80_1 u80_2 u80_3 u80_4 u80_5 v80_0 v80_1 v80_2 v80_3 v80_4 v80_5
        try clear hx163_0
        try clear hx166_0
        try clear hx168_0
        try clear hx173_0
        try clear hx174_0
        try clear hx179_0
        try clear hx182_0
        try clear hx185_0
        try clear p163
        try clear p166
        try clear p168
        try clear p173
        try clear p174
        try clear p179
        try clear p182
        try clear p185
        try clear q163
        try clear q166
        try clear q168
        try clear q173
        try clear q174
        try clear q179
        try clear q182
        try clear q185
        obtain ⟨kq, x104_74, rfl, HA, HJ74, BK159, BK165, HB⟩ := hcut
        cases kq with
        | zero => exact absurd HA.out (by simp [spec_l1Read.j3])
        | succ kj74 =>
         have H := HA.out
         clear HA
         simp only [spec_l1Read.j3] at H
         by_cases c81 : x104_74 = true
         ·subst c81
          rw [if_pos rfl] at H
          by_cases c82 : 1 < (l0.length : Int)
          ·rw [if_pos c82] at H
           have c82b0 : decide (1 < (l0.length : Int)) = true := decide_eq_true c82
           have c82b1 : decide (1 < l0.length) = true := decide_eq_true (by omega)
           clear c82
           replace H := oA H
           obtain ⟨t188, A83, H⟩ := H
           try dsimp only at H
           simp only [Option.some.injEq, Prod.mk.injEq] at H
           obtain ⟨rfl, rfl, rfl, rfl, rfl, rfl⟩ := H
           have p187 : 0 ≤ (1 : Int) := (by omega)
           have q187 : 1 < (l0.length : Int) := dz7
           obtain ⟨ad187, e187, hx187_0⟩ := Kd.at_string HR0.out 1 p187 q187
           obtain rfl : ad163 = ad187 := (by injection e187)
           (try simp only [show (1 : Int).toNat = 1 from rfl, Nat.reduceMul, Nat.reduceEqDiff, Go.Addr.add, ↓reduceIte] at hx187_0)
           have qi187 : (1 < l0.length) = True := eq_true (by omega)
           (try rw [show ((1 : Int)).toNat = 1 from rfl] at hx187_0)
           replace hx187_0 := (HB.out.cell (World.block_lt_of_cell? w _ hx187_0)).trans hx187_0
           replace p187 := eq_true p187
           replace q187 := eq_true q187
           go_wp2_with (first | ((with_reducible refine gate_callee (f := 89) rfl ?_); refine gl 115 Tryz.func89 #[.string (rdOf ByteArray.empty l0 1)] ?_; (with_reducible refine (spec_l1Signed.calls kj74 (rdOf ByteArray.empty l0 1) t188 _ A83.out).mono ?_); rintro e w' ⟨rfl, ⟨nd, rfl⟩⟩; refine ⟨_, rfl, ?_⟩; (try (rw [drewN_self wc]; generalize hq_ : World.drewN wc _ = wc; have n0_ : Aside0 (wc.heap[gb159]? = some (.cells #[.int .i64 0, .int .i64 0, .int .i64 0, .int .i64 0, .int .i64 0, .int .i64 0] 24 (0, 0))) := ⟨by rw [← hq_]; exact (by exact bq BK159.out)⟩; have n1_ : Aside0 (wc.heap[gb165]? = some (.cells #[.int .i64 x166000_1, .int .i64 0, .int .i64 (-1), .int .i64 0, .int .i64 0, .int .i64 x166005_1] 24 (0, 0))) := ⟨by rw [← hq_]; exact (by exact bq BK165.out)⟩; have n2_ : Aside0 (Below w.heap.size w wc) := ⟨by rw [← hq_]; exact zB⟩; clear BK159 BK165 HB hq_; have BK159 := n0_; have BK165 := n1_; have HB := n2_; clear n0_ n1_ n2_)); have hnb84 := NB165_159.out; have hnc84 := NB159_165.out; obtain ⟨u85_0, u85_1, u85_2, u85_3, u85_4, u85_5, v85_0, v85_1, v85_2, v85_3, v85_4, v85_5⟩ := zc6 BK165; obtain ⟨u86_0, u86_1, u86_2, u86_3, u86_4, u86_5, v86_0, v86_1, v86_2, v86_3, v86_4, v86_5⟩ := zc6 BK159))
           refine bodyPost_ret (results_cell_row rfl _ _ gb159 24 #[.int .i64 x166000_1, .int .i64 0, .int .i64 (-1), .int .i64 t188, .int .i64 0, .int .i64 x166005_1] (0, 0) _ rfl (by refine bq ?_; refine blk_put (cs := #[.int .i64 x166000_1, .int .i64 0, .int .i64 (-1), .int .i64 t188, .int .i64 0, .int .i64 0]) ?_ 5 _ rfl; refine bq ?_; refine blk_put (cs := #[.int .i64 x166000_1, .int .i64 0, .int .i64 (-1), .int .i64 t188, .int .i64 0, .int .i64 0]) ?_ 4 _ rfl; refine bq ?_; refine blk_put (cs := #[.int .i64 x166000_1, .int .i64 0, .int .i64 (-1), .int .i64 0, .int .i64 0, .int .i64 0]) ?_ 3 _ rfl; refine bq ?_; refine blk_put (cs := #[.int .i64 x166000_1, .int .i64 0, .int .i64 0, .int .i64 0, .int .i64 0, .int .i64 0]) ?_ 2 _ rfl; refine bq ?_; refine blk_put (cs := #[.int .i64 x166000_1, .int .i64 0, .int .i64 0, .int .i64 0, .int .i64 0, .int .i64 0]) ?_ 1 _ rfl; refine bq ?_; refine blk_put (cs := #[.int .i64 0, .int .i64 0, .int .i64 0, .int .i64 0, .int .i64 0, .int .i64 0]) ?_ 0 _ rfl; refine fq ?_ NB159_165.out; exact bq BK159.out) Tryz.underlying24 rfl (by kernel_rfl)) rfl ?_
           exact ⟨zR, zB⟩
          ·exact absurd H (nN c82)
         ·replace c81 := Bool.eq_false_iff.mpr c81
          subst c81
          rw [if_neg (show ¬ (false = true) by decide)] at H
          have HC87 := Aside0.mk H
          clear H
          go_upto_region 19 with (fail)
          go_cut [117] (fun v117 wc => ∃ (kq : Nat) (x117_86 : Bool), v117 = .bool x117_86 ∧ Aside0 (spec_l1Read.j4 kq l0 (l0.length : Int) x117_86 x166000_1 0 (-1) 0 0 x166005_1 = some (r1, r2, r3, r4, r5, r6)) ∧ Aside0 (kq ≤ kj74) ∧ Aside0 (wc.heap[gb159]? = some (.cells #[.int .i64 0, .int .i64 0, .int .i64 0, .int .i64 0, .int .i64 0, .int .i64 0] 24 (0, 0))) ∧ Aside0 (wc.heap[gb165]? = some (.cells #[.int .i64 x166000_1, .int .i64 0, .int .i64 (-1), .int .i64 0, .int .i64 0, .int .i64 x166005_1] 24 (0, 0))) ∧ Aside0 (Below w.heap.size w wc))
          case first =>
           have H := HC87.out
           clear HC87
           by_cases c88 : x166000_1 = 17
           ·rw [if_pos c88] at H
            have c88b0 : (x166000_1 == 17) = true := beq_iff_eq.mpr c88
            have c88b1 : (x166000_1 != 17) = false := bne_eq_false_iff_eq.mpr c88
            clear c88
            (first | rw [c88b0] | (simp only [i64_w, i32_w]; rw [c88b0]) | skip)
            have H' := Aside0.mk H
            clear H
            have hnb89 := NB165_159.out
            have hnc89 := NB159_165.out
            obtain ⟨u90_0, u90_1, u90_2, u90_3, u90_4, u90_5, v90_0, v90_1, v90_2, v90_3, v90_4, v90_5⟩ := zc6 BK165
            as_aux_lemma =>
             go_wp2
             go_meet
             case rel => exact ⟨_, (((l0.length : Int) == 4)), zQ, H', ⟨by have := HK1.out; have := HJ42.out; have := HJ74.out; first | omega | exact Nat.le_refl _⟩, ⟨by exact bq BK159.out⟩, ⟨by exact bq BK165.out⟩, ⟨zB⟩⟩
           ·rw [if_neg c88] at H
            have c88b0 : (x166000_1 == 17) = false := beq_eq_false_iff_ne.mpr c88
            have c88b1 : (x166000_1 != 17) = true := bne_iff_ne.mpr c88
            (first | rw [c88b0] | (simp only [i64_w, i32_w]; rw [c88b0]) | skip)
            have H' := Aside0.mk H
            clear H
            have hnb91 := NB165_159.out
            have hnc91 := NB159_165.out
            obtain ⟨u92_0, u92_1, u92_2, u92_3, u92_4, u92_5, v92_0, v92_1, v92_2, v92_3, v92_4, v92_5⟩ := zc6 BK165
            as_aux_lemma =>
             go_wp2
             go_meet
             case rel => exact ⟨_, (false), zQ, H', ⟨by have := HK1.out; have := HJ42.out; have := HJ74.out; first | omega | exact Nat.le_refl _⟩, ⟨by exact bq BK159.out⟩, ⟨by exact bq BK165.out⟩, ⟨zB⟩⟩
          case rest =>
           clear HC87
           try clear c1
           try clear p1 p1
           try clear q1 q1
           try clear hx1
           try clear qi1
           try clear c2
           try clear p2 p2
           try clear c3
           try clear c3b0
           try clear c3b1
           try clear c4
           try clear c5
           try clear c6
           try clear p6 p6
           try clear c7
           try clear c8
           try clear c9
           try clear p16 p16
           try clear q16 q16
           try clear hx16
           try clear qi16
           try clear c17
           try clear c17b0
           try clear p17 p17
           try clear q17 q17
           try clear hx17
           try clear qi17
           try clear p18 p18
           try clear q18 q18
           try clear hx18
           try clear qi18
           try clear c19
           try clear c19b0
           try clear c19b1
           try clear c21
           try clear c21b0
           try clear c21b1
           try clear c21b2
           try clear c22
           try clear c22b0
           try clear c22b1
           try clear c26
           try clear c26b0
           try clear c26b1
           try clear c26b2
           try clear c30
           try clear c32
           try clear c32b0
           try clear c32b1
           try clear c33
           try clear c34
           try clear c34b0
           try clear c34b1
           try clear c35
           try clear c35b0
           try clear c35b1
           try clear c41
           try clear c45
           try clear c46
           try clear c46b0
           try clear c46b1
           try clear c47
           try clear c50
           try clear c51
           try clear c53
           try clear c56
           try clear c57
           try clear c59
           try clear c61
           try clear c62
           try clear c62b0
           try clear c62b1
           try clear c64
           try clear c64b0
           try clear c64b1
           try clear p64 p64
           try clear c66
           try clear c66b0
           try clear c66b1
           try clear c67
           try clear c67b0
           try clear c67b1
           try clear c69
           try clear c72
           try clear c76
           try clear c76b0
           try clear c76b1
           try clear c77
           try clear c79
           try clear c81
           try clear c82
           try clear c82b0
           try clear c82b1
           try clear c84
           try clear c88
           try clear c88b0
           try clear c88b1
           try clear c89
           try clear c91
           try clear u42_0 u42_1 u42_2 u42_3 u42_4 u42_5 v42_0 v42_1 v42_2 v42_3 v42_4 v42_5
           try clear u48_0 u48_1 u48_2 u48_3 u48_4 u48_5 v48_0 v48_1 v48_2 v48_3 v48_4 v48_5
           try clear u52_0 u52_1 u52_2 u52_3 u52_4 u52_5 v52_0 v52_1 v52_2 v52_3 v52_4 v52_5
           try clear u54_0 u54_1 u54_2 u54_3 u54_4 u54_5 v54_0 v54_1 v54_2 v54_3 v54_4 v54_5
           try clear u58_0 u58_1 u58_2 u58_3 u58_4 u58_5 v58_0 v58_1 v58_2 v58_3 v58_4 v58_5
           try clear u60_0 u60_1 u60_2 u60_3 u60_4 u60_5 v60_0 v60_1 v60_2 v60_3 v60_4 v60_5
           try clear u70_0 u70_1 u70_2 u70_3 u70_4 u70_5 v70_0 v70_1 v70_2 v70_3 v70_4 v70_5
           try clear u71_0 u71_1 u71_2 u71_3 u71_4 u71_5 v71_0 v71_1 v71_2 v71_3 v71_4 v71_5
           try clear u73_0 u73_1 u73_2 u73_3 u73_4 u73_5 v73_0 v73_1 v73_2 v73_3 v73_4 v73_5
           try clear u74_0 u74_1 u74_2 u74_3 u74_4 u74_5 v74_0 v74_1 v74_2 v74_3 v74_4 v74_5
           try clear u78_0 u78_1 u78_2 u78_3 u78_4 u78_5 v78_0 v78_1 v78_2 v78_3 v78_4 v78_5
           try clear u80_0 u80_1 u80_2 u80_3 u80_4 u80_5 v80_0 v80_1 v80_2 v80_3 v80_4 v80_5
           try clear u85_0 u85_1 u85_2 u85_3 u85_4 u85_5 v85_0 v85_1 v85_2 v85_3 v85_4 v85_5
           try clear u86_0 u86_1 u86_2 u86_3 u86_4 u86_5 v86_0 v86_1 v86_2 v86_3 v86_4 v86_5
           try clear u90_0 u90_1 u90_2 u90_3 u90_4 u90_5 v90_0 v90_1 v90_2 v90_3 v90_4 v90_5
           try clear u92_0 u92_1 u92_2 u92_3 u92_4 u92_5 v92_0 v92_1 v92_2 v92_3 v92_4 v92_5
           try clear hx163_0
           try clear hx166_0
           try clear hx168_0
           try clear hx173_0
           try clear hx174_0
           try clear hx179_0
           try clear hx182_0
           try clear hx185_0
           try clear hx187_0
           try clear p163
           try clear p166
           try clear p168
           try clear p173
           try clear p174
           try clear p179
           try clear p182
           try clear p185
           try clear p187
           try clear q163
           try clear q166
           try clear q168
           try clear q173
           try clear q174
           try clear q179
           try clear q182
           try clear q185
           try clear q187
           obtain ⟨kq, x117_86, rfl, HA, HJ86, BK159, BK165, HB⟩ := hcut
           cases kq with
           | zero => exact absurd HA.out (by simp [spec_l1Read.j4])
           | succ kj86 =>
            have H := HA.out
            clear HA
            simp only [spec_l1Read.j4] at H
            by_cases c93 : x117_86 = true
            ·subst c93
             rw [if_pos rfl] at H
             by_cases c94 : 1 < (l0.length : Int)
             ·rw [if_pos c94] at H
              have c94b0 : decide (1 < (l0.length : Int)) = true := decide_eq_true c94
              have c94b1 : decide (1 < l0.length) = true := decide_eq_true (by omega)
              clear c94
              replace H := oA H
              obtain ⟨⟨t190, t191⟩, A95, H⟩ := H
              try dsimp only at H
              by_cases c96 : 2 < (l0.length : Int)
              ·rw [if_pos c96] at H
               have c96b0 : decide (2 < (l0.length : Int)) = true := decide_eq_true c96
               have c96b1 : decide (2 < l0.length) = true := decide_eq_true (by omega)
               clear c96
               replace H := oA H
               obtain ⟨⟨t193, t194⟩, A97, H⟩ := H
               try dsimp only at H
               by_cases c98 : 3 < (l0.length : Int)
               ·rw [if_pos c98] at H
                have c98b0 : decide (3 < (l0.length : Int)) = true := decide_eq_true c98
                have c98b1 : decide (3 < l0.length) = true := decide_eq_true (by omega)
                clear c98
                replace H := oA H
                obtain ⟨t196, A99, H⟩ := H
                try dsimp only at H
                simp only [Option.some.injEq, Prod.mk.injEq] at H
                obtain ⟨rfl, rfl, rfl, rfl, rfl, rfl⟩ := H
                have p189 : 0 ≤ (1 : Int) := (by omega)
                have q189 : 1 < (l0.length : Int) := dz7
                obtain ⟨ad189, e189, hx189_0⟩ := Kd.at_string HR0.out 1 p189 q189
                obtain rfl : ad163 = ad189 := (by injection e189)
                (try simp only [show (1 : Int).toNat = 1 from rfl, Nat.reduceMul, Nat.reduceEqDiff, Go.Addr.add, ↓reduceIte] at hx189_0)
                have qi189 : (1 < l0.length) = True := eq_true (by omega)
                (try rw [show ((1 : Int)).toNat = 1 from rfl] at hx189_0)
                replace hx189_0 := (HB.out.cell (World.block_lt_of_cell? w _ hx189_0)).trans hx189_0
                replace p189 := eq_true p189
                replace q189 := eq_true q189
                go_wp2_with (first | ((with_reducible refine gate_callee (f := 88) rfl ?_); refine gl 129 Tryz.func88 #[.string (rdOf ByteArray.empty l0 1)] ?_; (with_reducible refine (spec_l1ReadReg.calls kj86 (rdOf ByteArray.empty l0 1) t190 t191 _ A95.out).mono ?_); rintro e w' ⟨rfl, ⟨nd, rfl⟩⟩; refine ⟨_, rfl, ?_⟩; (try (rw [drewN_self wc]; generalize hq_ : World.drewN wc _ = wc; have n0_ : Aside0 (wc.heap[gb159]? = some (.cells #[.int .i64 0, .int .i64 0, .int .i64 0, .int .i64 0, .int .i64 0, .int .i64 0] 24 (0, 0))) := ⟨by rw [← hq_]; exact (by exact bq BK159.out)⟩; have n1_ : Aside0 (wc.heap[gb165]? = some (.cells #[.int .i64 x166000_1, .int .i64 0, .int .i64 (-1), .int .i64 0, .int .i64 0, .int .i64 x166005_1] 24 (0, 0))) := ⟨by rw [← hq_]; exact (by exact bq BK165.out)⟩; have n2_ : Aside0 (Below w.heap.size w wc) := ⟨by rw [← hq_]; exact zB⟩; clear BK159 BK165 HB hq_; have BK159 := n0_; have BK165 := n1_; have HB := n2_; clear n0_ n1_ n2_)); have p192 : 0 ≤ (2 : Int) := (by omega); have q192 : 2 < (l0.length : Int) := dz7; obtain ⟨ad192, e192, hx192_0⟩ := Kd.at_string HR0.out 2 p192 q192; obtain rfl : ad163 = ad192 := (by injection e192); (try simp only [show (2 : Int).toNat = 2 from rfl, Nat.reduceMul, Nat.reduceEqDiff, Go.Addr.add, ↓reduceIte] at hx192_0); have qi192 : (2 < l0.length) = True := eq_true (by omega); (try rw [show ((2 : Int)).toNat = 2 from rfl] at hx192_0); replace hx192_0 := (HB.out.cell (World.block_lt_of_cell? w _ hx192_0)).trans hx192_0; replace p192 := eq_true p192; replace q192 := eq_true q192) | ((with_reducible refine gate_callee (f := 88) rfl ?_); refine gl 136 Tryz.func88 #[.string (rdOf ByteArray.empty l0 2)] ?_; (with_reducible refine (spec_l1ReadReg.calls kj86 (rdOf ByteArray.empty l0 2) t193 t194 _ A97.out).mono ?_); rintro e w' ⟨rfl, ⟨nd, rfl⟩⟩; refine ⟨_, rfl, ?_⟩; (try (rw [drewN_self wc]; generalize hq_ : World.drewN wc _ = wc; have n0_ : Aside0 (wc.heap[gb159]? = some (.cells #[.int .i64 0, .int .i64 0, .int .i64 0, .int .i64 0, .int .i64 0, .int .i64 0] 24 (0, 0))) := ⟨by rw [← hq_]; exact (by exact bq BK159.out)⟩; have n1_ : Aside0 (wc.heap[gb165]? = some (.cells #[.int .i64 x166000_1, .int .i64 0, .int .i64 (-1), .int .i64 0, .int .i64 0, .int .i64 x166005_1] 24 (0, 0))) := ⟨by rw [← hq_]; exact (by exact bq BK165.out)⟩; have n2_ : Aside0 (Below w.heap.size w wc) := ⟨by rw [← hq_]; exact zB⟩; clear BK159 BK165 HB hq_; have BK159 := n0_; have BK165 := n1_; have HB := n2_; clear n0_ n1_ n2_)); have hnb100 := NB165_159.out; have hnc100 := NB159_165.out; obtain ⟨u101_0, u101_1, u101_2, u101_3, u101_4, u101_5, v101_0, v101_1, v101_2, v101_3, v101_4, v101_5⟩ := zc6 BK165; have p195 : 0 ≤ (3 : Int) := (by omega); have q195 : 3 < (l0.length : Int) := dz7; obtain ⟨ad195, e195, hx195_0⟩ := Kd.at_string HR0.out 3 p195 q195; obtain rfl : ad163 = ad195 := (by injection e195); (try simp only [show (3 : Int).toNat = 3 from rfl, Nat.reduceMul, Nat.reduceEqDiff, Go.Addr.add, ↓reduceIte] at hx195_0); have qi195 : (3 < l0.length) = True := eq_true (by omega); (try rw [show ((3 : Int)).toNat = 3 from rfl] at hx195_0); have hn195_0 : ad163.block ≠ gb165 := Nat.ne_of_lt (Nat.lt_of_lt_of_le (by have := World.block_lt_of_cell? _ _ hx195_0; first | rwa [add_block] at this | exact this) GW165.out); have hn195_1 : ad163.block ≠ gb165 := Nat.ne_of_lt (Nat.lt_of_lt_of_le (by have := World.block_lt_of_cell? _ _ hx195_0; first | rwa [add_block] at this | exact this) GW165.out); replace hx195_0 := (HB.out.cell (World.block_lt_of_cell? w _ hx195_0)).trans hx195_0; replace hx195_0 := (cell_far (p := ⟨gb165, 1, none⟩) (by first | (rw [add_block]; exact hn195_0) | (show (Addr.add _ _).block ≠ _; rw [add_block]; exact hn195_0) | exact hn195_0) (.int .i64 t190)).trans hx195_0; replace hx195_0 := (cell_far (p := ⟨gb165, 2, none⟩) (by first | (rw [add_block]; exact hn195_1) | (show (Addr.add _ _).block ≠ _; rw [add_block]; exact hn195_1) | exact hn195_1) (.int .i64 t193)).trans hx195_0; clear hn195_0; clear hn195_1; replace p195 := eq_true p195; replace q195 := eq_true q195) | ((with_reducible refine gate_callee (f := 89) rfl ?_); refine gl 146 Tryz.func89 #[.string (rdOf ByteArray.empty l0 3)] ?_; (with_reducible refine (spec_l1Signed.calls kj86 (rdOf ByteArray.empty l0 3) t196 _ A99.out).mono ?_); rintro e w' ⟨rfl, ⟨nd, rfl⟩⟩; refine ⟨_, rfl, ?_⟩; obtain ⟨u102_0, u102_1, u102_2, u102_3, u102_4, u102_5, v102_0, v102_1, v102_2, v102_3, v102_4, v102_5⟩ := zc6 BK159))
                refine bodyPost_ret (results_cell_row rfl _ _ gb159 24 #[.int .i64 x166000_1, .int .i64 t190, .int .i64 t193, .int .i64 t196, .int .i64 0, .int .i64 x166005_1] (0, 0) _ rfl (by refine bq ?_; refine blk_put (cs := #[.int .i64 x166000_1, .int .i64 t190, .int .i64 t193, .int .i64 t196, .int .i64 0, .int .i64 0]) ?_ 5 _ rfl; refine bq ?_; refine blk_put (cs := #[.int .i64 x166000_1, .int .i64 t190, .int .i64 t193, .int .i64 t196, .int .i64 0, .int .i64 0]) ?_ 4 _ rfl; refine bq ?_; refine blk_put (cs := #[.int .i64 x166000_1, .int .i64 t190, .int .i64 t193, .int .i64 0, .int .i64 0, .int .i64 0]) ?_ 3 _ rfl; refine bq ?_; refine blk_put (cs := #[.int .i64 x166000_1, .int .i64 t190, .int .i64 0, .int .i64 0, .int .i64 0, .int .i64 0]) ?_ 2 _ rfl; refine bq ?_; refine blk_put (cs := #[.int .i64 x166000_1, .int .i64 0, .int .i64 0, .int .i64 0, .int .i64 0, .int .i64 0]) ?_ 1 _ rfl; refine bq ?_; refine blk_put (cs := #[.int .i64 0, .int .i64 0, .int .i64 0, .int .i64 0, .int .i64 0, .int .i64 0]) ?_ 0 _ rfl; refine fq ?_ NB159_165.out; refine fq ?_ NB159_165.out; refine fq ?_ NB159_165.out; exact bq BK159.out) Tryz.underlying24 rfl (by kernel_rfl)) rfl ?_
                exact ⟨zR, zB⟩
               ·exact absurd H (nN c98)
              ·exact absurd H (nN c96)
             ·exact absurd H (nN c94)
            ·replace c93 := Bool.eq_false_iff.mpr c93
             subst c93
             rw [if_neg (show ¬ (false = true) by decide)] at H
             have HC103 := Aside0.mk H
             clear H
             go_upto_region 25 with (fail)
             go_cut [148] (fun v148 wc => ∃ (kq : Nat) (x148_102 : Bool), v148 = .bool x148_102 ∧ Aside0 (spec_l1Read.j5 kq l0 (l0.length : Int) x148_102 x166000_1 0 (-1) 0 0 x166005_1 = some (r1, r2, r3, r4, r5, r6)) ∧ Aside0 (kq ≤ kj86) ∧ Aside0 (wc.heap[gb159]? = some (.cells #[.int .i64 0, .int .i64 0, .int .i64 0, .int .i64 0, .int .i64 0, .int .i64 0] 24 (0, 0))) ∧ Aside0 (wc.heap[gb165]? = some (.cells #[.int .i64 x166000_1, .int .i64 0, .int .i64 (-1), .int .i64 0, .int .i64 0, .int .i64 x166005_1] 24 (0, 0))) ∧ Aside0 (Below w.heap.size w wc))
             case first =>
              have H := HC103.out
              clear HC103
              by_cases c104 : x166000_1 = 18
              ·rw [if_pos c104] at H
               have c104b0 : (x166000_1 == 18) = true := beq_iff_eq.mpr c104
               have c104b1 : (x166000_1 != 18) = false := bne_eq_false_iff_eq.mpr c104
               clear c104
               (first | rw [c104b0] | (simp only [i64_w, i32_w]; rw [c104b0]) | skip)
               have H' := Aside0.mk H
               clear H
               have hnb105 := NB165_159.out
               have hnc105 := NB159_165.out
               obtain ⟨u106_0, u106_1, u106_2, u106_3, u106_4, u106_5, v106_0, v106_1, v106_2, v106_3, v106_4, v106_5⟩ := zc6 BK165
               as_aux_lemma =>
                go_wp2
                go_meet
                case rel => exact ⟨_, (((l0.length : Int) == 4)), zQ, H', ⟨by have := HK1.out; have := HJ42.out; have := HJ74.out; have := HJ86.out; first | omega | exact Nat.le_refl _⟩, ⟨by exact bq BK159.out⟩, ⟨by exact bq BK165.out⟩, ⟨zB⟩⟩
              ·rw [if_neg c104] at H
               have c104b0 : (x166000_1 == 18) = false := beq_eq_false_iff_ne.mpr c104
               have c104b1 : (x166000_1 != 18) = true := bne_iff_ne.mpr c104
               (first | rw [c104b0] | (simp only [i64_w, i32_w]; rw [c104b0]) | skip)
               have H' := Aside0.mk H
               clear H
               have hnb107 := NB165_159.out
               have hnc107 := NB159_165.out
               obtain ⟨u108_0, u108_1, u108_2, u108_3, u108_4, u108_5, v108_0, v108_1, v108_2, v108_3, v108_4, v108_5⟩ := zc6 BK165
               as_aux_lemma =>
                go_wp2
                go_meet
                case rel => exact ⟨_, (false), zQ, H', ⟨by have := HK1.out; have := HJ42.out; have := HJ74.out; have := HJ86.out; first | omega | exact Nat.le_refl _⟩, ⟨by exact bq BK159.out⟩, ⟨by exact bq BK165.out⟩, ⟨zB⟩⟩
             case rest =>
              clear HC103
              try clear c1
              try clear p1 p1
              try clear q1 q1
              try clear hx1
              try clear qi1
              try clear c2
              try clear p2 p2
              try clear c3
              try clear c3b0
              try clear c3b1
              try clear c4
              try clear c5
              try clear c6
              try clear p6 p6
              try clear c7
              try clear c8
              try clear c9
              try clear c10
              try clear p16 p16
              try clear q16 q16
              try clear hx16
              try clear qi16
              try clear c17
              try clear c17b0
              try clear p17 p17
              try clear q17 q17
              try clear hx17
              try clear qi17
              try clear p18 p18
              try clear q18 q18
              try clear hx18
              try clear qi18
              try clear c19
              try clear c19b0
              try clear c19b1
              try clear p19
              try clear q19
              try clear hx19
              try clear qi19
              try clear c21
              try clear c21b0
              try clear c21b1
              try clear c21b2
              try clear c22
              try clear c22b0
              try clear c22b1
              try clear c26
              try clear c26b0
              try clear c26b1
              try clear c26b2
              try clear c30
              try clear c32
              try clear c32b0
              try clear c32b1
              try clear c33
              try clear c34
              try clear c34b0
              try clear c34b1
              try clear c35
              try clear c35b0
              try clear c35b1
              try clear c41
              try clear c45
              try clear c46
              try clear c46b0
              try clear c46b1
              try clear c47
              try clear c50
              try clear c51
              try clear c53
              try clear c56
              try clear c57
              try clear c59
              try clear c61
              try clear c62
              try clear c62b0
              try clear c62b1
              try clear c64
              try clear c64b0
              try clear c64b1
              try clear p64 p64
              try clear c66
              try clear c66b0
              try clear c66b1
              try clear c67
              try clear c67b0
              try clear c67b1
              try clear c69
              try clear c72
              try clear c76
              try clear c76b0
              try clear c76b1
              try clear c77
              try clear c79
              try clear c81
              try clear c82
              try clear c82b0
              try clear c82b1
              try clear c84
              try clear c88
              try clear c88b0
              try clear c88b1
              try clear c89
              try clear c91
              try clear c93
              try clear c94
              try clear c94b0
              try clear c94b1
              try clear c96
              try clear c96b0
              try clear c96b1
              try clear c98
              try clear c98b0
              try clear c98b1
              try clear c100
              try clear c104
              try clear c104b0
              try clear c104b1
              try clear c105
              try clear c107
              try clear u101_0 u101_1 u101_2 u101_3 u101_4 u101_5 v101_0 v101_1 v101_2 v101_3 v101_4 v101_5
              try clear u102_0 u102_1 u102_2 u102_3 u102_4 u102_5 v102_0 v102_1 v102_2 v102_3 v102_4 v102_5
              try clear u106_0 u106_1 u106_2 u106_3 u106_4 u106_5 v106_0 v106_1 v106_2 v106_3 v106_4 v106_5
              try clear u108_0 u108_1 u108_2 u108_3 u108_4 u108_5 v108_0 v108_1 v108_2 v108_3 v108_4 v108_5
              try clear u42_0 u42_1 u42_2 u42_3 u42_4 u42_5 v42_0 v42_1 v42_2 v42_3 v42_4 v42_5
              try clear u48_0 u48_1 u48_2 u48_3 u48_4 u48_5 v48_0 v48_1 v48_2 v48_3 v48_4 v48_5
              try clear u52_0 u52_1 u52_2 u52_3 u52_4 u52_5 v52_0 v52_1 v52_2 v52_3 v52_4 v52_5
              try clear u54_0 u54_1 u54_2 u54_3 u54_4 u54_5 v54_0 v54_1 v54_2 v54_3 v54_4 v54_5
              try clear u58_0 u58_1 u58_2 u58_3 u58_4 u58_5 v58_0 v58_1 v58_2 v58_3 v58_4 v58_5
              try clear u60_0 u60_1 u60_2 u60_3 u60_4 u60_5 v60_0 v60_1 v60_2 v60_3 v60_4 v60_5
              try clear u70_0 u70_1 u70_2 u70_3 u70_4 u70_5 v70_0 v70_1 v70_2 v70_3 v70_4 v70_5
              try clear u71_0 u71_1 u71_2 u71_3 u71_4 u71_5 v71_0 v71_1 v71_2 v71_3 v71_4 v71_5
              try clear u73_0 u73_1 u73_2 u73_3 u73_4 u73_5 v73_0 v73_1 v73_2 v73_3 v73_4 v73_5
              try clear u74_0 u74_1 u74_2 u74_3 u74_4 u74_5 v74_0 v74_1 v74_2 v74_3 v74_4 v74_5
              try clear u78_0 u78_1 u78_2 u78_3 u78_4 u78_5 v78_0 v78_1 v78_2 v78_3 v78_4 v78_5
              try clear u80_0 u80_1 u80_2 u80_3 u80_4 u80_5 v80_0 v80_1 v80_2 v80_3 v80_4 v80_5
              try clear u85_0 u85_1 u85_2 u85_3 u85_4 u85_5 v85_0 v85_1 v85_2 v85_3 v85_4 v85_5
              try clear u86_0 u86_1 u86_2 u86_3 u86_4 u86_5 v86_0 v86_1 v86_2 v86_3 v86_4 v86_5
              try clear u90_0 u90_1 u90_2 u90_3 u90_4 u90_5 v90_0 v90_1 v90_2 v90_3 v90_4 v90_5
              try clear u92_0 u92_1 u92_2 u92_3 u92_4 u92_5 v92_0 v92_1 v92_2 v92_3 v92_4 v92_5
              try clear hx163_0
              try clear hx166_0
              try clear hx168_0
              try clear hx173_0
              try clear hx174_0
              try clear hx179_0
              try clear hx182_0
              try clear hx185_0
              try clear hx187_0
              try clear hx189_0
              try clear hx192_0
              try clear hx195_0
              try clear p163
              try clear p166
              try clear p168
              try clear p173
              try clear p174
              try clear p179
              try clear p182
              try clear p185
              try clear p187
              try clear p189
              try clear p192
              try clear p195
              try clear q163
              try clear q166
              try clear q168
              try clear q173
              try clear q174
              try clear q179
              try clear q182
              try clear q185
              try clear q187
              try clear q189
              try clear q192
              try clear q195
              obtain ⟨kq, x148_102, rfl, HA, HJ102, BK159, BK165, HB⟩ := hcut
              cases kq with
              | zero => exact absurd HA.out (by simp [spec_l1Read.j5])
              | succ kj102 =>
               have H := HA.out
               clear HA
               simp only [spec_l1Read.j5] at H
               by_cases c109 : x148_102 = true
               ·subst c109
                rw [if_pos rfl] at H
                by_cases c110 : 1 < (l0.length : Int)
                ·rw [if_pos c110] at H
                 have c110b0 : decide (1 < (l0.length : Int)) = true := decide_eq_true c110
                 have c110b1 : decide (1 < l0.length) = true := decide_eq_true (by omega)
                 clear c110
                 replace H := oA H
                 obtain ⟨⟨t198, t199⟩, A111, H⟩ := H
                 try dsimp only at H
                 by_cases c112 : 3 < (l0.length : Int)
                 ·rw [if_pos c112] at H
                  have c112b0 : decide (3 < (l0.length : Int)) = true := decide_eq_true c112
                  have c112b1 : decide (3 < l0.length) = true := decide_eq_true (by omega)
                  clear c112
                  replace H := oA H
                  obtain ⟨⟨t201, t202⟩, A113, H⟩ := H
                  try dsimp only at H
                  by_cases c114 : 2 < (l0.length : Int)
                  ·rw [if_pos c114] at H
                   have c114b0 : decide (2 < (l0.length : Int)) = true := decide_eq_true c114
                   have c114b1 : decide (2 < l0.length) = true := decide_eq_true (by omega)
                   clear c114
                   replace H := oA H
                   obtain ⟨t204, A115, H⟩ := H
                   try dsimp only at H
                   simp only [Option.some.injEq, Prod.mk.injEq] at H
                   obtain ⟨rfl, rfl, rfl, rfl, rfl, rfl⟩ := H
                   have p197 : 0 ≤ (1 : Int) := (by omega)
                   have q197 : 1 < (l0.length : Int) := dz7
                   obtain ⟨ad197, e197, hx197_0⟩ := Kd.at_string HR0.out 1 p197 q197
                   obtain rfl : ad163 = ad197 := (by injection e197)
                   (try simp only [show (1 : Int).toNat = 1 from rfl, Nat.reduceMul, Nat.reduceEqDiff, Go.Addr.add, ↓reduceIte] at hx197_0)
                   have qi197 : (1 < l0.length) = True := eq_true (by omega)
                   (try rw [show ((1 : Int)).toNat = 1 from rfl] at hx197_0)
                   replace hx197_0 := (HB.out.cell (World.block_lt_of_cell? w _ hx197_0)).trans hx197_0
                   replace p197 := eq_true p197
                   replace q197 := eq_true q197
                   go_wp2_with (first | ((with_reducible refine gate_callee (f := 88) rfl ?_); refine gl 160 Tryz.func88 #[.string (rdOf ByteArray.empty l0 1)] ?_; (with_reducible refine (spec_l1ReadReg.calls kj102 (rdOf ByteArray.empty l0 1) t198 t199 _ A111.out).mono ?_); rintro e w' ⟨rfl, ⟨nd, rfl⟩⟩; refine ⟨_, rfl, ?_⟩; (try (rw [drewN_self wc]; generalize hq_ : World.drewN wc _ = wc; have n0_ : Aside0 (wc.heap[gb159]? = some (.cells #[.int .i64 0, .int .i64 0, .int .i64 0, .int .i64 0, .int .i64 0, .int .i64 0] 24 (0, 0))) := ⟨by rw [← hq_]; exact (by exact bq BK159.out)⟩; have n1_ : Aside0 (wc.heap[gb165]? = some (.cells #[.int .i64 x166000_1, .int .i64 0, .int .i64 (-1), .int .i64 0, .int .i64 0, .int .i64 x166005_1] 24 (0, 0))) := ⟨by rw [← hq_]; exact (by exact bq BK165.out)⟩; have n2_ : Aside0 (Below w.heap.size w wc) := ⟨by rw [← hq_]; exact zB⟩; clear BK159 BK165 HB hq_; have BK159 := n0_; have BK165 := n1_; have HB := n2_; clear n0_ n1_ n2_)); have p200 : 0 ≤ (3 : Int) := (by omega); have q200 : 3 < (l0.length : Int) := dz7; obtain ⟨ad200, e200, hx200_0⟩ := Kd.at_string HR0.out 3 p200 q200; obtain rfl : ad163 = ad200 := (by injection e200); (try simp only [show (3 : Int).toNat = 3 from rfl, Nat.reduceMul, Nat.reduceEqDiff, Go.Addr.add, ↓reduceIte] at hx200_0); have qi200 : (3 < l0.length) = True := eq_true (by omega); (try rw [show ((3 : Int)).toNat = 3 from rfl] at hx200_0); replace hx200_0 := (HB.out.cell (World.block_lt_of_cell? w _ hx200_0)).trans hx200_0; replace p200 := eq_true p200; replace q200 := eq_true q200) | ((with_reducible refine gate_callee (f := 88) rfl ?_); refine gl 167 Tryz.func88 #[.string (rdOf ByteArray.empty l0 3)] ?_; (with_reducible refine (spec_l1ReadReg.calls kj102 (rdOf ByteArray.empty l0 3) t201 t202 _ A113.out).mono ?_); rintro e w' ⟨rfl, ⟨nd, rfl⟩⟩; refine ⟨_, rfl, ?_⟩; (try (rw [drewN_self wc]; generalize hq_ : World.drewN wc _ = wc; have n0_ : Aside0 (wc.heap[gb159]? = some (.cells #[.int .i64 0, .int .i64 0, .int .i64 0, .int .i64 0, .int .i64 0, .int .i64 0] 24 (0, 0))) := ⟨by rw [← hq_]; exact (by exact bq BK159.out)⟩; have n1_ : Aside0 (wc.heap[gb165]? = some (.cells #[.int .i64 x166000_1, .int .i64 0, .int .i64 (-1), .int .i64 0, .int .i64 0, .int .i64 x166005_1] 24 (0, 0))) := ⟨by rw [← hq_]; exact (by exact bq BK165.out)⟩; have n2_ : Aside0 (Below w.heap.size w wc) := ⟨by rw [← hq_]; exact zB⟩; clear BK159 BK165 HB hq_; have BK159 := n0_; have BK165 := n1_; have HB := n2_; clear n0_ n1_ n2_)); have hnb116 := NB165_159.out; have hnc116 := NB159_165.out; obtain ⟨u117_0, u117_1, u117_2, u117_3, u117_4, u117_5, v117_0, v117_1, v117_2, v117_3, v117_4, v117_5⟩ := zc6 BK165; have p203 : 0 ≤ (2 : Int) := (by omega); have q203 : 2 < (l0.length : Int) := dz7; obtain ⟨ad203, e203, hx203_0⟩ := Kd.at_string HR0.out 2 p203 q203; obtain rfl : ad163 = ad203 := (by injection e203); (try simp only [show (2 : Int).toNat = 2 from rfl, Nat.reduceMul, Nat.reduceEqDiff, Go.Addr.add, ↓reduceIte] at hx203_0); have qi203 : (2 < l0.length) = True := eq_true (by omega); (try rw [show ((2 : Int)).toNat = 2 from rfl] at hx203_0); have hn203_0 : ad163.block ≠ gb165 := Nat.ne_of_lt (Nat.lt_of_lt_of_le (by have := World.block_lt_of_cell? _ _ hx203_0; first | rwa [add_block] at this | exact this) GW165.out); replace hx203_0 := (HB.out.cell (World.block_lt_of_cell? w _ hx203_0)).trans hx203_0; replace hx203_0 := (cell_far (p := ⟨gb165, 1, none⟩) (by first | (rw [add_block]; exact hn203_0) | (show (Addr.add _ _).block ≠ _; rw [add_block]; exact hn203_0) | exact hn203_0) (.int .i64 t198)).trans hx203_0; clear hn203_0; replace p203 := eq_true p203; replace q203 := eq_true q203) | ((with_reducible refine gate_callee (f := 89) rfl ?_); refine gl 175 Tryz.func89 #[.string (rdOf ByteArray.empty l0 2)] ?_; (with_reducible refine (spec_l1Signed.calls kj102 (rdOf ByteArray.empty l0 2) t204 _ A115.out).mono ?_); rintro e w' ⟨rfl, ⟨nd, rfl⟩⟩; refine ⟨_, rfl, ?_⟩; obtain ⟨u118_0, u118_1, u118_2, u118_3, u118_4, u118_5, v118_0, v118_1, v118_2, v118_3, v118_4, v118_5⟩ := zc6 BK159))
                   refine bodyPost_ret (results_cell_row rfl _ _ gb159 24 #[.int .i64 x166000_1, .int .i64 t198, .int .i64 t201, .int .i64 t204, .int .i64 t202, .int .i64 x166005_1] (0, 0) _ rfl (by refine bq ?_; refine blk_put (cs := #[.int .i64 x166000_1, .int .i64 t198, .int .i64 t201, .int .i64 t204, .int .i64 t202, .int .i64 0]) ?_ 5 _ rfl; refine bq ?_; refine blk_put (cs := #[.int .i64 x166000_1, .int .i64 t198, .int .i64 t201, .int .i64 t204, .int .i64 0, .int .i64 0]) ?_ 4 _ rfl; refine bq ?_; refine blk_put (cs := #[.int .i64 x166000_1, .int .i64 t198, .int .i64 t201, .int .i64 0, .int .i64 0, .int .i64 0]) ?_ 3 _ rfl; refine bq ?_; refine blk_put (cs := #[.int .i64 x166000_1, .int .i64 t198, .int .i64 0, .int .i64 0, .int .i64 0, .int .i64 0]) ?_ 2 _ rfl; refine bq ?_; refine blk_put (cs := #[.int .i64 x166000_1, .int .i64 0, .int .i64 0, .int .i64 0, .int .i64 0, .int .i64 0]) ?_ 1 _ rfl; refine bq ?_; refine blk_put (cs := #[.int .i64 0, .int .i64 0, .int .i64 0, .int .i64 0, .int .i64 0, .int .i64 0]) ?_ 0 _ rfl; refine fq ?_ NB159_165.out; refine fq ?_ NB159_165.out; refine fq ?_ NB159_165.out; refine fq ?_ NB159_165.out; exact bq BK159.out) Tryz.underlying24 rfl (by kernel_rfl)) rfl ?_
                   exact ⟨zR, zB⟩
                  ·exact absurd H (nN c114)
                 ·exact absurd H (nN c112)
                ·exact absurd H (nN c110)
               ·replace c109 := Bool.eq_false_iff.mpr c109
                subst c109
                rw [if_neg (show ¬ (false = true) by decide)] at H
                have HC119 := Aside0.mk H
                clear H
                go_upto_region 32 with (fail)
                go_cut [181] (fun v181 wc => ∃ (kq : Nat) (x181_118 : Bool), v181 = .bool x181_118 ∧ Aside0 (spec_l1Read.j6 kq l0 x181_118 x166000_1 0 (-1) 0 0 x166005_1 = some (r1, r2, r3, r4, r5, r6)) ∧ Aside0 (kq ≤ kj102) ∧ Aside0 (wc.heap[gb159]? = some (.cells #[.int .i64 0, .int .i64 0, .int .i64 0, .int .i64 0, .int .i64 0, .int .i64 0] 24 (0, 0))) ∧ Aside0 (wc.heap[gb165]? = some (.cells #[.int .i64 x166000_1, .int .i64 0, .int .i64 (-1), .int .i64 0, .int .i64 0, .int .i64 x166005_1] 24 (0, 0))) ∧ Aside0 (Below w.heap.size w wc))
                case first =>
                 have H := HC119.out
                 clear HC119
                 by_cases c120 : x166000_1 = 19
                 ·rw [if_pos c120] at H
                  have c120b0 : (x166000_1 == 19) = true := beq_iff_eq.mpr c120
                  have c120b1 : (x166000_1 != 19) = false := bne_eq_false_iff_eq.mpr c120
                  clear c120
                  (first | rw [c120b0] | (simp only [i64_w, i32_w]; rw [c120b0]) | skip)
                  have H' := Aside0.mk H
                  clear H
                  have hnb121 := NB165_159.out
                  have hnc121 := NB159_165.out
                  obtain ⟨u122_0, u122_1, u122_2, u122_3, u122_4, u122_5, v122_0, v122_1, v122_2, v122_3, v122_4, v122_5⟩ := zc6 BK165
                  as_aux_lemma =>
                   go_wp2
                   go_meet
                   case rel => exact ⟨_, (((l0.length : Int) == 2)), zQ, H', ⟨by have := HK1.out; have := HJ42.out; have := HJ74.out; have := HJ86.out; have := HJ102.out; first | omega | exact Nat.le_refl _⟩, ⟨by exact bq BK159.out⟩, ⟨by exact bq BK165.out⟩, ⟨zB⟩⟩
                 ·rw [if_neg c120] at H
                  have c120b0 : (x166000_1 == 19) = false := beq_eq_false_iff_ne.mpr c120
                  have c120b1 : (x166000_1 != 19) = true := bne_iff_ne.mpr c120
                  (first | rw [c120b0] | (simp only [i64_w, i32_w]; rw [c120b0]) | skip)
                  have H' := Aside0.mk H
                  clear H
                  have hnb123 := NB165_159.out
                  have hnc123 := NB159_165.out
                  obtain ⟨u124_0, u124_1, u124_2, u124_3, u124_4, u124_5, v124_0, v124_1, v124_2, v124_3, v124_4, v124_5⟩ := zc6 BK165
                  as_aux_lemma =>
                   go_wp2
                   go_meet
                   case rel => exact ⟨_, (false), zQ, H', ⟨by have := HK1.out; have := HJ42.out; have := HJ74.out; have := HJ86.out; have := HJ102.out; first | omega | exact Nat.le_refl _⟩, ⟨by exact bq BK159.out⟩, ⟨by exact bq BK165.out⟩, ⟨zB⟩⟩
                case rest =>
                 clear HC119
                 try clear c1
                 try clear p1 p1
                 try clear q1 q1
                 try clear hx1
                 try clear qi1
                 try clear c2
                 try clear p2 p2
                 try clear q2
                 try clear hx2
                 try clear qi2
                 try clear c3
                 try clear c3b0
                 try clear c3b1
                 try clear c4
                 try clear c5
                 try clear c6
                 try clear p6 p6
                 try clear c7
                 try clear c8
                 try clear c9
                 try clear c10
                 try clear c11
                 try clear c12
                 try clear p16 p16
                 try clear q16 q16
                 try clear hx16
                 try clear qi16
                 try clear c17
                 try clear c17b0
                 try clear p17 p17
                 try clear q17 q17
                 try clear hx17
                 try clear qi17
                 try clear p18 p18
                 try clear q18 q18
                 try clear hx18
                 try clear qi18
                 try clear c19
                 try clear c19b0
                 try clear c19b1
                 try clear p19 p19
                 try clear q19 q19
                 try clear hx19
                 try clear qi19
                 try clear p20
                 try clear q20
                 try clear hx20
                 try clear qi20
                 try clear c21
                 try clear c21b0
                 try clear c21b1
                 try clear c21b2
                 try clear c22
                 try clear c22b0
                 try clear c22b1
                 try clear c26
                 try clear c26b0
                 try clear c26b1
                 try clear c26b2
                 try clear c30
                 try clear c32
                 try clear c32b0
                 try clear c32b1
                 try clear c33
                 try clear c34
                 try clear c34b0
                 try clear c34b1
                 try clear c35
                 try clear c35b0
                 try clear c35b1
                 try clear c41
                 try clear c45
                 try clear c46
                 try clear c46b0
                 try clear c46b1
                 try clear c47
                 try clear c50
                 try clear c51
                 try clear c53
                 try clear c56
                 try clear c57
                 try clear c59
                 try clear c61
                 try clear c62
                 try clear c62b0
                 try clear c62b1
                 try clear c64
                 try clear c64b0
                 try clear c64b1
                 try clear p64 p64
                 try clear c66
                 try clear c66b0
                 try clear c66b1
                 try clear c67
                 try clear c67b0
                 try clear c67b1
                 try clear c69
                 try clear c72
                 try clear c76
                 try clear c76b0
                 try clear c76b1
                 try clear c77
                 try clear c79
                 try clear c81
                 try clear c82
                 try clear c82b0
                 try clear c82b1
                 try clear c84
                 try clear c88
                 try clear c88b0
                 try clear c88b1
                 try clear c89
                 try clear c91
                 try clear c93
                 try clear c94
                 try clear c94b0
                 try clear c94b1
                 try clear c96
                 try clear c96b0
                 try clear c96b1
                 try clear c98
                 try clear c98b0
                 try clear c98b1
                 try clear c100
                 try clear c104
                 try clear c104b0
                 try clear c104b1
                 try clear c105
                 try clear c107
                 try clear c109
                 try clear c110
                 try clear c110b0
                 try clear c110b1
                 try clear c112
                 try clear c112b0
                 try clear c112b1
                 try clear c114
                 try clear c114b0
                 try clear c114b1
                 try clear c116
                 try clear c120
                 try clear c120b0
                 try clear c120b1
                 try clear c121
                 try clear c123
                 try clear u101_0 u101_1 u101_2 u101_3 u101_4 u101_5 v101_0 v101_1 v101_2 v101_3 v101_4 v101_5
                 try clear u102_0 u102_1 u102_2 u102_3 u102_4 u102_5 v102_0 v102_1 v102_2 v102_3 v102_4 v102_5
                 try clear u106_0 u106_1 u106_2 u106_3 u106_4 u106_5 v106_0 v106_1 v106_2 v106_3 v106_4 v106_5
                 try clear u108_0 u108_1 u108_2 u108_3 u108_4 u108_5 v108_0 v108_1 v108_2 v108_3 v108_4 v108_5
                 try clear u117_0 u117_1 u117_2 u117_3 u117_4 u117_5 v117_0 v117_1 v117_2 v117_3 v117_4 v117_5
                 try clear u118_0 u118_1 u118_2 u118_3 u118_4 u118_5 v118_0 v118_1 v118_2 v118_3 v118_4 v118_5
                 try clear u122_0 u122_1 u122_2 u122_3 u122_4 u122_5 v122_0 v122_1 v122_2 v122_3 v122_4 v122_5
                 try clear u124_0 u124_1 u124_2 u124_3 u124_4 u124_5 v124_0 v124_1 v124_2 v124_3 v124_4 v124_5
                 try clear u42_0 u42_1 u42_2 u42_3 u42_4 u42_5 v42_0 v42_1 v42_2 v42_3 v42_4 v42_5
                 try clear u48_0 u48_1 u48_2 u48_3 u48_4 u48_5 v48_0 v48_1 v48_2 v48_3 v48_4 v48_5
                 try clear u52_0 u52_1 u52_2 u52_3 u52_4 u52_5 v52_0 v52_1 v52_2 v52_3 v52_4 v52_5
                 try clear u54_0 u54_1 u54_2 u54_3 u54_4 u54_5 v54_0 v54_1 v54_2 v54_3 v54_4 v54_5
                 try clear u58_0 u58_1 u58_2 u58_3 u58_4 u58_5 v58_0 v58_1 v58_2 v58_3 v58_4 v58_5
                 try clear u60_0 u60_1 u60_2 u60_3 u60_4 u60_5 v60_0 v60_1 v60_2 v60_3 v60_4 v60_5
                 try clear u70_0 u70_1 u70_2 u70_3 u70_4 u70_5 v70_0 v70_1 v70_2 v70_3 v70_4 v70_5
                 try clear u71_0 u71_1 u71_2 u71_3 u71_4 u71_5 v71_0 v71_1 v71_2 v71_3 v71_4 v71_5
                 try clear u73_0 u73_1 u73_2 u73_3 u73_4 u73_5 v73_0 v73_1 v73_2 v73_3 v73_4 v73_5
                 try clear u74_0 u74_1 u74_2 u74_3 u74_4 u74_5 v74_0 v74_1 v74_2 v74_3 v74_4 v74_5
                 try clear u78_0 u78_1 u78_2 u78_3 u78_4 u78_5 v78_0 v78_1 v78_2 v78_3 v78_4 v78_5
                 try clear u80_0 u80_1 u80_2 u80_3 u80_4 u80_5 v80_0 v80_1 v80_2 v80_3 v80_4 v80_5
                 try clear u85_0 u85_1 u85_2 u85_3 u85_4 u85_5 v85_0 v85_1 v85_2 v85_3 v85_4 v85_5
                 try clear u86_0 u86_1 u86_2 u86_3 u86_4 u86_5 v86_0 v86_1 v86_2 v86_3 v86_4 v86_5
                 try clear u90_0 u90_1 u90_2 u90_3 u90_4 u90_5 v90_0 v90_1 v90_2 v90_3 v90_4 v90_5
                 try clear u92_0 u92_1 u92_2 u92_3 u92_4 u92_5 v92_0 v92_1 v92_2 v92_3 v92_4 v92_5
                 try clear hx163_0
                 try clear hx166_0
                 try clear hx168_0
                 try clear hx173_0
                 try clear hx174_0
                 try clear hx179_0
                 try clear hx182_0
                 try clear hx185_0
                 try clear hx187_0
                 try clear hx189_0
                 try clear hx192_0
                 try clear hx195_0
                 try clear hx197_0
                 try clear hx200_0
                 try clear hx203_0
                 try clear p163
                 try clear p166
                 try clear p168
                 try clear p173
                 try clear p174
                 try clear p179
                 try clear p182
                 try clear p185
                 try clear p187
                 try clear p189
                 try clear p192
                 try clear p195
                 try clear p197
                 try clear p200
                 try clear p203
                 try clear q163
                 try clear q166
                 try clear q168
                 try clear q173
                 try clear q174
                 try clear q179
                 try clear q182
                 try clear q185
                 try clear q187
                 try clear q189
                 try clear q192
                 try clear q195
                 try clear q197
                 try clear q200
                 try clear q203
                 obtain ⟨kq, x181_118, rfl, HA, HJ118, BK159, BK165, HB⟩ := hcut
                 cases kq with
                 | zero => exact absurd HA.out (by simp [spec_l1Read.j6])
                 | succ kj118 =>
                  have H := HA.out
                  clear HA
                  simp only [spec_l1Read.j6] at H
                  by_cases c125 : x181_118 = true
                  ·subst c125
                   rw [if_pos rfl] at H
                   replace H := oA H
                   obtain ⟨t205, A126, H⟩ := H
                   try dsimp only at H
                   by_cases c127 : 1 < (l0.length : Int)
                   ·rw [if_pos c127] at H
                    have c127b0 : decide (1 < (l0.length : Int)) = true := decide_eq_true c127
                    have c127b1 : decide (1 < l0.length) = true := decide_eq_true (by omega)
                    clear c127
                    replace H := oA H
                    obtain ⟨t209, A128, H⟩ := H
                    try dsimp only at H
                    simp only [Option.some.injEq, Prod.mk.injEq] at H
                    obtain ⟨rfl, rfl, rfl, rfl, rfl, rfl⟩ := H
                    try go_wp2
                    replace BK159 := Aside0.mk (blk_drew BK159.out)
                    replace BK165 := Aside0.mk (blk_drew BK165.out)
                    replace HB := Aside0.mk (below_drew1 HB.out)
                    have p208 : 0 ≤ (1 : Int) := (by omega)
                    have q208 : 1 < (l0.length : Int) := dz7
                    obtain ⟨ad208, e208, hx208_0⟩ := Kd.at_string HR0.out 1 p208 q208
                    have hw208_0 := hx208_0
                    (try rw [show ((1 : Int)).toNat = 1 from rfl] at hw208_0)
                    (try rw [show 1 * 1 = 1 from rfl] at hw208_0)
                    (try simp only [Nat.reduceMul, Nat.reduceEqDiff, Go.Addr.add, ↓reduceIte] at hw208_0)
                    obtain rfl : ad163 = ad208 := (by injection e208)
                    (try simp only [show (1 : Int).toNat = 1 from rfl, Nat.reduceMul, Nat.reduceEqDiff, Go.Addr.add, ↓reduceIte] at hx208_0)
                    have qi208 : (1 < l0.length) = True := eq_true (by omega)
                    (try rw [show ((1 : Int)).toNat = 1 from rfl] at hx208_0)
                    replace hx208_0 := (HB.out.cell (World.block_lt_of_cell? w _ hx208_0)).trans hx208_0
                    replace p208 := eq_true p208
                    replace q208 := eq_true q208
                    refine start_ (n := 7) (S := fun w' => w'.cell? ⟨ad163.block, ad163.off + 1, none⟩ = some (.string (rdOf ByteArray.empty l0 1))) (ds := []) #[false, false, false, false, false, false, false] (by kernel_rfl) rfl rfl (((HB.out.cell (World.block_lt_of_cell? w _ hw208_0)).trans hw208_0)) (fun hHeld => ?_)
                    generalize wc.drew = w129 at BK159 BK165 HB hx208_0 hHeld ⊢
                    refine pz 1 190 ?_
                    refine pz 2 191 ?_
                    refine take_ (i := 3) (N := some 192) (v := ?_) (a' := ?_) #[false, true, true, true, false, false, false] rfl rfl (by kernel_rfl) (fun _ _ _ h => h) (Or.inl ⟨by rfl, ?_⟩) hHeld ?_ ?_
                    rotate_left
                    ·intro w' s0
                     go_simp
                     with_reducible rfl
                    rotate_left
                    ·simp only [Act.put, List.setIfInBounds_toArray, List.set_cons_zero, List.set_cons_succ, i64_w, i32_w]
                     rfl
                    refine oz 0 189 fun K hK => ?_
                    refine gz Tryz.func37 #[] ?_
                    with_reducible refine (spec_l1Calls.calls  t205 _ A126.out).mono ?_
                    rintro e w130 ⟨v206, rfl, ho0, hb⟩
                    refine ⟨_, rfl, ?_⟩
                    have HO207 := Aside0.mk (Kd.R_lower ho0 (below_size zB))
                    replace BK159 := zb BK159 hb rfl
                    replace BK165 := zb BK165 hb rfl
                    replace HB := zS hb
                    (try clear hb)
                    (try clear hi)
                    (try clear ho0)
                    obtain ⟨Ao131, co131, eo131⟩ := Kd.R_slice HO207.out
                    (first | subst eo131 | (injection eo131 with f1_ f2_ f3_; have f4_ := f1_.symm; have f5_ := f3_.symm; clear f1_ f2_ f3_; subst f4_; subst f5_))
                    refine hK.out _ _ (((HB.out.cell (World.block_lt_of_cell? w _ hw208_0)).trans hw208_0)) (fun hHeld => ?_)
                    clear hK K
                    refine nz ?_
                    refine oz 4 193 fun K hK => ?_
                    refine gz Tryz.func87 #[.slice Ao131 t205.length co131, .string (rdOf ByteArray.empty l0 1)] ?_
                    with_reducible refine (spec_l1Find.calls kj118 _ _ t205 (rdOf ByteArray.empty l0 1) t209 _ ?side1 ?side2 A128.out).mono ?_
                    (case side1 => exact zC HO207)
                    (case side2 => exact (Kd.R_reads' HO207.out).2.1)
                    rintro e w' ⟨rfl, ⟨nd, rfl⟩⟩
                    refine ⟨_, rfl, ?_⟩
                    refine hK.out _ _ (((HB.out.cell (World.block_lt_of_cell? w _ hw208_0)).trans hw208_0)) (fun hHeld => ?_)
                    clear hK K
                    refine nz ?_
                    refine pz 5 194 ?_
                    refine oN 6 fun K hK => ?_
                    have hs132 : w130.cell? ⟨gb165, 4, none⟩ = some (.int .i64 0) := (blk_cell BK165.out 4).trans rfl
                    have hfs132 := blk_frozen BK165.out 4
                    have hns132_0 := NB159_165.out
                    have hms132_0 := NB165_159.out
                    refine skip_ (w1 := ?_) (by rfl) rfl ?_ ?_
                    rotate_left
                    ·go_simp
                     rfl
                    refine hK.out _ _ (((cell_far (p := ⟨gb165, _, none⟩) (zN hw208_0 GW165) _).trans (hHeld))) (fun hHeld => ?_)
                    clear hK K
                    refine done_ (by kernel_rfl) ?_
                    have hnb133 := NB165_159.out
                    have hnc133 := NB159_165.out
                    obtain ⟨_, _, _, _, _, _, _, _, _, _, _, _⟩ := zc6 BK165
                    obtain ⟨_, _, _, _, _, _, _, _, _, _, _, _⟩ := zc6 BK159
                    try go_wp2
                    refine bodyPost_ret (results_cell_row rfl _ _ gb159 24 #[.int .i64 x166000_1, .int .i64 0, .int .i64 (-1), .int .i64 0, .int .i64 t209, .int .i64 x166005_1] (0, 0) _ rfl (by refine bq ?_; refine blk_put (cs := #[.int .i64 x166000_1, .int .i64 0, .int .i64 (-1), .int .i64 0, .int .i64 t209, .int .i64 0]) ?_ 5 _ rfl; refine bq ?_; refine blk_put (cs := #[.int .i64 x166000_1, .int .i64 0, .int .i64 (-1), .int .i64 0, .int .i64 0, .int .i64 0]) ?_ 4 _ rfl; refine bq ?_; refine blk_put (cs := #[.int .i64 x166000_1, .int .i64 0, .int .i64 (-1), .int .i64 0, .int .i64 0, .int .i64 0]) ?_ 3 _ rfl; refine bq ?_; refine blk_put (cs := #[.int .i64 x166000_1, .int .i64 0, .int .i64 0, .int .i64 0, .int .i64 0, .int .i64 0]) ?_ 2 _ rfl; refine bq ?_; refine blk_put (cs := #[.int .i64 x166000_1, .int .i64 0, .int .i64 0, .int .i64 0, .int .i64 0, .int .i64 0]) ?_ 1 _ rfl; refine bq ?_; refine blk_put (cs := #[.int .i64 0, .int .i64 0, .int .i64 0, .int .i64 0, .int .i64 0, .int .i64 0]) ?_ 0 _ rfl; refine fq ?_ NB159_165.out; exact bq BK159.out) Tryz.underlying24 rfl (by kernel_rfl)) rfl ?_
                    exact ⟨zR, zB⟩
                   ·exact absurd H (nN c127)
                  ·replace c125 := Bool.eq_false_iff.mpr c125
                   subst c125
                   rw [if_neg (show ¬ (false = true) by decide)] at H
                   simp only [Option.some.injEq, Prod.mk.injEq] at H
                   obtain ⟨rfl, rfl, rfl, rfl, rfl, rfl⟩ := H
                   have hnb136 := NB165_159.out
                   have hnc136 := NB159_165.out
                   obtain ⟨_, _, _, _, _, _, _, _, _, _, _, _⟩ := zc6 BK165
                   obtain ⟨_, _, _, _, _, _, _, _, _, _, _, _⟩ := zc6 BK159
                   go_wp2
                   refine bodyPost_ret (results_cell_row rfl _ _ gb159 24 #[.int .i64 x166000_1, .int .i64 0, .int .i64 (-1), .int .i64 0, .int .i64 0, .int .i64 x166005_1] (0, 0) _ rfl (by refine bq ?_; refine blk_put (cs := #[.int .i64 x166000_1, .int .i64 0, .int .i64 (-1), .int .i64 0, .int .i64 0, .int .i64 0]) ?_ 5 _ rfl; refine bq ?_; refine blk_put (cs := #[.int .i64 x166000_1, .int .i64 0, .int .i64 (-1), .int .i64 0, .int .i64 0, .int .i64 0]) ?_ 4 _ rfl; refine bq ?_; refine blk_put (cs := #[.int .i64 x166000_1, .int .i64 0, .int .i64 (-1), .int .i64 0, .int .i64 0, .int .i64 0]) ?_ 3 _ rfl; refine bq ?_; refine blk_put (cs := #[.int .i64 x166000_1, .int .i64 0, .int .i64 0, .int .i64 0, .int .i64 0, .int .i64 0]) ?_ 2 _ rfl; refine bq ?_; refine blk_put (cs := #[.int .i64 x166000_1, .int .i64 0, .int .i64 0, .int .i64 0, .int .i64 0, .int .i64 0]) ?_ 1 _ rfl; refine bq ?_; refine blk_put (cs := #[.int .i64 0, .int .i64 0, .int .i64 0, .int .i64 0, .int .i64 0, .int .i64 0]) ?_ 0 _ rfl; exact bq BK159.out) Tryz.underlying24 rfl (by kernel_rfl)) rfl ?_
                   exact ⟨zR, zB⟩
set_option maxHeartbeats 8000000 in
set_option maxRecDepth 100000 in
theorem spec_l1Read.calls (k : Nat) (A0 : Option Addr) (c0 : Nat) (l0 : List ByteArray) (r1 r2 : Int) (r3 r4 : Int) (r5 r6 : Int) (w : World) (hr0 : Kd.C Kd.string w A0 l0.length l0) (hc0 : l0.length ≤ c0) (h : spec_l1Read.f k l0 = some (r1, r2, r3, r4, r5, r6)) :
  Calls Tryz.prog 70 #[.slice A0 l0.length c0] w fun e w' => e = .returned (.agg #[.int .i64 r1, .int .i64 r2, .int .i64 r3, .int .i64 r4, .int .i64 r5, .int .i64 r6]) ∧ Below w.heap.size w w' := by
 have hu24 := Tryz.underlying24
 have HR0 := Aside0.mk hr0
 have HC0 := Aside0.mk hc0
 clear hr0 hc0
 have HB := Aside0.mk (Below.refl w.heap.size w)
 have H := h
 clear h
 unfold spec_l1Read.f at H
 replace H := oA H
 obtain ⟨t160, A2, H⟩ := H
 try dsimp only at H
 by_cases c3 : 0 < (l0.length : Int)
 ·rw [if_pos c3] at H
  have c3b0 : decide (0 < (l0.length : Int)) = true := decide_eq_true c3
  have c3b1 : decide (0 < l0.length) = true := decide_eq_true (by omega)
  clear c3
  replace H := oA H
  obtain ⟨t164, A4, H⟩ := H
  try dsimp only at H
  exact spec_l1Read.way k A0 c0 l0 r1 r2 r3 r4 r5 r6 w HR0 HC0 t160 A2 c3b0 c3b1 t164 A4 ⟨H⟩ HB
 ·exact absurd H (nN c3)
end Go.Proofs.YtllmbooicobmkaaGreatDoor.Q
