/- The machine's side of this seat's laws: Go functions as Lean functions, and their contracts. By a program of this work over the kit's print. -/
import Derived.Test.YtllmbooicobmkaaGreatDoorQ0
import Derived.Test.YtllmbooicobmkaaGreatDoorQ1
import Derived.Test.YtllmbooicobmkaaGreatDoorQ13
import Derived.Test.YtllmbooicobmkaaGreatDoorQ14
import Derived.Test.YtllmbooicobmkaaGreatDoorQ17
import Derived.Test.YtllmbooicobmkaaGreatDoorQ18
namespace Go.Proofs.YtllmbooicobmkaaGreatDoor.Q
open Go.RowKit Go.Proofs.YtllmbooicobmkaaGreatDoorW.PrintWords Go.Proofs.YtllmbooicobmkaaGreatDoorW.PrintLast Go.Proofs.YtllmbooicobmkaaGreatDoorW.PrintMore
attribute [local go_sem] max2_int min2_int max_two min_two max_three min_three max_four min_four Go.Proofs.YtllmbooicobmkaaGreatDoorN.not_i64 Go.Proofs.YtllmbooicobmkaaGreatDoorN.isSome_setCell
set_option linter.unusedVariables false
set_option linter.unusedSimpArgs false
attribute [local go_sem high] eqA24
def strings_Split.f (a0 a1 : ByteArray) : Option (List ByteArray) := if a0.size < 4294967281 then (if 1 ≤ a1.size then some (Lib.splitB a1 0 (Lib.countB a0 a1) a0) else none) else none
theorem strings_Split.reps {w : World} {base : Nat} {ok : Nat → Prop} : ∀ l : List ByteArray, Reps (Kd.string.M w base ok) Kd.string.sz l (l.map Value.string)
 | [] => Reps.none _ _
 | x :: l => Reps.one (show Kd.M Kd.string _ _ _ x [.string x] from rfl) (strings_Split.reps l)
theorem strings_Split.calls (a0 a1 : ByteArray) (r : List ByteArray) (w : World) (h : strings_Split.f a0 a1 = some r) (zHT : Tryz.Te w := by first | exact zHT | exact Tryz.te_below zHT zB) :
 Calls Tryz.prog 16 #[.string a0, .string a1] w fun e w' => ∃ v0_ : Value, e = .returned (v0_) ∧ Kd.R Kd.string 9 w' w.heap.size (fun _ => True) v0_ r ∧ Below w.heap.size w w' := by
 unfold strings_Split.f at h
 split at h
 ·split at h
  ·obtain rfl := Option.some.inj h
   refine (Tryz.split a0 a1 ‹_› ‹_› w zHT).mono ?_
   rintro e w' ⟨rfl, rfl⟩
   have hl : (Lib.splitB a1 0 (Lib.countB a0 a1) a0).length = Lib.countB a0 a1 + 1 := Lib.splitB_all a1 ‹_› 0 _ a0 rfl
   have hm : Lib.countB a0 a1 ≤ a0.size := Lib.countB_le a1 ‹_› a0.size a0 (Nat.le_refl _)
   rw [← hl]
   refine ⟨_, rfl, ⟨fun _ _ => trivial, (Lib.splitB a1 0 (Lib.countB a0 a1) a0).map Value.string, ?_, strings_Split.reps _⟩, below_alloc (Below.refl _ _) _⟩
   have h2 := World.ownsRow_lit (base := w.heap.size) (e := 9) (size := 1) w ((Lib.splitB a1 0 (Lib.countB a0 a1) a0).map Value.string).toArray (Lib.splitB a1 0 (Lib.countB a0 a1) a0).length (Nat.le_refl _) (by simp only [maxLen]; omega) (by simp)
   exact h2
  ·cases h
 ·cases h
def impl_LineGet.j0 : Nat → Bool → Int → Int → Int → Int → Int → Int → Option (Int × Int × Int × Int × Int × Int × Bool)
 | 0, _, _, _, _, _, _, _ => none
 | k + 1, x24, x615000, x615001, x615002, x615003, x615004, x615005 => if x24 = true then (some (0, 0, 0, 0, 0, 0, false)) else (some (x615000, x615001, x615002, x615003, x615004, x615005, true))
def impl_LineGet.f (k : Nat) (a0 : ByteArray) : Option (Int × Int × Int × Int × Int × Int × Bool) := (strings_Split.f a0 (⟨#[32]⟩ : ByteArray)).bind fun t604 => ((impl_readIns.f k t604).bind fun bt607 => (if bt607.2.2.2.2.2.2 = true then ((impl_InsOk.f bt607.1 bt607.2.1 bt607.2.2.1 bt607.2.2.2.1 bt607.2.2.2.2.1 bt607.2.2.2.2.2.1).bind fun t615 => (if t615 = true then ((impl_LinePut.f bt607.1 bt607.2.1 bt607.2.2.1 bt607.2.2.2.1 bt607.2.2.2.2.1 bt607.2.2.2.2.2.1).bind fun t616 => (impl_LineGet.j0 k (t616.toList != a0.toList) bt607.1 bt607.2.1 bt607.2.2.1 bt607.2.2.2.1 bt607.2.2.2.2.1 bt607.2.2.2.2.2.1)) else (impl_LineGet.j0 k true bt607.1 bt607.2.1 bt607.2.2.1 bt607.2.2.2.1 bt607.2.2.2.2.1 bt607.2.2.2.2.2.1))) else (impl_LineGet.j0 k true bt607.1 bt607.2.1 bt607.2.2.1 bt607.2.2.2.1 bt607.2.2.2.2.1 bt607.2.2.2.2.2.1)))
set_option maxHeartbeats 8000000 in
set_option maxRecDepth 100000 in
theorem impl_LineGet.calls (k : Nat) (a0 : ByteArray) (r1 r2 : Int) (r3 r4 : Int) (r5 r6 : Int) (r7 : Bool) (w : World) (h : impl_LineGet.f k a0 = some (r1, r2, r3, r4, r5, r6, r7)) (zHT : Tryz.Te w := by first | exact zHT | exact Tryz.te_below zHT zB) :
  Calls Tryz.prog 7 #[.string a0] w fun e w' => e = .returned (.tuple #[.agg #[.int .i64 r1, .int .i64 r2, .int .i64 r3, .int .i64 r4, .int .i64 r5, .int .i64 r6], .bool r7]) ∧ Below w.heap.size w w' := by
 have hu24 := Tryz.underlying24
 have HB := Aside0.mk (Below.refl w.heap.size w)
 have H := h
 clear h
 unfold impl_LineGet.f at H
 replace H := oA H
 obtain ⟨t604, A2, H⟩ := H
 try dsimp only at H
 replace H := oA H
 obtain ⟨⟨t607, t608, t609, t610, t611, t612, t613⟩, A3, H⟩ := H
 try dsimp only at H
 have HC4 := Aside0.mk H
 clear H
 go_enter Tryz.func7, Tryz.ntmps7
 go_upto_region 2 with (first | ((with_reducible refine gate_dst (N := 2) rfl ?_); refine be 2 #[.int .i64 0, .int .i64 0, .int .i64 0, .int .i64 0, .int .i64 0, .int .i64 0] 24 ?_; intro gb603 hg w5 hbox hb; have BK603 := Aside0.mk hbox; have GW603 := zW hg; replace HB := zS hb; have GE603 := GW603; clear hb hbox hg) | ((with_reducible refine gate_callee (f := 16) rfl ?_); refine gl 8 Tryz.func16 #[.string a0, .string (⟨#[32]⟩ : ByteArray)] ?_; (with_reducible refine (strings_Split.calls a0 (⟨#[32]⟩ : ByteArray) t604 _ A2.out).mono ?_); rintro e w6 ⟨v605, rfl, ho0, hb⟩; refine ⟨_, rfl, ?_⟩; have HO606 := Aside0.mk (Kd.R_lower ho0 (below_size zB)); replace BK603 := zb BK603 hb rfl; replace HB := zS hb; (try clear hb); (try clear hb2); (try clear hk); (try clear hi); (try clear ho0); obtain ⟨Ao7, co7, eo7⟩ := Kd.R_slice HO606.out; subst eo7) | ((with_reducible refine gate_callee (f := 15) rfl ?_); refine gl 9 Tryz.func15 #[.slice Ao7 t604.length co7] ?_; (with_reducible refine (impl_readIns.calls k _ _ t604 t607 t608 t609 t610 t611 t612 t613 _ ?side1 ?side2 A3.out).mono ?_); (case side1 => exact zC HO606); (case side2 => exact (Kd.R_reads' HO606.out).2.1); rintro e w8 ⟨rfl, hb⟩; refine ⟨_, rfl, ?_⟩; replace HO606 := Aside0.mk (Kd.R_below (zU HO606) hb); replace BK603 := zb BK603 hb rfl; replace HB := zS hb; try clear hb) | ((with_reducible refine gate_dst (N := 4) rfl ?_); refine be 4 #[.int .i64 0, .int .i64 0, .int .i64 0, .int .i64 0, .int .i64 0, .int .i64 0] 24 ?_; intro gb614 hg w9 hbox hb; replace HO606 := Aside0.mk (Kd.R_below (zU HO606) hb); have BK614 := Aside0.mk hbox; have GW614 := zW hg; replace HB := zS hb; have GE614 := GW614; have NB603_614 := zl BK603 hg rfl; have NB614_603 := zg BK603 hg rfl; replace BK603 := zb BK603 hb rfl; clear hb hbox hg; have hnb10 := NB614_603.out; have hnc10 := NB603_614.out; obtain ⟨u11_0, u11_1, u11_2, u11_3, u11_4, u11_5, v11_0, v11_1, v11_2, v11_3, v11_4, v11_5⟩ := zc6 BK614))
 (try simp only [Act.put, List.setIfInBounds_toArray, List.set_cons_zero, List.set_cons_succ])
 go_cut [24] (fun v24 wc => ∃ (kq : Nat) (x24_3 : Bool), v24 = .bool x24_3 ∧ Aside0 (impl_LineGet.j0 kq x24_3 t607 t608 t609 t610 t611 t612 = some (r1, r2, r3, r4, r5, r6, r7)) ∧ Aside0 (kq ≤ k) ∧ Aside0 (wc.heap[gb603]? = some (.cells #[.int .i64 0, .int .i64 0, .int .i64 0, .int .i64 0, .int .i64 0, .int .i64 0] 24 (0, 0))) ∧ Aside0 (wc.heap[gb614]? = some (.cells #[.int .i64 t607, .int .i64 t608, .int .i64 t609, .int .i64 t610, .int .i64 t611, .int .i64 t612] 24 (0, 0))) ∧ Aside0 (Below w.heap.size w wc))
 case first =>
  have H := HC4.out
  clear HC4
  by_cases c12 : t613 = true
  ·subst c12
   rw [if_pos rfl] at H
   replace H := oA H
   obtain ⟨t615, A13, H⟩ := H
   try dsimp only at H
   by_cases c14 : t615 = true
   ·subst c14
    rw [if_pos rfl] at H
    replace H := oA H
    obtain ⟨t616, A15, H⟩ := H
    try dsimp only at H
    have H' := Aside0.mk H
    clear H
    have hnb16 := NB614_603.out
    have hnc16 := NB603_614.out
    obtain ⟨u17_0, u17_1, u17_2, u17_3, u17_4, u17_5, v17_0, v17_1, v17_2, v17_3, v17_4, v17_5⟩ := zc6 BK614
    go_wp2_with (first | (go_at_call 10; (with_reducible refine (impl_InsOk.calls t607 t608 t609 t610 t611 t612 true _ A13.out).mono ?_); rintro e w18 ⟨rfl, hb⟩; replace HO606 := Aside0.mk (Kd.R_below (by (with_reducible repeat (first | apply Kd.R_alloc | apply Kd.R_drewN | apply Kd.R_drew)); exact (Kd.R_mono (Kd.R_far (p := ⟨gb614, 5, none⟩) (Kd.R_far (p := ⟨gb614, 4, none⟩) (Kd.R_far (p := ⟨gb614, 3, none⟩) (Kd.R_far (p := ⟨gb614, 2, none⟩) (Kd.R_far (p := ⟨gb614, 1, none⟩) (Kd.R_far (p := ⟨gb614, 0, none⟩) (Kd.R_types HO606.out BK614.out (by decide)) (fun _ hk => hk.2) (.int .i64 t607)) (fun _ hk => hk.2) (.int .i64 t608)) (fun _ hk => hk.2) (.int .i64 t609)) (fun _ hk => hk.2) (.int .i64 t610)) (fun _ hk => hk.2) (.int .i64 t611)) (fun _ hk => hk.2) (.int .i64 t612)) (fun _ h_ => h_.1))) hb); replace BK603 := Aside0.mk (blk_below (g := gb603) (o := .cells #[.int .i64 0, .int .i64 0, .int .i64 0, .int .i64 0, .int .i64 0, .int .i64 0] 24 (0, 0)) (by refine fq ?_ NB603_614.out; refine fq ?_ NB603_614.out; refine fq ?_ NB603_614.out; refine fq ?_ NB603_614.out; refine fq ?_ NB603_614.out; refine fq ?_ NB603_614.out; exact bq BK603.out) hb); replace BK614 := Aside0.mk (blk_below (g := gb614) (o := .cells #[.int .i64 t607, .int .i64 t608, .int .i64 t609, .int .i64 t610, .int .i64 t611, .int .i64 t612] 24 (0, 0)) (by refine bq ?_; refine blk_put (cs := #[.int .i64 t607, .int .i64 t608, .int .i64 t609, .int .i64 t610, .int .i64 t611, .int .i64 0]) ?_ 5 _ rfl; refine bq ?_; refine blk_put (cs := #[.int .i64 t607, .int .i64 t608, .int .i64 t609, .int .i64 t610, .int .i64 0, .int .i64 0]) ?_ 4 _ rfl; refine bq ?_; refine blk_put (cs := #[.int .i64 t607, .int .i64 t608, .int .i64 t609, .int .i64 0, .int .i64 0, .int .i64 0]) ?_ 3 _ rfl; refine bq ?_; refine blk_put (cs := #[.int .i64 t607, .int .i64 t608, .int .i64 0, .int .i64 0, .int .i64 0, .int .i64 0]) ?_ 2 _ rfl; refine bq ?_; refine blk_put (cs := #[.int .i64 t607, .int .i64 0, .int .i64 0, .int .i64 0, .int .i64 0, .int .i64 0]) ?_ 1 _ rfl; refine bq ?_; refine blk_put (cs := #[.int .i64 0, .int .i64 0, .int .i64 0, .int .i64 0, .int .i64 0, .int .i64 0]) ?_ 0 _ rfl; exact bq BK614.out) hb); replace HB := zS hb; try clear hb; obtain ⟨u19_0, u19_1, u19_2, u19_3, u19_4, u19_5, v19_0, v19_1, v19_2, v19_3, v19_4, v19_5⟩ := zc6 BK614) | (go_at_call 5; (with_reducible refine (impl_LinePut.calls t607 t608 t609 t610 t611 t612 t616 _ A15.out).mono ?_); rintro e w20 ⟨rfl, hb⟩; replace HO606 := Aside0.mk (Kd.R_below (zU HO606) hb); replace BK603 := zb BK603 hb rfl; replace BK614 := zb BK614 hb rfl; replace HB := zS hb; try clear hb))
    go_meet
    case rel => exact ⟨_, ((t616.toList != a0.toList)), zQ, H', ⟨by first | omega | exact Nat.le_refl _⟩, ⟨by exact bq BK603.out⟩, ⟨by exact bq BK614.out⟩, ⟨zB⟩⟩
   ·replace c14 := Bool.eq_false_iff.mpr c14
    subst c14
    rw [if_neg (show ¬ (false = true) by decide)] at H
    have H' := Aside0.mk H
    clear H
    have hnb21 := NB614_603.out
    have hnc21 := NB603_614.out
    obtain ⟨u22_0, u22_1, u22_2, u22_3, u22_4, u22_5, v22_0, v22_1, v22_2, v22_3, v22_4, v22_5⟩ := zc6 BK614
    go_wp2_with (first | (go_at_call 10; (with_reducible refine (impl_InsOk.calls t607 t608 t609 t610 t611 t612 false _ A13.out).mono ?_); rintro e w23 ⟨rfl, hb⟩; replace HO606 := Aside0.mk (Kd.R_below (by (with_reducible repeat (first | apply Kd.R_alloc | apply Kd.R_drewN | apply Kd.R_drew)); exact (Kd.R_mono (Kd.R_far (p := ⟨gb614, 5, none⟩) (Kd.R_far (p := ⟨gb614, 4, none⟩) (Kd.R_far (p := ⟨gb614, 3, none⟩) (Kd.R_far (p := ⟨gb614, 2, none⟩) (Kd.R_far (p := ⟨gb614, 1, none⟩) (Kd.R_far (p := ⟨gb614, 0, none⟩) (Kd.R_types HO606.out BK614.out (by decide)) (fun _ hk => hk.2) (.int .i64 t607)) (fun _ hk => hk.2) (.int .i64 t608)) (fun _ hk => hk.2) (.int .i64 t609)) (fun _ hk => hk.2) (.int .i64 t610)) (fun _ hk => hk.2) (.int .i64 t611)) (fun _ hk => hk.2) (.int .i64 t612)) (fun _ h_ => h_.1))) hb); replace BK603 := Aside0.mk (blk_below (g := gb603) (o := .cells #[.int .i64 0, .int .i64 0, .int .i64 0, .int .i64 0, .int .i64 0, .int .i64 0] 24 (0, 0)) (by refine fq ?_ NB603_614.out; refine fq ?_ NB603_614.out; refine fq ?_ NB603_614.out; refine fq ?_ NB603_614.out; refine fq ?_ NB603_614.out; refine fq ?_ NB603_614.out; exact bq BK603.out) hb); replace BK614 := Aside0.mk (blk_below (g := gb614) (o := .cells #[.int .i64 t607, .int .i64 t608, .int .i64 t609, .int .i64 t610, .int .i64 t611, .int .i64 t612] 24 (0, 0)) (by refine bq ?_; refine blk_put (cs := #[.int .i64 t607, .int .i64 t608, .int .i64 t609, .int .i64 t610, .int .i64 t611, .int .i64 0]) ?_ 5 _ rfl; refine bq ?_; refine blk_put (cs := #[.int .i64 t607, .int .i64 t608, .int .i64 t609, .int .i64 t610, .int .i64 0, .int .i64 0]) ?_ 4 _ rfl; refine bq ?_; refine blk_put (cs := #[.int .i64 t607, .int .i64 t608, .int .i64 t609, .int .i64 0, .int .i64 0, .int .i64 0]) ?_ 3 _ rfl; refine bq ?_; refine blk_put (cs := #[.int .i64 t607, .int .i64 t608, .int .i64 0, .int .i64 0, .int .i64 0, .int .i64 0]) ?_ 2 _ rfl; refine bq ?_; refine blk_put (cs := #[.int .i64 t607, .int .i64 0, .int .i64 0, .int .i64 0, .int .i64 0, .int .i64 0]) ?_ 1 _ rfl; refine bq ?_; refine blk_put (cs := #[.int .i64 0, .int .i64 0, .int .i64 0, .int .i64 0, .int .i64 0, .int .i64 0]) ?_ 0 _ rfl; exact bq BK614.out) hb); replace HB := zS hb; try clear hb))
    go_meet
    case rel => exact ⟨_, (true), zQ, H', ⟨by first | omega | exact Nat.le_refl _⟩, ⟨by exact bq BK603.out⟩, ⟨by exact bq BK614.out⟩, ⟨zB⟩⟩
  ·replace c12 := Bool.eq_false_iff.mpr c12
   subst c12
   rw [if_neg (show ¬ (false = true) by decide)] at H
   have H' := Aside0.mk H
   clear H
   go_wp2
   go_meet
   case rel => exact ⟨_, (true), zQ, H', ⟨by first | omega | exact Nat.le_refl _⟩, ⟨by refine fq ?_ NB603_614.out; refine fq ?_ NB603_614.out; refine fq ?_ NB603_614.out; refine fq ?_ NB603_614.out; refine fq ?_ NB603_614.out; refine fq ?_ NB603_614.out; exact bq BK603.out⟩, ⟨by refine bq ?_; refine blk_put (cs := #[.int .i64 t607, .int .i64 t608, .int .i64 t609, .int .i64 t610, .int .i64 t611, .int .i64 0]) ?_ 5 _ rfl; refine bq ?_; refine blk_put (cs := #[.int .i64 t607, .int .i64 t608, .int .i64 t609, .int .i64 t610, .int .i64 0, .int .i64 0]) ?_ 4 _ rfl; refine bq ?_; refine blk_put (cs := #[.int .i64 t607, .int .i64 t608, .int .i64 t609, .int .i64 0, .int .i64 0, .int .i64 0]) ?_ 3 _ rfl; refine bq ?_; refine blk_put (cs := #[.int .i64 t607, .int .i64 t608, .int .i64 0, .int .i64 0, .int .i64 0, .int .i64 0]) ?_ 2 _ rfl; refine bq ?_; refine blk_put (cs := #[.int .i64 t607, .int .i64 0, .int .i64 0, .int .i64 0, .int .i64 0, .int .i64 0]) ?_ 1 _ rfl; refine bq ?_; refine blk_put (cs := #[.int .i64 0, .int .i64 0, .int .i64 0, .int .i64 0, .int .i64 0, .int .i64 0]) ?_ 0 _ rfl; exact bq BK614.out⟩, ⟨zB⟩⟩
 case rest =>
  clear HC4
  try clear c1
  try clear c2
  try clear p2
  try clear c7
  try clear c10
  try clear c12
  try clear c14
  try clear c15
  try clear c16
  try clear c21
  try clear u11_0 u11_1 u11_2 u11_3 u11_4 u11_5 v11_0 v11_1 v11_2 v11_3 v11_4 v11_5
  try clear u17_0 u17_1 u17_2 u17_3 u17_4 u17_5 v17_0 v17_1 v17_2 v17_3 v17_4 v17_5
  try clear u19_0 u19_1 u19_2 u19_3 u19_4 u19_5 v19_0 v19_1 v19_2 v19_3 v19_4 v19_5
  try clear u22_0 u22_1 u22_2 u22_3 u22_4 u22_5 v22_0 v22_1 v22_2 v22_3 v22_4 v22_5
  obtain ⟨kq, x24_3, rfl, HA, HJ3, BK603, BK614, HB⟩ := hcut
  cases kq with
  | zero => exact absurd HA.out (by simp [impl_LineGet.j0])
  | succ kj3 =>
   have H := HA.out
   clear HA
   simp only [impl_LineGet.j0] at H
   by_cases c24 : x24_3 = true
   ·subst c24
    rw [if_pos rfl] at H
    simp only [Option.some.injEq, Prod.mk.injEq] at H
    obtain ⟨rfl, rfl, rfl, rfl, rfl, rfl, rfl⟩ := H
    have hnb25 := NB603_614.out
    have hnc25 := NB614_603.out
    obtain ⟨_, _, _, _, _, _, _, _, _, _, _, _⟩ := zc6 BK603
    go_wp2
    refine bodyPost_ret (results_ct rfl _ _ gb603 24 #[.int .i64 0, .int .i64 0, .int .i64 0, .int .i64 0, .int .i64 0, .int .i64 0] (0, 0) _ rfl (by refine bq ?_; refine blk_put (cs := #[.int .i64 0, .int .i64 0, .int .i64 0, .int .i64 0, .int .i64 0, .int .i64 0]) ?_ 5 _ rfl; refine bq ?_; refine blk_put (cs := #[.int .i64 0, .int .i64 0, .int .i64 0, .int .i64 0, .int .i64 0, .int .i64 0]) ?_ 4 _ rfl; refine bq ?_; refine blk_put (cs := #[.int .i64 0, .int .i64 0, .int .i64 0, .int .i64 0, .int .i64 0, .int .i64 0]) ?_ 3 _ rfl; refine bq ?_; refine blk_put (cs := #[.int .i64 0, .int .i64 0, .int .i64 0, .int .i64 0, .int .i64 0, .int .i64 0]) ?_ 2 _ rfl; refine bq ?_; refine blk_put (cs := #[.int .i64 0, .int .i64 0, .int .i64 0, .int .i64 0, .int .i64 0, .int .i64 0]) ?_ 1 _ rfl; refine bq ?_; refine blk_put (cs := #[.int .i64 0, .int .i64 0, .int .i64 0, .int .i64 0, .int .i64 0, .int .i64 0]) ?_ 0 _ rfl; exact bq BK603.out) Tryz.underlying24 rfl (by kernel_rfl)) rfl ?_
    exact ⟨zR, zB⟩
   ·replace c24 := Bool.eq_false_iff.mpr c24
    subst c24
    rw [if_neg (show ¬ (false = true) by decide)] at H
    simp only [Option.some.injEq, Prod.mk.injEq] at H
    obtain ⟨rfl, rfl, rfl, rfl, rfl, rfl, rfl⟩ := H
    have hnb27 := NB614_603.out
    have hnc27 := NB603_614.out
    obtain ⟨_, _, _, _, _, _, _, _, _, _, _, _⟩ := zc6 BK614
    obtain ⟨_, _, _, _, _, _, _, _, _, _, _, _⟩ := zc6 BK603
    go_wp2
    refine bodyPost_ret (results_ct rfl _ _ gb603 24 #[.int .i64 t607, .int .i64 t608, .int .i64 t609, .int .i64 t610, .int .i64 t611, .int .i64 t612] (0, 0) _ rfl (by refine bq ?_; refine blk_put (cs := #[.int .i64 t607, .int .i64 t608, .int .i64 t609, .int .i64 t610, .int .i64 t611, .int .i64 0]) ?_ 5 _ rfl; refine bq ?_; refine blk_put (cs := #[.int .i64 t607, .int .i64 t608, .int .i64 t609, .int .i64 t610, .int .i64 0, .int .i64 0]) ?_ 4 _ rfl; refine bq ?_; refine blk_put (cs := #[.int .i64 t607, .int .i64 t608, .int .i64 t609, .int .i64 0, .int .i64 0, .int .i64 0]) ?_ 3 _ rfl; refine bq ?_; refine blk_put (cs := #[.int .i64 t607, .int .i64 t608, .int .i64 0, .int .i64 0, .int .i64 0, .int .i64 0]) ?_ 2 _ rfl; refine bq ?_; refine blk_put (cs := #[.int .i64 t607, .int .i64 0, .int .i64 0, .int .i64 0, .int .i64 0, .int .i64 0]) ?_ 1 _ rfl; refine bq ?_; refine blk_put (cs := #[.int .i64 0, .int .i64 0, .int .i64 0, .int .i64 0, .int .i64 0, .int .i64 0]) ?_ 0 _ rfl; exact bq BK603.out) Tryz.underlying24 rfl (by kernel_rfl)) rfl ?_
    exact ⟨zR, zB⟩
def laws_FnLinePut.j0 : Nat → ByteArray → Bool → Int → Int → Int → Int → Int → Int → Option (Bool)
 | 0, _, _, _, _, _, _, _, _ => none
 | k + 1, x4, x21, x624000, x624001, x624002, x624003, x624004, x624005 => if x21 = true then ((spec_LinePut.f k x624000 x624001 x624002 x624003 x624004 x624005).bind fun t626 => (some (x4.toList == t626.toList))) else ((impl_LineGet.f k x4).bind fun bt627 => (if bt627.2.2.2.2.2.2 = true then (some (bt627.1 == x624000 && (bt627.2.1 == x624001 && (bt627.2.2.1 == x624002 && (bt627.2.2.2.1 == x624003 && (bt627.2.2.2.2.1 == x624004 && (bt627.2.2.2.2.2.1 == x624005))))))) else (none)))
def laws_FnLinePut.f (k : Nat) (l0 : List Int) : Option (Bool) := if (l0.length : Int) > 1048576 then (some true) else ((spec_DrawLinePut.f k l0).bind fun bt617 => ((impl_LinePut.f bt617.1 bt617.2.1 bt617.2.2.1 bt617.2.2.2.1 bt617.2.2.2.2.1 bt617.2.2.2.2.2).bind fun t624 => ((spec_LinePut.f k bt617.1 bt617.2.1 bt617.2.2.1 bt617.2.2.2.1 bt617.2.2.2.2.1 bt617.2.2.2.2.2).bind fun t625 => (if t624.toList = t625.toList then (laws_FnLinePut.j0 k t624 (t624.toList == ([] : List UInt8)) bt617.1 bt617.2.1 bt617.2.2.1 bt617.2.2.2.1 bt617.2.2.2.2.1 bt617.2.2.2.2.2) else (laws_FnLinePut.j0 k t624 true bt617.1 bt617.2.1 bt617.2.2.1 bt617.2.2.2.1 bt617.2.2.2.2.1 bt617.2.2.2.2.2)))))
set_option maxHeartbeats 8000000 in
set_option maxRecDepth 100000 in
theorem laws_FnLinePut.calls (k : Nat) (A0 : Option Addr) (c0 : Nat) (l0 : List Int) (r : Bool) (w : World) (hr0 : Kd.C (Kd.int .u8) w A0 l0.length l0) (hc0 : l0.length ≤ c0) (h : laws_FnLinePut.f k l0 = some r) (zHT : Tryz.Te w := by first | exact zHT | exact Tryz.te_below zHT zB) :
  Calls Tryz.prog 3 #[.slice A0 l0.length c0] w fun e w' => e = .returned (.bool r) ∧ Below w.heap.size w w' := by
 have hu24 := Tryz.underlying24
 have HR0 := Aside0.mk hr0
 have HC0 := Aside0.mk hc0
 clear hr0 hc0
 have HB := Aside0.mk (Below.refl w.heap.size w)
 have H := h
 clear h
 unfold laws_FnLinePut.f at H
 by_cases c2 : (l0.length : Int) > 1048576
 ·rw [if_pos c2] at H
  have c2b0 : decide (1048576 < (l0.length : Int)) = true := decide_eq_true c2
  have c2b1 : decide (1048576 < l0.length) = true := decide_eq_true (by omega)
  clear c2
  obtain rfl := Option.some.inj H
  go_enter Tryz.func3, Tryz.ntmps3
  go_wp2
  go_ret
  exact ⟨zR, zB⟩
 ·rw [if_neg c2] at H
  have c2b0 : decide (1048576 < (l0.length : Int)) = false := decide_eq_false c2
  have c2b1 : decide (1048576 < l0.length) = false := decide_eq_false (by omega)
  clear c2
  replace H := oA H
  obtain ⟨⟨t617, t618, t619, t620, t621, t622⟩, A3, H⟩ := H
  try dsimp only at H
  replace H := oA H
  obtain ⟨t624, A4, H⟩ := H
  try dsimp only at H
  have HC5 := Aside0.mk H
  clear H
  go_enter Tryz.func3, Tryz.ntmps3
  go_upto_region 5 with (first | ((with_reducible refine gate_callee (f := 4) rfl ?_); refine gl 11 Tryz.func4 #[.slice A0 l0.length c0] ?_; (with_reducible refine (spec_DrawLinePut.calls k _ _ l0 t617 t618 t619 t620 t621 t622 _ ?side1 ?side2 A3.out).mono ?_); (case side1 => repeat (first | exact HR0.out | (with_reducible refine Kd.C_alloc ?_ _) | (with_reducible refine Kd.C_drewN ?_ _) | (with_reducible refine Kd.C_drew ?_))); (case side2 => exact HC0.out); rintro e w6 ⟨rfl, hb⟩; refine ⟨_, rfl, ?_⟩; replace HB := zS hb; try clear hb) | ((with_reducible refine gate_dst (N := 3) rfl ?_); refine be 3 #[.int .i64 0, .int .i64 0, .int .i64 0, .int .i64 0, .int .i64 0, .int .i64 0] 24 ?_; intro gb623 hg w7 hbox hb; have BK623 := Aside0.mk hbox; have GW623 := zW hg; replace HB := zS hb; have GE623 := GW623; clear hb hbox hg; obtain ⟨u8_0, u8_1, u8_2, u8_3, u8_4, u8_5, v8_0, v8_1, v8_2, v8_3, v8_4, v8_5⟩ := zc6 BK623) | ((with_reducible refine gate_callee (f := 5) rfl ?_); refine gl 13 Tryz.func5 #[.agg #[.int .i64 t617, .int .i64 t618, .int .i64 t619, .int .i64 t620, .int .i64 t621, .int .i64 t622]] ?_; (with_reducible refine (impl_LinePut.calls t617 t618 t619 t620 t621 t622 t624 _ A4.out).mono ?_); rintro e w9 ⟨rfl, hb⟩; refine ⟨_, rfl, ?_⟩; replace BK623 := Aside0.mk (blk_below (g := gb623) (o := .cells #[.int .i64 t617, .int .i64 t618, .int .i64 t619, .int .i64 t620, .int .i64 t621, .int .i64 t622] 24 (0, 0)) (by refine bq ?_; refine blk_put (cs := #[.int .i64 t617, .int .i64 t618, .int .i64 t619, .int .i64 t620, .int .i64 t621, .int .i64 0]) ?_ 5 _ rfl; refine bq ?_; refine blk_put (cs := #[.int .i64 t617, .int .i64 t618, .int .i64 t619, .int .i64 t620, .int .i64 0, .int .i64 0]) ?_ 4 _ rfl; refine bq ?_; refine blk_put (cs := #[.int .i64 t617, .int .i64 t618, .int .i64 t619, .int .i64 0, .int .i64 0, .int .i64 0]) ?_ 3 _ rfl; refine bq ?_; refine blk_put (cs := #[.int .i64 t617, .int .i64 t618, .int .i64 0, .int .i64 0, .int .i64 0, .int .i64 0]) ?_ 2 _ rfl; refine bq ?_; refine blk_put (cs := #[.int .i64 t617, .int .i64 0, .int .i64 0, .int .i64 0, .int .i64 0, .int .i64 0]) ?_ 1 _ rfl; refine bq ?_; refine blk_put (cs := #[.int .i64 0, .int .i64 0, .int .i64 0, .int .i64 0, .int .i64 0, .int .i64 0]) ?_ 0 _ rfl; exact bq BK623.out) hb); replace HB := zS hb; try clear hb))
  (try simp only [Act.put, List.setIfInBounds_toArray, List.set_cons_zero, List.set_cons_succ])
  go_cut [21] (fun v21 wc => ∃ (kq : Nat) (x21_4 : Bool), v21 = .bool x21_4 ∧ Aside0 (laws_FnLinePut.j0 kq t624 x21_4 t617 t618 t619 t620 t621 t622 = some r) ∧ Aside0 (kq ≤ k) ∧ Aside0 (wc.heap[gb623]? = some (.cells #[.int .i64 t617, .int .i64 t618, .int .i64 t619, .int .i64 t620, .int .i64 t621, .int .i64 t622] 24 (0, 0))) ∧ Aside0 (Below w.heap.size w wc))
  case first =>
   have H := HC5.out
   clear HC5
   replace H := oA H
   obtain ⟨t625, A10, H⟩ := H
   try dsimp only at H
   by_cases c11 : t624.toList = t625.toList
   ·rw [if_pos c11] at H
    have c11b0 : (t624.toList == t625.toList) = true := beq_iff_eq.mpr c11
    have c11b1 : (t624.toList != t625.toList) = false := bne_eq_false_iff_eq.mpr c11
    clear c11
    (first | rw [c11b0] | (simp only [i64_w, i32_w]; rw [c11b0]) | skip)
    have H' := Aside0.mk H
    clear H
    obtain ⟨u12_0, u12_1, u12_2, u12_3, u12_4, u12_5, v12_0, v12_1, v12_2, v12_3, v12_4, v12_5⟩ := zc6 BK623
    go_wp2_with (first | ((with_reducible refine gate_callee (f := 6) rfl ?_); refine gl 16 Tryz.func6 #[.agg #[.int .i64 t617, .int .i64 t618, .int .i64 t619, .int .i64 t620, .int .i64 t621, .int .i64 t622]] ?_; (with_reducible refine (spec_LinePut.calls k t617 t618 t619 t620 t621 t622 t625 _ A10.out).mono ?_); rintro e w13 ⟨rfl, hb⟩; refine ⟨_, rfl, ?_⟩; replace BK623 := zb BK623 hb rfl; replace HB := zS hb; try clear hb))
    go_meet
    case rel => exact ⟨_, ((t624.toList == ([] : List UInt8))), zQ, H', ⟨by first | omega | exact Nat.le_refl _⟩, ⟨by exact bq BK623.out⟩, ⟨zB⟩⟩
   ·rw [if_neg c11] at H
    have c11b0 : (t624.toList == t625.toList) = false := beq_eq_false_iff_ne.mpr c11
    have c11b1 : (t624.toList != t625.toList) = true := bne_iff_ne.mpr c11
    (first | rw [c11b0] | (simp only [i64_w, i32_w]; rw [c11b0]) | skip)
    have H' := Aside0.mk H
    clear H
    obtain ⟨u14_0, u14_1, u14_2, u14_3, u14_4, u14_5, v14_0, v14_1, v14_2, v14_3, v14_4, v14_5⟩ := zc6 BK623
    go_wp2_with (first | ((with_reducible refine gate_callee (f := 6) rfl ?_); refine gl 16 Tryz.func6 #[.agg #[.int .i64 t617, .int .i64 t618, .int .i64 t619, .int .i64 t620, .int .i64 t621, .int .i64 t622]] ?_; (with_reducible refine (spec_LinePut.calls k t617 t618 t619 t620 t621 t622 t625 _ A10.out).mono ?_); rintro e w15 ⟨rfl, hb⟩; refine ⟨_, rfl, ?_⟩; replace BK623 := zb BK623 hb rfl; replace HB := zS hb; try clear hb))
    go_meet
    case rel => exact ⟨_, (true), zQ, H', ⟨by first | omega | exact Nat.le_refl _⟩, ⟨by exact bq BK623.out⟩, ⟨zB⟩⟩
  case rest =>
   clear HC5
   try clear c1
   try clear c2
   try clear c2b0
   try clear c2b1
   try clear p2
   try clear c3
   try clear c4
   try clear c5
   try clear c6
   try clear c11
   try clear c11b0
   try clear c11b1
   try clear u12_0 u12_1 u12_2 u12_3 u12_4 u12_5 v12_0 v12_1 v12_2 v12_3 v12_4 v12_5
   try clear u14_0 u14_1 u14_2 u14_3 u14_4 u14_5 v14_0 v14_1 v14_2 v14_3 v14_4 v14_5
   try clear u8_0 u8_1 u8_2 u8_3 u8_4 u8_5 v8_0 v8_1 v8_2 v8_3 v8_4 v8_5
   obtain ⟨kq, x21_4, rfl, HA, HJ4, BK623, HB⟩ := hcut
   cases kq with
   | zero => exact absurd HA.out (by simp [laws_FnLinePut.j0])
   | succ kj4 =>
    have H := HA.out
    clear HA
    simp only [laws_FnLinePut.j0] at H
    by_cases c16 : x21_4 = true
    ·subst c16
     rw [if_pos rfl] at H
     replace H := oA H
     obtain ⟨t626, A17, H⟩ := H
     try dsimp only at H
     obtain rfl := Option.some.inj H
     obtain ⟨_, _, _, _, _, _, _, _, _, _, _, _⟩ := zc6 BK623
     go_wp2_with (first | ((with_reducible refine gate_callee (f := 6) rfl ?_); refine gl 24 Tryz.func6 #[.agg #[.int .i64 t617, .int .i64 t618, .int .i64 t619, .int .i64 t620, .int .i64 t621, .int .i64 t622]] ?_; (with_reducible refine (spec_LinePut.calls kj4 t617 t618 t619 t620 t621 t622 t626 _ A17.out).mono ?_); rintro e w19 ⟨rfl, hb⟩; refine ⟨_, rfl, ?_⟩; replace BK623 := zb BK623 hb rfl; replace HB := zS hb; try clear hb))
     go_ret
     exact ⟨zR, zB⟩
    ·replace c16 := Bool.eq_false_iff.mpr c16
     subst c16
     rw [if_neg (show ¬ (false = true) by decide)] at H
     replace H := oA H
     obtain ⟨⟨t627, t628, t629, t630, t631, t632, t633⟩, A20, H⟩ := H
     try dsimp only at H
     by_cases c21 : t633 = true
     ·subst c21
      rw [if_pos rfl] at H
      obtain rfl := Option.some.inj H
      go_wp2_with (first | ((with_reducible refine gate_callee (f := 7) rfl ?_); refine gl 28 Tryz.func7 #[.string t624] ?_; (with_reducible refine (impl_LineGet.calls kj4 t624 t627 t628 t629 t630 t631 t632 true _ A20.out).mono ?_); rintro e w22 ⟨rfl, hb⟩; refine ⟨_, rfl, ?_⟩; replace BK623 := zb BK623 hb rfl; replace HB := zS hb; try clear hb) | ((with_reducible refine gate_dst (N := 5) rfl ?_); refine be 5 #[.int .i64 0, .int .i64 0, .int .i64 0, .int .i64 0, .int .i64 0, .int .i64 0] 24 ?_; intro gb634 hg w23 hbox hb; have BK634 := Aside0.mk hbox; have GW634 := zW hg; replace HB := zS hb; have GE634 := GW634; have NB623_634 := zl BK623 hg rfl; have NB634_623 := zg BK623 hg rfl; replace BK623 := zb BK623 hb rfl; clear hb hbox hg; have hnb24 := NB634_623.out; have hnc24 := NB623_634.out; obtain ⟨_, _, _, _, _, _, _, _, _, _, _, _⟩ := zc6 BK634; obtain ⟨_, _, _, _, _, _, _, _, _, _, _, _⟩ := zc6 BK623))
      go_ret
      exact ⟨zR, zB⟩
     ·replace c21 := Bool.eq_false_iff.mpr c21
      subst c21
      rw [if_neg (show ¬ (false = true) by decide)] at H
      exact absurd H (by simp)
/-- THE ONE PURE STATEMENT of laws_FnLinePut: yours. -/
def laws_FnLinePut.Pure : Prop := ∀ (l0 : List Int), l0.length ≤ maxLen → l0.length * 1 ≤ 140737488351232 → (∀ x ∈ l0, (Lit.int .u8 x).wf = true) → ∃ k, laws_FnLinePut.f k l0 = some true
theorem laws_FnLinePut.walk (P : laws_FnLinePut.Pure) (a0 : Option Addr) (len0 cap0 : Nat) (z0 : List Int) (w : World) (w0 : (a0 = none ∧ len0 = 0 ∧ cap0 = 0 ∧ z0 = []) ∨ ∃ x, a0 = some x ∧ len0 ≤ cap0 ∧ cap0 ≤ maxLen ∧ z0.length = cap0 ∧ (∀ i, i < z0.length → w.cell? (x.add i) = some (.int .u8 (z0.getD i 0))) ∧ ∀ n ∈ z0, (Lit.int .u8 n).wf = true) (y0 : len0 * 1 ≤ 140737488351232) (zHT : Tryz.Te w) :
  Calls Tryz.prog 3 #[.slice a0 len0 cap0] w fun e w' => e = .returned (.bool true) ∧ Below w.heap.size w w' := by
 obtain ⟨l0, rfl, hr0, hm0, hw0, hc0⟩ := ReadsInt.ofRowC w0
 obtain ⟨k, h⟩ := P l0 hm0 y0 hw0
 refine (laws_FnLinePut.calls k _ _ l0 true w (Kd.C_of_reads (d := (0 : Int)) (h1 := fun _ => rfl) hr0) hc0 h).mono ?_
 rintro e w' ⟨rfl, hd⟩
 exact ⟨rfl, hd⟩
end Go.Proofs.YtllmbooicobmkaaGreatDoor.Q
