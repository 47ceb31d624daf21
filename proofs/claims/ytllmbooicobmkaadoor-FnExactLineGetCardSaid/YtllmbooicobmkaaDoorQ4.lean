/- The machine's side of this seat's laws: Go functions as Lean functions, and their contracts. By a program of this work over the kit's print. -/
import Derived.Test.YtllmbooicobmkaaDoorQ0
import Derived.Test.YtllmbooicobmkaaDoorQ1
import Derived.Test.YtllmbooicobmkaaDoorQ2
namespace Go.Proofs.YtllmbooicobmkaaDoor.Q
open Go.RowKit Go.Proofs.YtllmbooicobmkaaDoorW.PrintWords Go.Proofs.YtllmbooicobmkaaDoorW.PrintLast Go.Proofs.YtllmbooicobmkaaDoorW.PrintMore
attribute [local go_sem] max2_int min2_int max_two min_two max_three min_three max_four min_four Go.Proofs.YtllmbooicobmkaaDoorN.not_i64 Go.Proofs.YtllmbooicobmkaaDoorN.isSome_setCell   -- for this text's walks alone
set_option linter.unusedVariables false
set_option linter.unusedSimpArgs false

attribute [local go_sem high] eqA23
/-! ### spec_l1Cut: function 12 -/
mutual
def spec_l1Cut.l0 : Nat → ByteArray → Int → Int → List ByteArray → Int → Int → Option (List ByteArray)
 | 0, _, _, _, _, _, _ => none
 | k + 1, x0, x1, x2, x7, x8, x9 => if x9 < (x0.size : Int) then (spec_l1Cut.j1 k x0 x1 x2 x7 x8 x9 (decide ((x7.length : Int) < x2))) else (spec_l1Cut.j1 k x0 x1 x2 x7 x8 x9 false)
def spec_l1Cut.j1 : Nat → ByteArray → Int → Int → List ByteArray → Int → Int → Bool → Option (List ByteArray)
 | 0, _, _, _, _, _, _, _ => none
 | k + 1, x0, x1, x2, x7, x8, x9, x20 => if x20 = true then (if 0 ≤ x9 then (if x9 < (x0.size : Int) then (if (bt x0 x9) = x1 then (if 0 ≤ x8 then (if x8 ≤ x9 then (if x9 ≤ (x0.size : Int) then (if x7.length < 8796093022208 then (spec_l1Cut.l0 k x0 x1 x2 (x7 ++ [x0.extract (x8 : Int).toNat (x9 : Int).toNat]) (wrap64 (x9 + 1)) (wrap64 (x9 + 1))) else (none)) else (none)) else (none)) else (none)) else (spec_l1Cut.l0 k x0 x1 x2 x7 x8 (wrap64 (x9 + 1)))) else (none)) else (none)) else (if 0 ≤ x8 then (if x8 ≤ (x0.size : Int) then (if x7.length < 8796093022208 then (some (x7 ++ [x0.extract (x8 : Int).toNat x0.size])) else (none)) else (none)) else (none))
end
def spec_l1Cut.f (k : Nat) (a0 : ByteArray) (a1 : Int) (a2 : Int) : Option (List ByteArray) := spec_l1Cut.l0 k a0 a1 a2 (([] : List ByteArray)) 0 0


set_option maxHeartbeats 8000000 in
set_option maxRecDepth 100000 in
theorem spec_l1Cut.calls (k : Nat) (a0 : ByteArray) (a1 : Int) (a2 : Int) (r : List ByteArray) (w : World) (h : spec_l1Cut.f k a0 a1 a2 = some r) :
  Calls Tryd.prog 12 #[.string a0, .int .u8 a1, .int .i64 a2] w fun e w' => ∃ v0_ : Value, e = .returned (v0_) ∧ Kd.R Kd.string 9 w' w.heap.size (fun _ => True) v0_ r ∧ Below w.heap.size w w' := by
 have HB := Aside0.mk (Below.refl w.heap.size w)
 have H : (spec_l1Cut.l0 k a0 a1 a2 (([] : List ByteArray)) 0 0) = some r := h
 clear h
 obtain ⟨y173, hy173⟩ : ∃ y_ : List ByteArray, y_ = (([] : List ByteArray)) := ⟨_, rfl⟩
 replace H : (spec_l1Cut.l0 k a0 a1 a2 y173 0 0) = some r := by first | (rw [hy173]; with_reducible exact H) | (have H2_ := (Option.bind_some _ _).symm.trans H; rw [hy173]; with_reducible exact H2_) | (have H2_ := (Option.bind_some _ _).symm.trans H; with_reducible exact H2_) | with_reducible exact H | (rw [hy173]; exact H) | exact H
 have Ny173 := Aside0.mk hy173
 clear hy173
 have H' := Aside0.mk H
 clear H
 go_enter Tryd.func12, Tryd.ntmps12
 go_wp2_with (first | ((with_reducible refine gate_dst (N := 10) rfl ?_); (try (refine gate_guard (by rfl) ?_; dsimp only)); refine Kd.R_lit Kd.string _ 9 ?hg (N := 10) ?hd (xs := ([] : List ByteArray)) (inner := []) (ok := fun _ => True) (okp := fun _ => True) ?hr ?hp (fun _ hk => hk) trivial (Below.refl _ _) (Nat.le_refl _) (by simp) ?_; (case hd => rfl); (case hg => rfl); (case hr => first | (go_simp; done) | (go_simp; rfl)); (case hp => exact (Reps.none _ _)); intro v174 w4 ho5 hb hg_ hnew_; clear hg_ hnew_; (first | rw [← Ny173.out] at ho5 | (simp only [Int.reduceToNat] at ho5; rw [← Ny173.out] at ho5)); have HO175 := Aside0.mk (Kd.R_lower ho5 (below_size zB)); replace HB := zS hb; clear hb ho5))
 go_loopg [7, 8, 9] k (fun kq v7 v8 v9 w' => ∃ (x7_1 : List ByteArray) (x8_1 : Int) (x9_1 : Int), v8 = .int .i64 x8_1 ∧ v9 = .int .i64 x9_1 ∧ Aside0 (spec_l1Cut.l0 kq a0 a1 a2 x7_1 x8_1 x9_1 = some r) ∧ Aside0 (kq ≤ k) ∧ Aside0 (Kd.R Kd.string 9 w' w.heap.size (fun _ => True) v7 x7_1) ∧ Aside0 (Below w.heap.size w w'))
 case atStart => exact ⟨(y173), (0), (0), (by first | rfl | (simp; done) | (simp [*]; done)), (by first | rfl | (simp; done) | (simp [*]; done)), H', ⟨Nat.le_refl _⟩, ⟨by (with_reducible repeat (first | apply Kd.R_alloc | apply Kd.R_drewN | apply Kd.R_drew)); exact HO175.out⟩, ⟨zB⟩⟩
 case round =>
  clear H'
  try clear c1
  try clear p2
  obtain ⟨x7_1, x8_1, x9_1, rfl, rfl, HA, HK1, HO_7, HB⟩ := hrel
  cases gk with
  | zero => exact absurd HA.out (by simp [spec_l1Cut.l0])
  | succ k1 =>
   have H := HA.out
   clear HA
   simp only [spec_l1Cut.l0] at H
   have HC6 := Aside0.mk H
   clear H
   go_upto_region 4 with (fail)
   go_cut [20] (fun v20 wc => ∃ (kq : Nat) (x20_5 : Bool), v20 = .bool x20_5 ∧ Aside0 (spec_l1Cut.j1 kq a0 a1 a2 x7_1 x8_1 x9_1 x20_5 = some r) ∧ Aside0 (kq ≤ k1) ∧ Aside0 (Kd.R Kd.string 9 wc w.heap.size (fun _ => True) u7 x7_1) ∧ Aside0 (Below w.heap.size w wc))
   case first =>
    have H := HC6.out
    clear HC6
    by_cases c7 : x9_1 < (a0.size : Int)
    ·rw [if_pos c7] at H
     have c7b0 : decide (x9_1 < (a0.size : Int)) = true := decide_eq_true c7
     clear c7
     (first | rw [c7b0] | (simp only [i64_w, i32_w]; rw [c7b0]) | skip)
     have H' := Aside0.mk H
     clear H
     obtain ⟨Ao8, co8, eo8⟩ := Kd.R_slice HO_7.out
     subst eo8
     go_wp2
     go_meet
     case rel => exact ⟨_, (decide ((x7_1.length : Int) < a2)), (by first | rfl | (simp; done) | (simp [*]; done)), H', ⟨by have := HK1.out; first | omega | exact Nat.le_refl _⟩, ⟨by (with_reducible repeat (first | apply Kd.R_alloc | apply Kd.R_drewN | apply Kd.R_drew)); exact HO_7.out⟩, ⟨zB⟩⟩
    ·rw [if_neg c7] at H
     have c7b0 : decide (x9_1 < (a0.size : Int)) = false := decide_eq_false c7
     clear c7
     (first | rw [c7b0] | (simp only [i64_w, i32_w]; rw [c7b0]) | skip)
     have H' := Aside0.mk H
     clear H
     go_wp2
     go_meet
     case rel => exact ⟨_, (false), (by first | rfl | (simp; done) | (simp [*]; done)), H', ⟨by have := HK1.out; first | omega | exact Nat.le_refl _⟩, ⟨by (with_reducible repeat (first | apply Kd.R_alloc | apply Kd.R_drewN | apply Kd.R_drew)); exact HO_7.out⟩, ⟨zB⟩⟩
   case rest =>
    clear HC6
    try clear c1
    try clear p2 p2
    try clear c7
    try clear c7b0
    obtain ⟨kq, x20_5, rfl, HA, HJ5, HO_7, HB⟩ := hcut
    cases kq with
    | zero => exact absurd HA.out (by simp [spec_l1Cut.j1])
    | succ kj5 =>
     have H := HA.out
     clear HA
     simp only [spec_l1Cut.j1] at H
     by_cases c9 : x20_5 = true
     ·subst c9
      rw [if_pos rfl] at H
      by_cases c10 : 0 ≤ x9_1
      ·rw [if_pos c10] at H
       have c10b0 : decide (0 ≤ x9_1) = true := decide_eq_true c10
       clear c10
       by_cases c11 : x9_1 < (a0.size : Int)
       ·rw [if_pos c11] at H
        have c11b0 : decide (x9_1 < (a0.size : Int)) = true := decide_eq_true c11
        clear c11
        by_cases c13 : (bt a0 x9_1) = a1
        ·rw [if_pos c13] at H
         have c13b0 : ((bt a0 x9_1) == a1) = true := beq_iff_eq.mpr c13
         have c13b1 : ((bt a0 x9_1) != a1) = false := bne_eq_false_iff_eq.mpr c13
         clear c13
         by_cases c14 : 0 ≤ x8_1
         ·rw [if_pos c14] at H
          have c14b0 := eq_true c14
          have c14b1 : decide (0 ≤ x8_1) = true := decide_eq_true c14
          clear c14
          by_cases c15 : x8_1 ≤ x9_1
          ·rw [if_pos c15] at H
           have c15b0 := eq_true c15
           have c15b1 : decide (x8_1 ≤ x9_1) = true := decide_eq_true c15
           clear c15
           by_cases c16 : x9_1 ≤ (a0.size : Int)
           ·rw [if_pos c16] at H
            have c16b0 := eq_true c16
            have c16b1 : decide (x9_1 ≤ (a0.size : Int)) = true := decide_eq_true c16
            clear c16
            by_cases c17 : x7_1.length < 8796093022208
            ·rw [if_pos c17] at H
             have LMc17 := Aside0.mk c17
             clear c17
             obtain ⟨y179, hy179⟩ : ∃ y_ : List ByteArray, y_ = (x7_1 ++ [a0.extract (x8_1 : Int).toNat (x9_1 : Int).toNat]) := ⟨_, rfl⟩
             replace H : (spec_l1Cut.l0 kj5 a0 a1 a2 y179 (wrap64 (x9_1 + 1)) (wrap64 (x9_1 + 1))) = some r := by first | (rw [hy179]; with_reducible exact H) | (have H2_ := (Option.bind_some _ _).symm.trans H; rw [hy179]; with_reducible exact H2_) | (have H2_ := (Option.bind_some _ _).symm.trans H; with_reducible exact H2_) | with_reducible exact H | (rw [hy179]; exact H) | exact H
             have Ny179 := Aside0.mk hy179
             clear hy179
             have H' := Aside0.mk H
             clear H
             have p12 : 0 ≤ (x9_1 : Int) := of_decide_eq_true (by first | (with_reducible assumption) | assumption)
             have q12 : x9_1 < (a0.size : Int) := of_decide_eq_true (by first | (with_reducible assumption) | assumption)
             have hx12 := bt_at a0 x9_1
             replace p12 := eq_true p12
             replace q12 := eq_true q12
             go_wp2_with (first | ((with_reducible refine gate_builtin (b := .append) (xs := #[.tmp 28, .tmp 33]) rfl ?_); (try (refine gate_guard (by rfl) ?_; dsimp only)); at_builtin; refine Kd.R_append Kd.string (w0 := w) w.heap.size rfl (.tmp 28) (.tmp 33) 33 9 (.string ⟨#[]⟩) 16 rfl Tryd.underlying33 info9 rfl (by decide) (by omega) u7 x7_1 (a0.extract (x8_1 : Int).toNat (x9_1 : Int).toNat) [.string (a0.extract (x8_1 : Int).toNat (x9_1 : Int).toNat)] (fun _ => True) (fun _ => False) rfl rfl ?aP (fun _ hk => hk.elim) ?aF ?aO ?aB ?aS ?aL ?_; (case aP => exact rfl); (case aB => exact zB); (case aF => exact (fun _ _ => trivial)); (case aO => exact (by (with_reducible repeat (first | apply Kd.R_alloc | apply Kd.R_drewN | apply Kd.R_drew)); exact HO_7.out)); (case aS => exact (below_size zB)); (case aL => have := LMc17.out; omega); intro v180 w18 ho hb hg hat; rw [← Ny179.out] at ho; have n0_ := Aside0.mk (hb); have n1_ := Aside0.mk (ho); clear HB; clear HO_7; have HB := n0_; have HO181 := n1_; clear n0_ n1_; clear ho hb hg hat))
             go_roundg kj5
             case measure => have := HK1.out; have := HJ5.out; omega
             case rel => exact ⟨(y179), (wrap64 (x9_1 + 1)), (wrap64 (x9_1 + 1)), (by first | rfl | (simp; done) | (simp [*]; done)), (by first | rfl | (simp; done) | (simp [*]; done)), H', ⟨by have := HK1.out; have := HJ5.out; omega⟩, ⟨by (with_reducible repeat (first | apply Kd.R_alloc | apply Kd.R_drewN | apply Kd.R_drew)); exact HO181.out⟩, ⟨zB⟩⟩
            ·rw [if_neg c17] at H
             exact absurd H (by simp)
           ·rw [if_neg c16] at H
            exact absurd H (by simp)
          ·rw [if_neg c15] at H
           exact absurd H (by simp)
         ·rw [if_neg c14] at H
          exact absurd H (by simp)
        ·rw [if_neg c13] at H
         have c13b0 : ((bt a0 x9_1) == a1) = false := beq_eq_false_iff_ne.mpr c13
         have c13b1 : ((bt a0 x9_1) != a1) = true := bne_iff_ne.mpr c13
         have H' := Aside0.mk H
         clear H
         have p12 : 0 ≤ (x9_1 : Int) := of_decide_eq_true (by first | (with_reducible assumption) | assumption)
         have q12 : x9_1 < (a0.size : Int) := of_decide_eq_true (by first | (with_reducible assumption) | assumption)
         have hx12 := bt_at a0 x9_1
         replace p12 := eq_true p12
         replace q12 := eq_true q12
         go_wp2
         go_roundg kj5
         case measure => have := HK1.out; have := HJ5.out; omega
         case rel => exact ⟨(x7_1), (x8_1), (wrap64 (x9_1 + 1)), (by first | rfl | (simp; done) | (simp [*]; done)), (by first | rfl | (simp; done) | (simp [*]; done)), H', ⟨by have := HK1.out; have := HJ5.out; omega⟩, ⟨by (with_reducible repeat (first | apply Kd.R_alloc | apply Kd.R_drewN | apply Kd.R_drew)); exact HO_7.out⟩, ⟨zB⟩⟩
       ·rw [if_neg c11] at H
        exact absurd H (by simp)
      ·rw [if_neg c10] at H
       exact absurd H (by simp)
     ·replace c9 := Bool.eq_false_iff.mpr c9
      subst c9
      rw [if_neg (show ¬ (false = true) by decide)] at H
      by_cases c19 : 0 ≤ x8_1
      ·rw [if_pos c19] at H
       have c19b0 := eq_true c19
       have c19b1 : decide (0 ≤ x8_1) = true := decide_eq_true c19
       clear c19
       by_cases c20 : x8_1 ≤ (a0.size : Int)
       ·rw [if_pos c20] at H
        have c20b0 := eq_true c20
        have c20b1 : decide (x8_1 ≤ (a0.size : Int)) = true := decide_eq_true c20
        clear c20
        by_cases c21 : x7_1.length < 8796093022208
        ·rw [if_pos c21] at H
         have LMc21 := Aside0.mk c21
         clear c21
         obtain ⟨y176, hy176⟩ : ∃ y_ : List ByteArray, y_ = (x7_1 ++ [a0.extract (x8_1 : Int).toNat a0.size]) := ⟨_, rfl⟩
         replace H : (some y176) = some r := by first | (rw [hy176]; with_reducible exact H) | (have H2_ := (Option.bind_some _ _).symm.trans H; rw [hy176]; with_reducible exact H2_) | (have H2_ := (Option.bind_some _ _).symm.trans H; with_reducible exact H2_) | with_reducible exact H | (rw [hy176]; exact H) | exact H
         have Ny176 := Aside0.mk hy176
         clear hy176
         obtain rfl := Option.some.inj H
         go_wp2_with (first | ((with_reducible refine gate_builtin (b := .append) (xs := #[.tmp 37, .tmp 41]) rfl ?_); (try (refine gate_guard (by rfl) ?_; dsimp only)); at_builtin; refine Kd.R_append Kd.string (w0 := w) w.heap.size rfl (.tmp 37) (.tmp 41) 33 9 (.string ⟨#[]⟩) 16 rfl Tryd.underlying33 info9 rfl (by decide) (by omega) u7 x7_1 (a0.extract (x8_1 : Int).toNat a0.size) [.string (a0.extract (x8_1 : Int).toNat a0.size)] (fun _ => True) (fun _ => False) rfl rfl ?aP (fun _ hk => hk.elim) ?aF ?aO ?aB ?aS ?aL ?_; (case aP => exact rfl); (case aB => exact zB); (case aF => exact (fun _ _ => trivial)); (case aO => exact (by (with_reducible repeat (first | apply Kd.R_alloc | apply Kd.R_drewN | apply Kd.R_drew)); exact HO_7.out)); (case aS => exact (below_size zB)); (case aL => have := LMc21.out; omega); intro v177 w22 ho hb hg hat; rw [← Ny176.out] at ho; have n0_ := Aside0.mk (hb); have n1_ := Aside0.mk (ho); clear HB; clear HO_7; have HB := n0_; have HO178 := n1_; clear n0_ n1_; clear ho hb hg hat))
         go_ret
         exact ⟨_, zR, by (with_reducible repeat (first | apply Kd.R_alloc | apply Kd.R_drewN | apply Kd.R_drew)); exact HO178.out, zB⟩
        ·rw [if_neg c21] at H
         exact absurd H (by simp)
       ·rw [if_neg c20] at H
        exact absurd H (by simp)
      ·rw [if_neg c19] at H
       exact absurd H (by simp)

/-! ### spec_l1Bare: function 29 -/
def spec_l1Bare.f (a0_0 : Int) (a0_1 : Int) (a0_2 : Int) (a0_3 : Int) (a0_4 : Int) (a0_5 : Int) : Option (Bool) := (spec_l1Alu.f a0_0).bind fun t183 => (if t183 = true then (if a0_3 = 0 then (if a0_5 = 0 then (if a0_2 < 0 then (some true) else (some (a0_4 == 0))) else (some false)) else (some false)) else ((spec_l1Jump.f a0_0).bind fun t184 => (if t184 = true then (if a0_5 = 0 then (if a0_2 < 0 then (some true) else (some (a0_4 == 0))) else (some false)) else (if a0_0 = 16 then (if a0_1 = 0 then (if a0_2 = (-1) then (if a0_4 = 0 then (some (a0_5 == 0)) else (some false)) else (some false)) else (some false)) else (if a0_0 = 17 then (if a0_2 ≥ 0 then (if a0_4 = 0 then (if a0_5 = 1 then (some true) else (if a0_5 = 2 then (some true) else (some (a0_5 == 4)))) else (some false)) else (some false)) else (if a0_0 = 18 then (if a0_2 < 0 then (if a0_5 = 1 then (some true) else (if a0_5 = 2 then (some true) else (some (a0_5 == 4)))) else (if a0_4 = 0 then (if a0_5 = 1 then (some true) else (if a0_5 = 2 then (some true) else (some (a0_5 == 4)))) else (some false))) else (if a0_0 = 19 then (if a0_1 = 0 then (if a0_2 = (-1) then (if a0_3 = 0 then (if a0_5 = 0 then ((spec_l1In.f a0_4 1 6).bind fun t185 => (some t185)) else (some false)) else (some false)) else (some false)) else (some false)) else (if a0_0 = 20 then (some (a0_0 == 20 && (a0_1 == 0 && (a0_2 == (-1) && (a0_3 == 0 && (a0_4 == 0 && (a0_5 == 0))))))) else (some false)))))))))
set_option maxHeartbeats 8000000 in
set_option maxRecDepth 100000 in
theorem spec_l1Bare.calls (a0_0 : Int) (a0_1 : Int) (a0_2 : Int) (a0_3 : Int) (a0_4 : Int) (a0_5 : Int) (r : Bool) (w : World) (h : spec_l1Bare.f a0_0 a0_1 a0_2 a0_3 a0_4 a0_5 = some r) :
  Calls Tryd.prog 29 #[.agg #[.int .i64 a0_0, .int .i64 a0_1, .int .i64 a0_2, .int .i64 a0_3, .int .i64 a0_4, .int .i64 a0_5]] w fun e w' => e = .returned (.bool r) ∧ Below w.heap.size w w' := by
 have hu23 := Tryd.underlying23
 have HB := Aside0.mk (Below.refl w.heap.size w)
 have H : ((spec_l1Alu.f a0_0).bind fun t183 => (if t183 = true then (if a0_3 = 0 then (if a0_5 = 0 then (if a0_2 < 0 then (some true) else (some (a0_4 == 0))) else (some false)) else (some false)) else ((spec_l1Jump.f a0_0).bind fun t184 => (if t184 = true then (if a0_5 = 0 then (if a0_2 < 0 then (some true) else (some (a0_4 == 0))) else (some false)) else (if a0_0 = 16 then (if a0_1 = 0 then (if a0_2 = (-1) then (if a0_4 = 0 then (some (a0_5 == 0)) else (some false)) else (some false)) else (some false)) else (if a0_0 = 17 then (if a0_2 ≥ 0 then (if a0_4 = 0 then (if a0_5 = 1 then (some true) else (if a0_5 = 2 then (some true) else (some (a0_5 == 4)))) else (some false)) else (some false)) else (if a0_0 = 18 then (if a0_2 < 0 then (if a0_5 = 1 then (some true) else (if a0_5 = 2 then (some true) else (some (a0_5 == 4)))) else (if a0_4 = 0 then (if a0_5 = 1 then (some true) else (if a0_5 = 2 then (some true) else (some (a0_5 == 4)))) else (some false))) else (if a0_0 = 19 then (if a0_1 = 0 then (if a0_2 = (-1) then (if a0_3 = 0 then (if a0_5 = 0 then ((spec_l1In.f a0_4 1 6).bind fun t185 => (some t185)) else (some false)) else (some false)) else (some false)) else (some false)) else (if a0_0 = 20 then (some (a0_0 == 20 && (a0_1 == 0 && (a0_2 == (-1) && (a0_3 == 0 && (a0_4 == 0 && (a0_5 == 0))))))) else (some false)))))))))) = some r := h
 clear h
 replace H := Option.bind_eq_some_iff.mp H
 obtain ⟨t183, A20, H⟩ := H
 try dsimp only at H
 have A2 := Aside0.mk A20
 clear A20
 by_cases c3 : t183 = true
 ·subst c3
  rw [if_pos rfl] at H
  by_cases c4 : a0_3 = 0
  ·rw [if_pos c4] at H
   have c4b0 : (a0_3 == 0) = true := beq_iff_eq.mpr c4
   have c4b1 : (a0_3 != 0) = false := bne_eq_false_iff_eq.mpr c4
   clear c4
   by_cases c5 : a0_5 = 0
   ·rw [if_pos c5] at H
    have c5b0 : (a0_5 == 0) = true := beq_iff_eq.mpr c5
    have c5b1 : (a0_5 != 0) = false := bne_eq_false_iff_eq.mpr c5
    clear c5
    by_cases c6 : a0_2 < 0
    ·rw [if_pos c6] at H
     have c6b0 : decide (a0_2 < 0) = true := decide_eq_true c6
     clear c6
     obtain rfl := Option.some.inj H
     go_enter Tryd.func29, Tryd.ntmps29
     go_wp2_with (first | ((with_reducible refine gate_dst (N := 1) rfl ?_); refine be 1 #[.int .i64 a0_0, .int .i64 a0_1, .int .i64 a0_2, .int .i64 a0_3, .int .i64 a0_4, .int .i64 a0_5] 23 ?_; intro gb182 hg w7 hbox hb; have BK182 := Aside0.mk hbox; have GW182 := zW hg; replace HB := zS hb; have GE182 := GW182; clear hb hbox hg; obtain ⟨hcz8_0, hcz8_1, hcz8_2, hcz8_3, hcz8_4, hcz8_5, hfz8_0, hfz8_1, hfz8_2, hfz8_3, hfz8_4, hfz8_5⟩ := zc6 BK182) | ((with_reducible refine gate_callee (f := 23) rfl ?_); refine gl 6 Tryd.func23 #[.int .i64 a0_0] ?_; (with_reducible refine (spec_l1Alu.calls a0_0 true _ A2.out).mono ?_); rintro e w' ⟨rfl, ⟨nd, rfl⟩⟩; refine ⟨_, rfl, ?_⟩))
     go_ret
     exact ⟨zR, zB⟩
    ·rw [if_neg c6] at H
     have c6b0 : decide (a0_2 < 0) = false := decide_eq_false c6
     clear c6
     obtain rfl := Option.some.inj H
     go_enter Tryd.func29, Tryd.ntmps29
     go_wp2_with (first | ((with_reducible refine gate_dst (N := 1) rfl ?_); refine be 1 #[.int .i64 a0_0, .int .i64 a0_1, .int .i64 a0_2, .int .i64 a0_3, .int .i64 a0_4, .int .i64 a0_5] 23 ?_; intro gb182 hg w9 hbox hb; have BK182 := Aside0.mk hbox; have GW182 := zW hg; replace HB := zS hb; have GE182 := GW182; clear hb hbox hg; obtain ⟨hcz10_0, hcz10_1, hcz10_2, hcz10_3, hcz10_4, hcz10_5, hfz10_0, hfz10_1, hfz10_2, hfz10_3, hfz10_4, hfz10_5⟩ := zc6 BK182) | ((with_reducible refine gate_callee (f := 23) rfl ?_); refine gl 6 Tryd.func23 #[.int .i64 a0_0] ?_; (with_reducible refine (spec_l1Alu.calls a0_0 true _ A2.out).mono ?_); rintro e w' ⟨rfl, ⟨nd, rfl⟩⟩; refine ⟨_, rfl, ?_⟩))
     go_ret
     exact ⟨zR, zB⟩
   ·rw [if_neg c5] at H
    have c5b0 : (a0_5 == 0) = false := beq_eq_false_iff_ne.mpr c5
    have c5b1 : (a0_5 != 0) = true := bne_iff_ne.mpr c5
    obtain rfl := Option.some.inj H
    go_enter Tryd.func29, Tryd.ntmps29
    go_wp2_with (first | ((with_reducible refine gate_dst (N := 1) rfl ?_); refine be 1 #[.int .i64 a0_0, .int .i64 a0_1, .int .i64 a0_2, .int .i64 a0_3, .int .i64 a0_4, .int .i64 a0_5] 23 ?_; intro gb182 hg w11 hbox hb; have BK182 := Aside0.mk hbox; have GW182 := zW hg; replace HB := zS hb; have GE182 := GW182; clear hb hbox hg; obtain ⟨hcz12_0, hcz12_1, hcz12_2, hcz12_3, hcz12_4, hcz12_5, hfz12_0, hfz12_1, hfz12_2, hfz12_3, hfz12_4, hfz12_5⟩ := zc6 BK182) | ((with_reducible refine gate_callee (f := 23) rfl ?_); refine gl 6 Tryd.func23 #[.int .i64 a0_0] ?_; (with_reducible refine (spec_l1Alu.calls a0_0 true _ A2.out).mono ?_); rintro e w' ⟨rfl, ⟨nd, rfl⟩⟩; refine ⟨_, rfl, ?_⟩))
    go_ret
    exact ⟨zR, zB⟩
  ·rw [if_neg c4] at H
   have c4b0 : (a0_3 == 0) = false := beq_eq_false_iff_ne.mpr c4
   have c4b1 : (a0_3 != 0) = true := bne_iff_ne.mpr c4
   obtain rfl := Option.some.inj H
   go_enter Tryd.func29, Tryd.ntmps29
   go_wp2_with (first | ((with_reducible refine gate_dst (N := 1) rfl ?_); refine be 1 #[.int .i64 a0_0, .int .i64 a0_1, .int .i64 a0_2, .int .i64 a0_3, .int .i64 a0_4, .int .i64 a0_5] 23 ?_; intro gb182 hg w13 hbox hb; have BK182 := Aside0.mk hbox; have GW182 := zW hg; replace HB := zS hb; have GE182 := GW182; clear hb hbox hg; obtain ⟨hcz14_0, hcz14_1, hcz14_2, hcz14_3, hcz14_4, hcz14_5, hfz14_0, hfz14_1, hfz14_2, hfz14_3, hfz14_4, hfz14_5⟩ := zc6 BK182) | ((with_reducible refine gate_callee (f := 23) rfl ?_); refine gl 6 Tryd.func23 #[.int .i64 a0_0] ?_; (with_reducible refine (spec_l1Alu.calls a0_0 true _ A2.out).mono ?_); rintro e w' ⟨rfl, ⟨nd, rfl⟩⟩; refine ⟨_, rfl, ?_⟩))
   go_ret
   exact ⟨zR, zB⟩
 ·replace c3 := Bool.eq_false_iff.mpr c3
  subst c3
  rw [if_neg (show ¬ (false = true) by decide)] at H
  replace H := Option.bind_eq_some_iff.mp H
  obtain ⟨t184, A150, H⟩ := H
  try dsimp only at H
  have A15 := Aside0.mk A150
  clear A150
  by_cases c16 : t184 = true
  ·subst c16
   rw [if_pos rfl] at H
   by_cases c17 : a0_5 = 0
   ·rw [if_pos c17] at H
    have c17b0 : (a0_5 == 0) = true := beq_iff_eq.mpr c17
    have c17b1 : (a0_5 != 0) = false := bne_eq_false_iff_eq.mpr c17
    clear c17
    by_cases c18 : a0_2 < 0
    ·rw [if_pos c18] at H
     have c18b0 : decide (a0_2 < 0) = true := decide_eq_true c18
     clear c18
     obtain rfl := Option.some.inj H
     go_enter Tryd.func29, Tryd.ntmps29
     go_wp2_with (first | ((with_reducible refine gate_dst (N := 1) rfl ?_); refine be 1 #[.int .i64 a0_0, .int .i64 a0_1, .int .i64 a0_2, .int .i64 a0_3, .int .i64 a0_4, .int .i64 a0_5] 23 ?_; intro gb182 hg w19 hbox hb; have BK182 := Aside0.mk hbox; have GW182 := zW hg; replace HB := zS hb; have GE182 := GW182; clear hb hbox hg; obtain ⟨hcz20_0, hcz20_1, hcz20_2, hcz20_3, hcz20_4, hcz20_5, hfz20_0, hfz20_1, hfz20_2, hfz20_3, hfz20_4, hfz20_5⟩ := zc6 BK182) | ((with_reducible refine gate_callee (f := 23) rfl ?_); refine gl 6 Tryd.func23 #[.int .i64 a0_0] ?_; (with_reducible refine (spec_l1Alu.calls a0_0 false _ A2.out).mono ?_); rintro e w' ⟨rfl, ⟨nd, rfl⟩⟩; refine ⟨_, rfl, ?_⟩) | ((with_reducible refine gate_callee (f := 24) rfl ?_); refine gl 28 Tryd.func24 #[.int .i64 a0_0] ?_; (with_reducible refine (spec_l1Jump.calls a0_0 true _ A15.out).mono ?_); rintro e w' ⟨rfl, ⟨nd, rfl⟩⟩; refine ⟨_, rfl, ?_⟩))
     go_ret
     exact ⟨zR, zB⟩
    ·rw [if_neg c18] at H
     have c18b0 : decide (a0_2 < 0) = false := decide_eq_false c18
     clear c18
     obtain rfl := Option.some.inj H
     go_enter Tryd.func29, Tryd.ntmps29
     go_wp2_with (first | ((with_reducible refine gate_dst (N := 1) rfl ?_); refine be 1 #[.int .i64 a0_0, .int .i64 a0_1, .int .i64 a0_2, .int .i64 a0_3, .int .i64 a0_4, .int .i64 a0_5] 23 ?_; intro gb182 hg w21 hbox hb; have BK182 := Aside0.mk hbox; have GW182 := zW hg; replace HB := zS hb; have GE182 := GW182; clear hb hbox hg; obtain ⟨hcz22_0, hcz22_1, hcz22_2, hcz22_3, hcz22_4, hcz22_5, hfz22_0, hfz22_1, hfz22_2, hfz22_3, hfz22_4, hfz22_5⟩ := zc6 BK182) | ((with_reducible refine gate_callee (f := 23) rfl ?_); refine gl 6 Tryd.func23 #[.int .i64 a0_0] ?_; (with_reducible refine (spec_l1Alu.calls a0_0 false _ A2.out).mono ?_); rintro e w' ⟨rfl, ⟨nd, rfl⟩⟩; refine ⟨_, rfl, ?_⟩) | ((with_reducible refine gate_callee (f := 24) rfl ?_); refine gl 28 Tryd.func24 #[.int .i64 a0_0] ?_; (with_reducible refine (spec_l1Jump.calls a0_0 true _ A15.out).mono ?_); rintro e w' ⟨rfl, ⟨nd, rfl⟩⟩; refine ⟨_, rfl, ?_⟩))
     go_ret
     exact ⟨zR, zB⟩
   ·rw [if_neg c17] at H
    have c17b0 : (a0_5 == 0) = false := beq_eq_false_iff_ne.mpr c17
    have c17b1 : (a0_5 != 0) = true := bne_iff_ne.mpr c17
    obtain rfl := Option.some.inj H
    go_enter Tryd.func29, Tryd.ntmps29
    go_wp2_with (first | ((with_reducible refine gate_dst (N := 1) rfl ?_); refine be 1 #[.int .i64 a0_0, .int .i64 a0_1, .int .i64 a0_2, .int .i64 a0_3, .int .i64 a0_4, .int .i64 a0_5] 23 ?_; intro gb182 hg w23 hbox hb; have BK182 := Aside0.mk hbox; have GW182 := zW hg; replace HB := zS hb; have GE182 := GW182; clear hb hbox hg; obtain ⟨hcz24_0, hcz24_1, hcz24_2, hcz24_3, hcz24_4, hcz24_5, hfz24_0, hfz24_1, hfz24_2, hfz24_3, hfz24_4, hfz24_5⟩ := zc6 BK182) | ((with_reducible refine gate_callee (f := 23) rfl ?_); refine gl 6 Tryd.func23 #[.int .i64 a0_0] ?_; (with_reducible refine (spec_l1Alu.calls a0_0 false _ A2.out).mono ?_); rintro e w' ⟨rfl, ⟨nd, rfl⟩⟩; refine ⟨_, rfl, ?_⟩) | ((with_reducible refine gate_callee (f := 24) rfl ?_); refine gl 28 Tryd.func24 #[.int .i64 a0_0] ?_; (with_reducible refine (spec_l1Jump.calls a0_0 true _ A15.out).mono ?_); rintro e w' ⟨rfl, ⟨nd, rfl⟩⟩; refine ⟨_, rfl, ?_⟩))
    go_ret
    exact ⟨zR, zB⟩
  ·replace c16 := Bool.eq_false_iff.mpr c16
   subst c16
   rw [if_neg (show ¬ (false = true) by decide)] at H
   by_cases c25 : a0_0 = 16
   ·rw [if_pos c25] at H
    have c25b0 : (a0_0 == 16) = true := beq_iff_eq.mpr c25
    have c25b1 : (a0_0 != 16) = false := bne_eq_false_iff_eq.mpr c25
    clear c25
    by_cases c26 : a0_1 = 0
    ·rw [if_pos c26] at H
     have c26b0 : (a0_1 == 0) = true := beq_iff_eq.mpr c26
     have c26b1 : (a0_1 != 0) = false := bne_eq_false_iff_eq.mpr c26
     clear c26
     by_cases c27 : a0_2 = (-1)
     ·rw [if_pos c27] at H
      have c27b0 : (a0_2 == (-1)) = true := beq_iff_eq.mpr c27
      have c27b1 : (a0_2 != (-1)) = false := bne_eq_false_iff_eq.mpr c27
      clear c27
      by_cases c28 : a0_4 = 0
      ·rw [if_pos c28] at H
       have c28b0 : (a0_4 == 0) = true := beq_iff_eq.mpr c28
       have c28b1 : (a0_4 != 0) = false := bne_eq_false_iff_eq.mpr c28
       clear c28
       obtain rfl := Option.some.inj H
       go_enter Tryd.func29, Tryd.ntmps29
       go_wp2_with (first | ((with_reducible refine gate_dst (N := 1) rfl ?_); refine be 1 #[.int .i64 a0_0, .int .i64 a0_1, .int .i64 a0_2, .int .i64 a0_3, .int .i64 a0_4, .int .i64 a0_5] 23 ?_; intro gb182 hg w29 hbox hb; have BK182 := Aside0.mk hbox; have GW182 := zW hg; replace HB := zS hb; have GE182 := GW182; clear hb hbox hg; obtain ⟨hcz30_0, hcz30_1, hcz30_2, hcz30_3, hcz30_4, hcz30_5, hfz30_0, hfz30_1, hfz30_2, hfz30_3, hfz30_4, hfz30_5⟩ := zc6 BK182) | ((with_reducible refine gate_callee (f := 23) rfl ?_); refine gl 6 Tryd.func23 #[.int .i64 a0_0] ?_; (with_reducible refine (spec_l1Alu.calls a0_0 false _ A2.out).mono ?_); rintro e w' ⟨rfl, ⟨nd, rfl⟩⟩; refine ⟨_, rfl, ?_⟩) | ((with_reducible refine gate_callee (f := 24) rfl ?_); refine gl 28 Tryd.func24 #[.int .i64 a0_0] ?_; (with_reducible refine (spec_l1Jump.calls a0_0 false _ A15.out).mono ?_); rintro e w' ⟨rfl, ⟨nd, rfl⟩⟩; refine ⟨_, rfl, ?_⟩))
       go_ret
       exact ⟨zR, zB⟩
      ·rw [if_neg c28] at H
       have c28b0 : (a0_4 == 0) = false := beq_eq_false_iff_ne.mpr c28
       have c28b1 : (a0_4 != 0) = true := bne_iff_ne.mpr c28
       obtain rfl := Option.some.inj H
       go_enter Tryd.func29, Tryd.ntmps29
       go_wp2_with (first | ((with_reducible refine gate_dst (N := 1) rfl ?_); refine be 1 #[.int .i64 a0_0, .int .i64 a0_1, .int .i64 a0_2, .int .i64 a0_3, .int .i64 a0_4, .int .i64 a0_5] 23 ?_; intro gb182 hg w31 hbox hb; have BK182 := Aside0.mk hbox; have GW182 := zW hg; replace HB := zS hb; have GE182 := GW182; clear hb hbox hg; obtain ⟨hcz32_0, hcz32_1, hcz32_2, hcz32_3, hcz32_4, hcz32_5, hfz32_0, hfz32_1, hfz32_2, hfz32_3, hfz32_4, hfz32_5⟩ := zc6 BK182) | ((with_reducible refine gate_callee (f := 23) rfl ?_); refine gl 6 Tryd.func23 #[.int .i64 a0_0] ?_; (with_reducible refine (spec_l1Alu.calls a0_0 false _ A2.out).mono ?_); rintro e w' ⟨rfl, ⟨nd, rfl⟩⟩; refine ⟨_, rfl, ?_⟩) | ((with_reducible refine gate_callee (f := 24) rfl ?_); refine gl 28 Tryd.func24 #[.int .i64 a0_0] ?_; (with_reducible refine (spec_l1Jump.calls a0_0 false _ A15.out).mono ?_); rintro e w' ⟨rfl, ⟨nd, rfl⟩⟩; refine ⟨_, rfl, ?_⟩))
       go_ret
       exact ⟨zR, zB⟩
     ·rw [if_neg c27] at H
      have c27b0 : (a0_2 == (-1)) = false := beq_eq_false_iff_ne.mpr c27
      have c27b1 : (a0_2 != (-1)) = true := bne_iff_ne.mpr c27
      obtain rfl := Option.some.inj H
      go_enter Tryd.func29, Tryd.ntmps29
      go_wp2_with (first | ((with_reducible refine gate_dst (N := 1) rfl ?_); refine be 1 #[.int .i64 a0_0, .int .i64 a0_1, .int .i64 a0_2, .int .i64 a0_3, .int .i64 a0_4, .int .i64 a0_5] 23 ?_; intro gb182 hg w33 hbox hb; have BK182 := Aside0.mk hbox; have GW182 := zW hg; replace HB := zS hb; have GE182 := GW182; clear hb hbox hg; obtain ⟨hcz34_0, hcz34_1, hcz34_2, hcz34_3, hcz34_4, hcz34_5, hfz34_0, hfz34_1, hfz34_2, hfz34_3, hfz34_4, hfz34_5⟩ := zc6 BK182) | ((with_reducible refine gate_callee (f := 23) rfl ?_); refine gl 6 Tryd.func23 #[.int .i64 a0_0] ?_; (with_reducible refine (spec_l1Alu.calls a0_0 false _ A2.out).mono ?_); rintro e w' ⟨rfl, ⟨nd, rfl⟩⟩; refine ⟨_, rfl, ?_⟩) | ((with_reducible refine gate_callee (f := 24) rfl ?_); refine gl 28 Tryd.func24 #[.int .i64 a0_0] ?_; (with_reducible refine (spec_l1Jump.calls a0_0 false _ A15.out).mono ?_); rintro e w' ⟨rfl, ⟨nd, rfl⟩⟩; refine ⟨_, rfl, ?_⟩))
      go_ret
      exact ⟨zR, zB⟩
    ·rw [if_neg c26] at H
     have c26b0 : (a0_1 == 0) = false := beq_eq_false_iff_ne.mpr c26
     have c26b1 : (a0_1 != 0) = true := bne_iff_ne.mpr c26
     obtain rfl := Option.some.inj H
     go_enter Tryd.func29, Tryd.ntmps29
     go_wp2_with (first | ((with_reducible refine gate_dst (N := 1) rfl ?_); refine be 1 #[.int .i64 a0_0, .int .i64 a0_1, .int .i64 a0_2, .int .i64 a0_3, .int .i64 a0_4, .int .i64 a0_5] 23 ?_; intro gb182 hg w35 hbox hb; have BK182 := Aside0.mk hbox; have GW182 := zW hg; replace HB := zS hb; have GE182 := GW182; clear hb hbox hg; obtain ⟨hcz36_0, hcz36_1, hcz36_2, hcz36_3, hcz36_4, hcz36_5, hfz36_0, hfz36_1, hfz36_2, hfz36_3, hfz36_4, hfz36_5⟩ := zc6 BK182) | ((with_reducible refine gate_callee (f := 23) rfl ?_); refine gl 6 Tryd.func23 #[.int .i64 a0_0] ?_; (with_reducible refine (spec_l1Alu.calls a0_0 false _ A2.out).mono ?_); rintro e w' ⟨rfl, ⟨nd, rfl⟩⟩; refine ⟨_, rfl, ?_⟩) | ((with_reducible refine gate_callee (f := 24) rfl ?_); refine gl 28 Tryd.func24 #[.int .i64 a0_0] ?_; (with_reducible refine (spec_l1Jump.calls a0_0 false _ A15.out).mono ?_); rintro e w' ⟨rfl, ⟨nd, rfl⟩⟩; refine ⟨_, rfl, ?_⟩))
     go_ret
     exact ⟨zR, zB⟩
   ·rw [if_neg c25] at H
    have c25b0 : (a0_0 == 16) = false := beq_eq_false_iff_ne.mpr c25
    have c25b1 : (a0_0 != 16) = true := bne_iff_ne.mpr c25
    by_cases c37 : a0_0 = 17
    ·rw [if_pos c37] at H
     have c37b0 : (a0_0 == 17) = true := beq_iff_eq.mpr c37
     have c37b1 : (a0_0 != 17) = false := bne_eq_false_iff_eq.mpr c37
     clear c37
     by_cases c38 : a0_2 ≥ 0
     ·rw [if_pos c38] at H
      have c38b0 : decide (0 ≤ a0_2) = true := decide_eq_true c38
      clear c38
      by_cases c39 : a0_4 = 0
      ·rw [if_pos c39] at H
       have c39b0 : (a0_4 == 0) = true := beq_iff_eq.mpr c39
       have c39b1 : (a0_4 != 0) = false := bne_eq_false_iff_eq.mpr c39
       clear c39
       by_cases c40 : a0_5 = 1
       ·rw [if_pos c40] at H
        have c40b0 : (a0_5 == 1) = true := beq_iff_eq.mpr c40
        have c40b1 : (a0_5 != 1) = false := bne_eq_false_iff_eq.mpr c40
        clear c40
        obtain rfl := Option.some.inj H
        go_enter Tryd.func29, Tryd.ntmps29
        go_wp2_with (first | ((with_reducible refine gate_dst (N := 1) rfl ?_); refine be 1 #[.int .i64 a0_0, .int .i64 a0_1, .int .i64 a0_2, .int .i64 a0_3, .int .i64 a0_4, .int .i64 a0_5] 23 ?_; intro gb182 hg w41 hbox hb; have BK182 := Aside0.mk hbox; have GW182 := zW hg; replace HB := zS hb; have GE182 := GW182; clear hb hbox hg; obtain ⟨hcz42_0, hcz42_1, hcz42_2, hcz42_3, hcz42_4, hcz42_5, hfz42_0, hfz42_1, hfz42_2, hfz42_3, hfz42_4, hfz42_5⟩ := zc6 BK182) | ((with_reducible refine gate_callee (f := 23) rfl ?_); refine gl 6 Tryd.func23 #[.int .i64 a0_0] ?_; (with_reducible refine (spec_l1Alu.calls a0_0 false _ A2.out).mono ?_); rintro e w' ⟨rfl, ⟨nd, rfl⟩⟩; refine ⟨_, rfl, ?_⟩) | ((with_reducible refine gate_callee (f := 24) rfl ?_); refine gl 28 Tryd.func24 #[.int .i64 a0_0] ?_; (with_reducible refine (spec_l1Jump.calls a0_0 false _ A15.out).mono ?_); rintro e w' ⟨rfl, ⟨nd, rfl⟩⟩; refine ⟨_, rfl, ?_⟩))
        go_ret
        exact ⟨zR, zB⟩
       ·rw [if_neg c40] at H
        have c40b0 : (a0_5 == 1) = false := beq_eq_false_iff_ne.mpr c40
        have c40b1 : (a0_5 != 1) = true := bne_iff_ne.mpr c40
        by_cases c43 : a0_5 = 2
        ·rw [if_pos c43] at H
         have c43b0 : (a0_5 == 2) = true := beq_iff_eq.mpr c43
         have c43b1 : (a0_5 != 2) = false := bne_eq_false_iff_eq.mpr c43
         clear c43
         obtain rfl := Option.some.inj H
         go_enter Tryd.func29, Tryd.ntmps29
         go_wp2_with (first | ((with_reducible refine gate_dst (N := 1) rfl ?_); refine be 1 #[.int .i64 a0_0, .int .i64 a0_1, .int .i64 a0_2, .int .i64 a0_3, .int .i64 a0_4, .int .i64 a0_5] 23 ?_; intro gb182 hg w44 hbox hb; have BK182 := Aside0.mk hbox; have GW182 := zW hg; replace HB := zS hb; have GE182 := GW182; clear hb hbox hg; obtain ⟨hcz45_0, hcz45_1, hcz45_2, hcz45_3, hcz45_4, hcz45_5, hfz45_0, hfz45_1, hfz45_2, hfz45_3, hfz45_4, hfz45_5⟩ := zc6 BK182) | ((with_reducible refine gate_callee (f := 23) rfl ?_); refine gl 6 Tryd.func23 #[.int .i64 a0_0] ?_; (with_reducible refine (spec_l1Alu.calls a0_0 false _ A2.out).mono ?_); rintro e w' ⟨rfl, ⟨nd, rfl⟩⟩; refine ⟨_, rfl, ?_⟩) | ((with_reducible refine gate_callee (f := 24) rfl ?_); refine gl 28 Tryd.func24 #[.int .i64 a0_0] ?_; (with_reducible refine (spec_l1Jump.calls a0_0 false _ A15.out).mono ?_); rintro e w' ⟨rfl, ⟨nd, rfl⟩⟩; refine ⟨_, rfl, ?_⟩))
         go_ret
         exact ⟨zR, zB⟩
        ·rw [if_neg c43] at H
         have c43b0 : (a0_5 == 2) = false := beq_eq_false_iff_ne.mpr c43
         have c43b1 : (a0_5 != 2) = true := bne_iff_ne.mpr c43
         obtain rfl := Option.some.inj H
         go_enter Tryd.func29, Tryd.ntmps29
         go_wp2_with (first | ((with_reducible refine gate_dst (N := 1) rfl ?_); refine be 1 #[.int .i64 a0_0, .int .i64 a0_1, .int .i64 a0_2, .int .i64 a0_3, .int .i64 a0_4, .int .i64 a0_5] 23 ?_; intro gb182 hg w46 hbox hb; have BK182 := Aside0.mk hbox; have GW182 := zW hg; replace HB := zS hb; have GE182 := GW182; clear hb hbox hg; obtain ⟨hcz47_0, hcz47_1, hcz47_2, hcz47_3, hcz47_4, hcz47_5, hfz47_0, hfz47_1, hfz47_2, hfz47_3, hfz47_4, hfz47_5⟩ := zc6 BK182) | ((with_reducible refine gate_callee (f := 23) rfl ?_); refine gl 6 Tryd.func23 #[.int .i64 a0_0] ?_; (with_reducible refine (spec_l1Alu.calls a0_0 false _ A2.out).mono ?_); rintro e w' ⟨rfl, ⟨nd, rfl⟩⟩; refine ⟨_, rfl, ?_⟩) | ((with_reducible refine gate_callee (f := 24) rfl ?_); refine gl 28 Tryd.func24 #[.int .i64 a0_0] ?_; (with_reducible refine (spec_l1Jump.calls a0_0 false _ A15.out).mono ?_); rintro e w' ⟨rfl, ⟨nd, rfl⟩⟩; refine ⟨_, rfl, ?_⟩))
         go_ret
         exact ⟨zR, zB⟩
      ·rw [if_neg c39] at H
       have c39b0 : (a0_4 == 0) = false := beq_eq_false_iff_ne.mpr c39
       have c39b1 : (a0_4 != 0) = true := bne_iff_ne.mpr c39
       obtain rfl := Option.some.inj H
       go_enter Tryd.func29, Tryd.ntmps29
       go_wp2_with (first | ((with_reducible refine gate_dst (N := 1) rfl ?_); refine be 1 #[.int .i64 a0_0, .int .i64 a0_1, .int .i64 a0_2, .int .i64 a0_3, .int .i64 a0_4, .int .i64 a0_5] 23 ?_; intro gb182 hg w48 hbox hb; have BK182 := Aside0.mk hbox; have GW182 := zW hg; replace HB := zS hb; have GE182 := GW182; clear hb hbox hg; obtain ⟨hcz49_0, hcz49_1, hcz49_2, hcz49_3, hcz49_4, hcz49_5, hfz49_0, hfz49_1, hfz49_2, hfz49_3, hfz49_4, hfz49_5⟩ := zc6 BK182) | ((with_reducible refine gate_callee (f := 23) rfl ?_); refine gl 6 Tryd.func23 #[.int .i64 a0_0] ?_; (with_reducible refine (spec_l1Alu.calls a0_0 false _ A2.out).mono ?_); rintro e w' ⟨rfl, ⟨nd, rfl⟩⟩; refine ⟨_, rfl, ?_⟩) | ((with_reducible refine gate_callee (f := 24) rfl ?_); refine gl 28 Tryd.func24 #[.int .i64 a0_0] ?_; (with_reducible refine (spec_l1Jump.calls a0_0 false _ A15.out).mono ?_); rintro e w' ⟨rfl, ⟨nd, rfl⟩⟩; refine ⟨_, rfl, ?_⟩))
       go_ret
       exact ⟨zR, zB⟩
     ·rw [if_neg c38] at H
      have c38b0 : decide (0 ≤ a0_2) = false := decide_eq_false c38
      clear c38
      obtain rfl := Option.some.inj H
      go_enter Tryd.func29, Tryd.ntmps29
      go_wp2_with (first | ((with_reducible refine gate_dst (N := 1) rfl ?_); refine be 1 #[.int .i64 a0_0, .int .i64 a0_1, .int .i64 a0_2, .int .i64 a0_3, .int .i64 a0_4, .int .i64 a0_5] 23 ?_; intro gb182 hg w50 hbox hb; have BK182 := Aside0.mk hbox; have GW182 := zW hg; replace HB := zS hb; have GE182 := GW182; clear hb hbox hg; obtain ⟨hcz51_0, hcz51_1, hcz51_2, hcz51_3, hcz51_4, hcz51_5, hfz51_0, hfz51_1, hfz51_2, hfz51_3, hfz51_4, hfz51_5⟩ := zc6 BK182) | ((with_reducible refine gate_callee (f := 23) rfl ?_); refine gl 6 Tryd.func23 #[.int .i64 a0_0] ?_; (with_reducible refine (spec_l1Alu.calls a0_0 false _ A2.out).mono ?_); rintro e w' ⟨rfl, ⟨nd, rfl⟩⟩; refine ⟨_, rfl, ?_⟩) | ((with_reducible refine gate_callee (f := 24) rfl ?_); refine gl 28 Tryd.func24 #[.int .i64 a0_0] ?_; (with_reducible refine (spec_l1Jump.calls a0_0 false _ A15.out).mono ?_); rintro e w' ⟨rfl, ⟨nd, rfl⟩⟩; refine ⟨_, rfl, ?_⟩))
      go_ret
      exact ⟨zR, zB⟩
    ·rw [if_neg c37] at H
     have c37b0 : (a0_0 == 17) = false := beq_eq_false_iff_ne.mpr c37
     have c37b1 : (a0_0 != 17) = true := bne_iff_ne.mpr c37
     by_cases c52 : a0_0 = 18
     ·rw [if_pos c52] at H
      have c52b0 : (a0_0 == 18) = true := beq_iff_eq.mpr c52
      have c52b1 : (a0_0 != 18) = false := bne_eq_false_iff_eq.mpr c52
      clear c52
      by_cases c53 : a0_2 < 0
      ·rw [if_pos c53] at H
       have c53b0 : decide (a0_2 < 0) = true := decide_eq_true c53
       clear c53
       by_cases c54 : a0_5 = 1
       ·rw [if_pos c54] at H
        have c54b0 : (a0_5 == 1) = true := beq_iff_eq.mpr c54
        have c54b1 : (a0_5 != 1) = false := bne_eq_false_iff_eq.mpr c54
        clear c54
        obtain rfl := Option.some.inj H
        go_enter Tryd.func29, Tryd.ntmps29
        go_wp2_with (first | ((with_reducible refine gate_dst (N := 1) rfl ?_); refine be 1 #[.int .i64 a0_0, .int .i64 a0_1, .int .i64 a0_2, .int .i64 a0_3, .int .i64 a0_4, .int .i64 a0_5] 23 ?_; intro gb182 hg w55 hbox hb; have BK182 := Aside0.mk hbox; have GW182 := zW hg; replace HB := zS hb; have GE182 := GW182; clear hb hbox hg; obtain ⟨hcz56_0, hcz56_1, hcz56_2, hcz56_3, hcz56_4, hcz56_5, hfz56_0, hfz56_1, hfz56_2, hfz56_3, hfz56_4, hfz56_5⟩ := zc6 BK182) | ((with_reducible refine gate_callee (f := 23) rfl ?_); refine gl 6 Tryd.func23 #[.int .i64 a0_0] ?_; (with_reducible refine (spec_l1Alu.calls a0_0 false _ A2.out).mono ?_); rintro e w' ⟨rfl, ⟨nd, rfl⟩⟩; refine ⟨_, rfl, ?_⟩) | ((with_reducible refine gate_callee (f := 24) rfl ?_); refine gl 28 Tryd.func24 #[.int .i64 a0_0] ?_; (with_reducible refine (spec_l1Jump.calls a0_0 false _ A15.out).mono ?_); rintro e w' ⟨rfl, ⟨nd, rfl⟩⟩; refine ⟨_, rfl, ?_⟩))
        go_ret
        exact ⟨zR, zB⟩
       ·rw [if_neg c54] at H
        have c54b0 : (a0_5 == 1) = false := beq_eq_false_iff_ne.mpr c54
        have c54b1 : (a0_5 != 1) = true := bne_iff_ne.mpr c54
        by_cases c57 : a0_5 = 2
        ·rw [if_pos c57] at H
         have c57b0 : (a0_5 == 2) = true := beq_iff_eq.mpr c57
         have c57b1 : (a0_5 != 2) = false := bne_eq_false_iff_eq.mpr c57
         clear c57
         obtain rfl := Option.some.inj H
         go_enter Tryd.func29, Tryd.ntmps29
         go_wp2_with (first | ((with_reducible refine gate_dst (N := 1) rfl ?_); refine be 1 #[.int .i64 a0_0, .int .i64 a0_1, .int .i64 a0_2, .int .i64 a0_3, .int .i64 a0_4, .int .i64 a0_5] 23 ?_; intro gb182 hg w58 hbox hb; have BK182 := Aside0.mk hbox; have GW182 := zW hg; replace HB := zS hb; have GE182 := GW182; clear hb hbox hg; obtain ⟨hcz59_0, hcz59_1, hcz59_2, hcz59_3, hcz59_4, hcz59_5, hfz59_0, hfz59_1, hfz59_2, hfz59_3, hfz59_4, hfz59_5⟩ := zc6 BK182) | ((with_reducible refine gate_callee (f := 23) rfl ?_); refine gl 6 Tryd.func23 #[.int .i64 a0_0] ?_; (with_reducible refine (spec_l1Alu.calls a0_0 false _ A2.out).mono ?_); rintro e w' ⟨rfl, ⟨nd, rfl⟩⟩; refine ⟨_, rfl, ?_⟩) | ((with_reducible refine gate_callee (f := 24) rfl ?_); refine gl 28 Tryd.func24 #[.int .i64 a0_0] ?_; (with_reducible refine (spec_l1Jump.calls a0_0 false _ A15.out).mono ?_); rintro e w' ⟨rfl, ⟨nd, rfl⟩⟩; refine ⟨_, rfl, ?_⟩))
         go_ret
         exact ⟨zR, zB⟩
        ·rw [if_neg c57] at H
         have c57b0 : (a0_5 == 2) = false := beq_eq_false_iff_ne.mpr c57
         have c57b1 : (a0_5 != 2) = true := bne_iff_ne.mpr c57
         obtain rfl := Option.some.inj H
         go_enter Tryd.func29, Tryd.ntmps29
         go_wp2_with (first | ((with_reducible refine gate_dst (N := 1) rfl ?_); refine be 1 #[.int .i64 a0_0, .int .i64 a0_1, .int .i64 a0_2, .int .i64 a0_3, .int .i64 a0_4, .int .i64 a0_5] 23 ?_; intro gb182 hg w60 hbox hb; have BK182 := Aside0.mk hbox; have GW182 := zW hg; replace HB := zS hb; have GE182 := GW182; clear hb hbox hg; obtain ⟨hcz61_0, hcz61_1, hcz61_2, hcz61_3, hcz61_4, hcz61_5, hfz61_0, hfz61_1, hfz61_2, hfz61_3, hfz61_4, hfz61_5⟩ := zc6 BK182) | ((with_reducible refine gate_callee (f := 23) rfl ?_); refine gl 6 Tryd.func23 #[.int .i64 a0_0] ?_; (with_reducible refine (spec_l1Alu.calls a0_0 false _ A2.out).mono ?_); rintro e w' ⟨rfl, ⟨nd, rfl⟩⟩; refine ⟨_, rfl, ?_⟩) | ((with_reducible refine gate_callee (f := 24) rfl ?_); refine gl 28 Tryd.func24 #[.int .i64 a0_0] ?_; (with_reducible refine (spec_l1Jump.calls a0_0 false _ A15.out).mono ?_); rintro e w' ⟨rfl, ⟨nd, rfl⟩⟩; refine ⟨_, rfl, ?_⟩))
         go_ret
         exact ⟨zR, zB⟩
      ·rw [if_neg c53] at H
       have c53b0 : decide (a0_2 < 0) = false := decide_eq_false c53
       clear c53
       by_cases c62 : a0_4 = 0
       ·rw [if_pos c62] at H
        have c62b0 : (a0_4 == 0) = true := beq_iff_eq.mpr c62
        have c62b1 : (a0_4 != 0) = false := bne_eq_false_iff_eq.mpr c62
        clear c62
        by_cases c63 : a0_5 = 1
        ·rw [if_pos c63] at H
         have c63b0 : (a0_5 == 1) = true := beq_iff_eq.mpr c63
         have c63b1 : (a0_5 != 1) = false := bne_eq_false_iff_eq.mpr c63
         clear c63
         obtain rfl := Option.some.inj H
         go_enter Tryd.func29, Tryd.ntmps29
         go_wp2_with (first | ((with_reducible refine gate_dst (N := 1) rfl ?_); refine be 1 #[.int .i64 a0_0, .int .i64 a0_1, .int .i64 a0_2, .int .i64 a0_3, .int .i64 a0_4, .int .i64 a0_5] 23 ?_; intro gb182 hg w64 hbox hb; have BK182 := Aside0.mk hbox; have GW182 := zW hg; replace HB := zS hb; have GE182 := GW182; clear hb hbox hg; obtain ⟨hcz65_0, hcz65_1, hcz65_2, hcz65_3, hcz65_4, hcz65_5, hfz65_0, hfz65_1, hfz65_2, hfz65_3, hfz65_4, hfz65_5⟩ := zc6 BK182) | ((with_reducible refine gate_callee (f := 23) rfl ?_); refine gl 6 Tryd.func23 #[.int .i64 a0_0] ?_; (with_reducible refine (spec_l1Alu.calls a0_0 false _ A2.out).mono ?_); rintro e w' ⟨rfl, ⟨nd, rfl⟩⟩; refine ⟨_, rfl, ?_⟩) | ((with_reducible refine gate_callee (f := 24) rfl ?_); refine gl 28 Tryd.func24 #[.int .i64 a0_0] ?_; (with_reducible refine (spec_l1Jump.calls a0_0 false _ A15.out).mono ?_); rintro e w' ⟨rfl, ⟨nd, rfl⟩⟩; refine ⟨_, rfl, ?_⟩))
         go_ret
         exact ⟨zR, zB⟩
        ·rw [if_neg c63] at H
         have c63b0 : (a0_5 == 1) = false := beq_eq_false_iff_ne.mpr c63
         have c63b1 : (a0_5 != 1) = true := bne_iff_ne.mpr c63
         by_cases c66 : a0_5 = 2
         ·rw [if_pos c66] at H
          have c66b0 : (a0_5 == 2) = true := beq_iff_eq.mpr c66
          have c66b1 : (a0_5 != 2) = false := bne_eq_false_iff_eq.mpr c66
          clear c66
          obtain rfl := Option.some.inj H
          go_enter Tryd.func29, Tryd.ntmps29
          go_wp2_with (first | ((with_reducible refine gate_dst (N := 1) rfl ?_); refine be 1 #[.int .i64 a0_0, .int .i64 a0_1, .int .i64 a0_2, .int .i64 a0_3, .int .i64 a0_4, .int .i64 a0_5] 23 ?_; intro gb182 hg w67 hbox hb; have BK182 := Aside0.mk hbox; have GW182 := zW hg; replace HB := zS hb; have GE182 := GW182; clear hb hbox hg; obtain ⟨hcz68_0, hcz68_1, hcz68_2, hcz68_3, hcz68_4, hcz68_5, hfz68_0, hfz68_1, hfz68_2, hfz68_3, hfz68_4, hfz68_5⟩ := zc6 BK182) | ((with_reducible refine gate_callee (f := 23) rfl ?_); refine gl 6 Tryd.func23 #[.int .i64 a0_0] ?_; (with_reducible refine (spec_l1Alu.calls a0_0 false _ A2.out).mono ?_); rintro e w' ⟨rfl, ⟨nd, rfl⟩⟩; refine ⟨_, rfl, ?_⟩) | ((with_reducible refine gate_callee (f := 24) rfl ?_); refine gl 28 Tryd.func24 #[.int .i64 a0_0] ?_; (with_reducible refine (spec_l1Jump.calls a0_0 false _ A15.out).mono ?_); rintro e w' ⟨rfl, ⟨nd, rfl⟩⟩; refine ⟨_, rfl, ?_⟩))
          go_ret
          exact ⟨zR, zB⟩
         ·rw [if_neg c66] at H
          have c66b0 : (a0_5 == 2) = false := beq_eq_false_iff_ne.mpr c66
          have c66b1 : (a0_5 != 2) = true := bne_iff_ne.mpr c66
          obtain rfl := Option.some.inj H
          go_enter Tryd.func29, Tryd.ntmps29
          go_wp2_with (first | ((with_reducible refine gate_dst (N := 1) rfl ?_); refine be 1 #[.int .i64 a0_0, .int .i64 a0_1, .int .i64 a0_2, .int .i64 a0_3, .int .i64 a0_4, .int .i64 a0_5] 23 ?_; intro gb182 hg w69 hbox hb; have BK182 := Aside0.mk hbox; have GW182 := zW hg; replace HB := zS hb; have GE182 := GW182; clear hb hbox hg; obtain ⟨hcz70_0, hcz70_1, hcz70_2, hcz70_3, hcz70_4, hcz70_5, hfz70_0, hfz70_1, hfz70_2, hfz70_3, hfz70_4, hfz70_5⟩ := zc6 BK182) | ((with_reducible refine gate_callee (f := 23) rfl ?_); refine gl 6 Tryd.func23 #[.int .i64 a0_0] ?_; (with_reducible refine (spec_l1Alu.calls a0_0 false _ A2.out).mono ?_); rintro e w' ⟨rfl, ⟨nd, rfl⟩⟩; refine ⟨_, rfl, ?_⟩) | ((with_reducible refine gate_callee (f := 24) rfl ?_); refine gl 28 Tryd.func24 #[.int .i64 a0_0] ?_; (with_reducible refine (spec_l1Jump.calls a0_0 false _ A15.out).mono ?_); rintro e w' ⟨rfl, ⟨nd, rfl⟩⟩; refine ⟨_, rfl, ?_⟩))
          go_ret
          exact ⟨zR, zB⟩
       ·rw [if_neg c62] at H
        have c62b0 : (a0_4 == 0) = false := beq_eq_false_iff_ne.mpr c62
        have c62b1 : (a0_4 != 0) = true := bne_iff_ne.mpr c62
        obtain rfl := Option.some.inj H
        go_enter Tryd.func29, Tryd.ntmps29
        go_wp2_with (first | ((with_reducible refine gate_dst (N := 1) rfl ?_); refine be 1 #[.int .i64 a0_0, .int .i64 a0_1, .int .i64 a0_2, .int .i64 a0_3, .int .i64 a0_4, .int .i64 a0_5] 23 ?_; intro gb182 hg w71 hbox hb; have BK182 := Aside0.mk hbox; have GW182 := zW hg; replace HB := zS hb; have GE182 := GW182; clear hb hbox hg; obtain ⟨hcz72_0, hcz72_1, hcz72_2, hcz72_3, hcz72_4, hcz72_5, hfz72_0, hfz72_1, hfz72_2, hfz72_3, hfz72_4, hfz72_5⟩ := zc6 BK182) | ((with_reducible refine gate_callee (f := 23) rfl ?_); refine gl 6 Tryd.func23 #[.int .i64 a0_0] ?_; (with_reducible refine (spec_l1Alu.calls a0_0 false _ A2.out).mono ?_); rintro e w' ⟨rfl, ⟨nd, rfl⟩⟩; refine ⟨_, rfl, ?_⟩) | ((with_reducible refine gate_callee (f := 24) rfl ?_); refine gl 28 Tryd.func24 #[.int .i64 a0_0] ?_; (with_reducible refine (spec_l1Jump.calls a0_0 false _ A15.out).mono ?_); rintro e w' ⟨rfl, ⟨nd, rfl⟩⟩; refine ⟨_, rfl, ?_⟩))
        go_ret
        exact ⟨zR, zB⟩
     ·rw [if_neg c52] at H
      have c52b0 : (a0_0 == 18) = false := beq_eq_false_iff_ne.mpr c52
      have c52b1 : (a0_0 != 18) = true := bne_iff_ne.mpr c52
      by_cases c73 : a0_0 = 19
      ·rw [if_pos c73] at H
       have c73b0 : (a0_0 == 19) = true := beq_iff_eq.mpr c73
       have c73b1 : (a0_0 != 19) = false := bne_eq_false_iff_eq.mpr c73
       clear c73
       by_cases c74 : a0_1 = 0
       ·rw [if_pos c74] at H
        have c74b0 : (a0_1 == 0) = true := beq_iff_eq.mpr c74
        have c74b1 : (a0_1 != 0) = false := bne_eq_false_iff_eq.mpr c74
        clear c74
        by_cases c75 : a0_2 = (-1)
        ·rw [if_pos c75] at H
         have c75b0 : (a0_2 == (-1)) = true := beq_iff_eq.mpr c75
         have c75b1 : (a0_2 != (-1)) = false := bne_eq_false_iff_eq.mpr c75
         clear c75
         by_cases c76 : a0_3 = 0
         ·rw [if_pos c76] at H
          have c76b0 : (a0_3 == 0) = true := beq_iff_eq.mpr c76
          have c76b1 : (a0_3 != 0) = false := bne_eq_false_iff_eq.mpr c76
          clear c76
          by_cases c77 : a0_5 = 0
          ·rw [if_pos c77] at H
           have c77b0 : (a0_5 == 0) = true := beq_iff_eq.mpr c77
           have c77b1 : (a0_5 != 0) = false := bne_eq_false_iff_eq.mpr c77
           clear c77
           replace H := Option.bind_eq_some_iff.mp H
           obtain ⟨t185, A780, H⟩ := H
           try dsimp only at H
           have A78 := Aside0.mk A780
           clear A780
           obtain rfl := Option.some.inj H
           go_enter Tryd.func29, Tryd.ntmps29
           go_wp2_with (first | ((with_reducible refine gate_dst (N := 1) rfl ?_); refine be 1 #[.int .i64 a0_0, .int .i64 a0_1, .int .i64 a0_2, .int .i64 a0_3, .int .i64 a0_4, .int .i64 a0_5] 23 ?_; intro gb182 hg w79 hbox hb; have BK182 := Aside0.mk hbox; have GW182 := zW hg; replace HB := zS hb; have GE182 := GW182; clear hb hbox hg; obtain ⟨hcz80_0, hcz80_1, hcz80_2, hcz80_3, hcz80_4, hcz80_5, hfz80_0, hfz80_1, hfz80_2, hfz80_3, hfz80_4, hfz80_5⟩ := zc6 BK182) | ((with_reducible refine gate_callee (f := 23) rfl ?_); refine gl 6 Tryd.func23 #[.int .i64 a0_0] ?_; (with_reducible refine (spec_l1Alu.calls a0_0 false _ A2.out).mono ?_); rintro e w' ⟨rfl, ⟨nd, rfl⟩⟩; refine ⟨_, rfl, ?_⟩) | ((with_reducible refine gate_callee (f := 24) rfl ?_); refine gl 28 Tryd.func24 #[.int .i64 a0_0] ?_; (with_reducible refine (spec_l1Jump.calls a0_0 false _ A15.out).mono ?_); rintro e w' ⟨rfl, ⟨nd, rfl⟩⟩; refine ⟨_, rfl, ?_⟩) | (go_at_call 28; (with_reducible refine (spec_l1In.calls a0_4 1 6 t185 _ A78.out).mono ?_); rintro e w' ⟨rfl, ⟨nd, rfl⟩⟩))
           go_ret
           exact ⟨zR, zB⟩
          ·rw [if_neg c77] at H
           have c77b0 : (a0_5 == 0) = false := beq_eq_false_iff_ne.mpr c77
           have c77b1 : (a0_5 != 0) = true := bne_iff_ne.mpr c77
           obtain rfl := Option.some.inj H
           go_enter Tryd.func29, Tryd.ntmps29
           go_wp2_with (first | ((with_reducible refine gate_dst (N := 1) rfl ?_); refine be 1 #[.int .i64 a0_0, .int .i64 a0_1, .int .i64 a0_2, .int .i64 a0_3, .int .i64 a0_4, .int .i64 a0_5] 23 ?_; intro gb182 hg w81 hbox hb; have BK182 := Aside0.mk hbox; have GW182 := zW hg; replace HB := zS hb; have GE182 := GW182; clear hb hbox hg; obtain ⟨hcz82_0, hcz82_1, hcz82_2, hcz82_3, hcz82_4, hcz82_5, hfz82_0, hfz82_1, hfz82_2, hfz82_3, hfz82_4, hfz82_5⟩ := zc6 BK182) | ((with_reducible refine gate_callee (f := 23) rfl ?_); refine gl 6 Tryd.func23 #[.int .i64 a0_0] ?_; (with_reducible refine (spec_l1Alu.calls a0_0 false _ A2.out).mono ?_); rintro e w' ⟨rfl, ⟨nd, rfl⟩⟩; refine ⟨_, rfl, ?_⟩) | ((with_reducible refine gate_callee (f := 24) rfl ?_); refine gl 28 Tryd.func24 #[.int .i64 a0_0] ?_; (with_reducible refine (spec_l1Jump.calls a0_0 false _ A15.out).mono ?_); rintro e w' ⟨rfl, ⟨nd, rfl⟩⟩; refine ⟨_, rfl, ?_⟩))
           go_ret
           exact ⟨zR, zB⟩
         ·rw [if_neg c76] at H
          have c76b0 : (a0_3 == 0) = false := beq_eq_false_iff_ne.mpr c76
          have c76b1 : (a0_3 != 0) = true := bne_iff_ne.mpr c76
          obtain rfl := Option.some.inj H
          go_enter Tryd.func29, Tryd.ntmps29
          go_wp2_with (first | ((with_reducible refine gate_dst (N := 1) rfl ?_); refine be 1 #[.int .i64 a0_0, .int .i64 a0_1, .int .i64 a0_2, .int .i64 a0_3, .int .i64 a0_4, .int .i64 a0_5] 23 ?_; intro gb182 hg w83 hbox hb; have BK182 := Aside0.mk hbox; have GW182 := zW hg; replace HB := zS hb; have GE182 := GW182; clear hb hbox hg; obtain ⟨hcz84_0, hcz84_1, hcz84_2, hcz84_3, hcz84_4, hcz84_5, hfz84_0, hfz84_1, hfz84_2, hfz84_3, hfz84_4, hfz84_5⟩ := zc6 BK182) | ((with_reducible refine gate_callee (f := 23) rfl ?_); refine gl 6 Tryd.func23 #[.int .i64 a0_0] ?_; (with_reducible refine (spec_l1Alu.calls a0_0 false _ A2.out).mono ?_); rintro e w' ⟨rfl, ⟨nd, rfl⟩⟩; refine ⟨_, rfl, ?_⟩) | ((with_reducible refine gate_callee (f := 24) rfl ?_); refine gl 28 Tryd.func24 #[.int .i64 a0_0] ?_; (with_reducible refine (spec_l1Jump.calls a0_0 false _ A15.out).mono ?_); rintro e w' ⟨rfl, ⟨nd, rfl⟩⟩; refine ⟨_, rfl, ?_⟩))
          go_ret
          exact ⟨zR, zB⟩
        ·rw [if_neg c75] at H
         have c75b0 : (a0_2 == (-1)) = false := beq_eq_false_iff_ne.mpr c75
         have c75b1 : (a0_2 != (-1)) = true := bne_iff_ne.mpr c75
         obtain rfl := Option.some.inj H
         go_enter Tryd.func29, Tryd.ntmps29
         go_wp2_with (first | ((with_reducible refine gate_dst (N := 1) rfl ?_); refine be 1 #[.int .i64 a0_0, .int .i64 a0_1, .int .i64 a0_2, .int .i64 a0_3, .int .i64 a0_4, .int .i64 a0_5] 23 ?_; intro gb182 hg w85 hbox hb; have BK182 := Aside0.mk hbox; have GW182 := zW hg; replace HB := zS hb; have GE182 := GW182; clear hb hbox hg; obtain ⟨hcz86_0, hcz86_1, hcz86_2, hcz86_3, hcz86_4, hcz86_5, hfz86_0, hfz86_1, hfz86_2, hfz86_3, hfz86_4, hfz86_5⟩ := zc6 BK182) | ((with_reducible refine gate_callee (f := 23) rfl ?_); refine gl 6 Tryd.func23 #[.int .i64 a0_0] ?_; (with_reducible refine (spec_l1Alu.calls a0_0 false _ A2.out).mono ?_); rintro e w' ⟨rfl, ⟨nd, rfl⟩⟩; refine ⟨_, rfl, ?_⟩) | ((with_reducible refine gate_callee (f := 24) rfl ?_); refine gl 28 Tryd.func24 #[.int .i64 a0_0] ?_; (with_reducible refine (spec_l1Jump.calls a0_0 false _ A15.out).mono ?_); rintro e w' ⟨rfl, ⟨nd, rfl⟩⟩; refine ⟨_, rfl, ?_⟩))
         go_ret
         exact ⟨zR, zB⟩
       ·rw [if_neg c74] at H
        have c74b0 : (a0_1 == 0) = false := beq_eq_false_iff_ne.mpr c74
        have c74b1 : (a0_1 != 0) = true := bne_iff_ne.mpr c74
        obtain rfl := Option.some.inj H
        go_enter Tryd.func29, Tryd.ntmps29
        go_wp2_with (first | ((with_reducible refine gate_dst (N := 1) rfl ?_); refine be 1 #[.int .i64 a0_0, .int .i64 a0_1, .int .i64 a0_2, .int .i64 a0_3, .int .i64 a0_4, .int .i64 a0_5] 23 ?_; intro gb182 hg w87 hbox hb; have BK182 := Aside0.mk hbox; have GW182 := zW hg; replace HB := zS hb; have GE182 := GW182; clear hb hbox hg; obtain ⟨hcz88_0, hcz88_1, hcz88_2, hcz88_3, hcz88_4, hcz88_5, hfz88_0, hfz88_1, hfz88_2, hfz88_3, hfz88_4, hfz88_5⟩ := zc6 BK182) | ((with_reducible refine gate_callee (f := 23) rfl ?_); refine gl 6 Tryd.func23 #[.int .i64 a0_0] ?_; (with_reducible refine (spec_l1Alu.calls a0_0 false _ A2.out).mono ?_); rintro e w' ⟨rfl, ⟨nd, rfl⟩⟩; refine ⟨_, rfl, ?_⟩) | ((with_reducible refine gate_callee (f := 24) rfl ?_); refine gl 28 Tryd.func24 #[.int .i64 a0_0] ?_; (with_reducible refine (spec_l1Jump.calls a0_0 false _ A15.out).mono ?_); rintro e w' ⟨rfl, ⟨nd, rfl⟩⟩; refine ⟨_, rfl, ?_⟩))
        go_ret
        exact ⟨zR, zB⟩
      ·rw [if_neg c73] at H
       have c73b0 : (a0_0 == 19) = false := beq_eq_false_iff_ne.mpr c73
       have c73b1 : (a0_0 != 19) = true := bne_iff_ne.mpr c73
       by_cases c89 : a0_0 = 20
       ·rw [if_pos c89] at H
        have c89b0 : (a0_0 == 20) = true := beq_iff_eq.mpr c89
        have c89b1 : (a0_0 != 20) = false := bne_eq_false_iff_eq.mpr c89
        clear c89
        obtain rfl := Option.some.inj H
        go_enter Tryd.func29, Tryd.ntmps29
        go_wp2_with (first | ((with_reducible refine gate_dst (N := 1) rfl ?_); refine be 1 #[.int .i64 a0_0, .int .i64 a0_1, .int .i64 a0_2, .int .i64 a0_3, .int .i64 a0_4, .int .i64 a0_5] 23 ?_; intro gb182 hg w90 hbox hb; have BK182 := Aside0.mk hbox; have GW182 := zW hg; replace HB := zS hb; have GE182 := GW182; clear hb hbox hg; obtain ⟨hcz91_0, hcz91_1, hcz91_2, hcz91_3, hcz91_4, hcz91_5, hfz91_0, hfz91_1, hfz91_2, hfz91_3, hfz91_4, hfz91_5⟩ := zc6 BK182) | ((with_reducible refine gate_callee (f := 23) rfl ?_); refine gl 6 Tryd.func23 #[.int .i64 a0_0] ?_; (with_reducible refine (spec_l1Alu.calls a0_0 false _ A2.out).mono ?_); rintro e w' ⟨rfl, ⟨nd, rfl⟩⟩; refine ⟨_, rfl, ?_⟩) | ((with_reducible refine gate_callee (f := 24) rfl ?_); refine gl 28 Tryd.func24 #[.int .i64 a0_0] ?_; (with_reducible refine (spec_l1Jump.calls a0_0 false _ A15.out).mono ?_); rintro e w' ⟨rfl, ⟨nd, rfl⟩⟩; refine ⟨_, rfl, ?_⟩))
        go_ret
        exact ⟨zR, zB⟩
       ·rw [if_neg c89] at H
        have c89b0 : (a0_0 == 20) = false := beq_eq_false_iff_ne.mpr c89
        have c89b1 : (a0_0 != 20) = true := bne_iff_ne.mpr c89
        obtain rfl := Option.some.inj H
        go_enter Tryd.func29, Tryd.ntmps29
        go_wp2_with (first | ((with_reducible refine gate_dst (N := 1) rfl ?_); refine be 1 #[.int .i64 a0_0, .int .i64 a0_1, .int .i64 a0_2, .int .i64 a0_3, .int .i64 a0_4, .int .i64 a0_5] 23 ?_; intro gb182 hg w92 hbox hb; have BK182 := Aside0.mk hbox; have GW182 := zW hg; replace HB := zS hb; have GE182 := GW182; clear hb hbox hg; obtain ⟨hcz93_0, hcz93_1, hcz93_2, hcz93_3, hcz93_4, hcz93_5, hfz93_0, hfz93_1, hfz93_2, hfz93_3, hfz93_4, hfz93_5⟩ := zc6 BK182) | ((with_reducible refine gate_callee (f := 23) rfl ?_); refine gl 6 Tryd.func23 #[.int .i64 a0_0] ?_; (with_reducible refine (spec_l1Alu.calls a0_0 false _ A2.out).mono ?_); rintro e w' ⟨rfl, ⟨nd, rfl⟩⟩; refine ⟨_, rfl, ?_⟩) | ((with_reducible refine gate_callee (f := 24) rfl ?_); refine gl 28 Tryd.func24 #[.int .i64 a0_0] ?_; (with_reducible refine (spec_l1Jump.calls a0_0 false _ A15.out).mono ?_); rintro e w' ⟨rfl, ⟨nd, rfl⟩⟩; refine ⟨_, rfl, ?_⟩))
        go_ret
        exact ⟨zR, zB⟩

end Go.Proofs.YtllmbooicobmkaaDoor.Q
