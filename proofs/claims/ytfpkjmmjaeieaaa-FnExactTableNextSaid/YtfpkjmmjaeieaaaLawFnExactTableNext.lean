/- The law FnExactTableNext holds at every input: its row, out of its pure statement and the walk. -/
import Derived.Test.YtfpkjmmjaeieaaaRows
import Derived.Test.YtfpkjmmjaeieaaaQ10
import Derived.Test.YtfpkjmmjaeieaaaPureFnExactTableNext
import Derived.Test.YtfpkjmmjaeieaaaHandOpen
import Derived.WalkKit
import Derived.ProofKit
import Derived.OpenShut
import Derived.ShutString
import Derived.ChangeOld
import Derived.Below
import Derived.SizedLaws
import Derived.Carry
namespace Go.Proofs.Ytfpkjmmjaeieaaa.fnExactTableNext
open Go.ChangeShapes Go.WideShapes Go.ChangeAt Go.RowKit Go.Proofs.Ytfpkjmmjaeieaaa Go.Proofs.Ytfpkjmmjaeieaaa.Q Go.Proofs.YtfpkjmmjaeieaaaW.PrintWords Go.Proofs.YtfpkjmmjaeieaaaW.PrintLast Go.Proofs.YtfpkjmmjaeieaaaW.PrintMore
open Go.ChangeMaps (open_string shut_string)
set_option linter.unusedVariables false
theorem own : ownKnob Try.prog.godebug = none := by kernel_rfl
theorem laidOut : laidOutB Try.prog = true := by kernel_rfl
set_option maxRecDepth 100000 in
theorem lifted (os : Os) (started : os.Started) (H : Type) (enc : TypeId × Value → H) :
    ReturnsInHanded {} Try.checked os 5 .any (Rows.fnExactTableNextSpec.pre6 enc Try.prog Try.f5 Rows.fnExactTableNextRow.domain false) (Rows.fnExactTableNextSpec.post enc Try.prog Try.f5 false true false false) := by
  refine returnsInHanded_of_change_sized (C := Try.checked) own started (by kernel_rfl) Try.func5
    (ChangeSpec.witness6 (enc := enc) (C := Try.checked) false ⟨#[], #[.agg #[.int .i64 0, .int .i64 0, .int .i64 0, .slice none 0 0, .slice none 0 0], .int .i64 0], []⟩ 8 (by kernel_rfl) (by kernel_rfl) (by kernel_rfl) (by kernel_rfl)) ?_
  intro W base args ds gs before hval0 hW hcnd hsz0 _
  have hsz : (DataW.weightsEach Try.prog (Try.f5.params.toList ++ Rows.fnExactTableNextSpec.plain.varTypes Try.prog) (ds ++ gs)).all (· ≤ reachBytes) = true := hsz0
  have hval : ∀ (j : Nat) t v, Try.f5.params[j]? = some t → args[j]? = some v → Value.okWide Try.prog W .any base t v := hval0
  have hW' := hW
  obtain ⟨p, q, hA0, hV, rfl, hfz, hnd⟩ := hW
  have hA : DataW.TrodAll enc Try.prog W 0 (fun _ => true) true Try.f5.params.toList args.toList ds p := hA0
  rw [Try.params5] at hA hval hsz
  obtain ⟨v0, vs0, d0, ds0, p0, q0, hargs, rfl, rfl, h0, r0⟩ := trodAll_cons hA
  obtain ⟨v1, vs1, d1, ds1, p1, q1, rfl, rfl, rfl, h1, r1⟩ := trodAll_cons r0
  obtain ⟨rfl, rfl, rfl⟩ := trodAll_nil r1
  obtain rfl : args = #[v0, v1] := by cases args; simp_all
  obtain ⟨rfl, rfl⟩ := trodVars_none hV
  have k0 := h0
  have lt0 : ∀ x ∈ p0, x.block < W.heap.size := by obtain ⟨m, hm⟩ := k0; exact DataW.trod_lt m _ _ _ hm
  obtain ⟨⟨a0_0, a0_1, a0_2, l0_3, l0_4⟩, cs0, rfl, hK0, hg0⟩ := Open.arg_struct Try.underlying25 (Open.opens_tuple Try.underlying25 (m := 5) (by kernel_rfl) (Open.opensF_cons (mid := 1) (Open.opens_int Try.underlying3) rfl (by kernel_rfl) (Open.opensF_cons (mid := 2) (Open.opens_int Try.underlying3) rfl (by kernel_rfl) (Open.opensF_cons (mid := 3) (Open.opens_int Try.underlying3) rfl (by kernel_rfl) (Open.opensF_cons (mid := 4) (Open.opens_slice (0 : Int) 3 Try.underlying22 (by kernel_rfl) (Open.opens_int Try.underlying3)) rfl (by kernel_rfl) (Open.opensF_one (Open.opens_slice (⟨#[]⟩ : ByteArray) 9 Try.underlying23 (by kernel_rfl) (Open.opens_string Try.underlying9)) rfl (by kernel_rfl)) (by decide) (by decide)) (by decide) (by decide)) (by decide) (by decide)) (by decide) (by decide))) (hval 0 25 v0 rfl rfl) h0
  obtain ⟨_, _, rfl, rfl, ⟨_, _, rfl, rfl, ⟨_, _, rfl, rfl, ⟨_, _, rfl, ⟨A0_3, c0_3, rfl, hc0_3, hr0_3⟩, ⟨A0_4, c0_4, rfl, hc0_4, hr0_4⟩⟩⟩⟩⟩ := hK0
  obtain ⟨w0_0, w0_1, w0_2, w0_3, w0_4⟩ := hg0
  obtain ⟨a1, rfl, rfl, rfl, w1⟩ := open_int Try.underlying3 (hval 1 3 v1 rfl rfl) h1
  clear hA0 hval0 hsz0 hsz
  refine (Q.laws_FnExactTableNext.walk Pure.FnExactTableNext a0_0 a0_1 a0_2 A0_3 c0_3 l0_3 A0_4 c0_4 l0_4 a1 W w0_0 w0_1 w0_2 hr0_3 hc0_3 w0_3 hr0_4 hc0_4 w0_4 w1).mono fun e W' ⟨he, bel⟩ => ?_
  subst he
  exact ⟨_, rfl, _, _, _, [], _, [], hW', trodAll_mk1 (shut_bool Try.underlying4 _), (trodAll_cons_mk (Below.trod laidOut (by kernel_rfl) (of_decide_eq_true (by kernel_rfl)) k0 bel lt0) (trodAll_cons_mk (shut_int Try.underlying3 w1) trodAll_mk0)), rfl, bel.frame _, fun h => by cases h⟩
theorem over : Rows.fnExactTableNextRow.holds Try.pinned (OpenSpec.ofChange Rows.fnExactTableNextSpec) :=
  OpenClaim.holds_of_wide 5 Try.f5 rfl rfl rfl rfl rfl rfl rfl ⟨rfl, rfl, rfl, rfl, rfl⟩ rfl rfl rfl rfl rfl (by kernel_rfl) Try.func5 (by kernel_rfl)
    (of_decide_eq_true (by kernel_rfl)) (by unfold Func.isWrapper; first | (rw [if_pos (by decide +kernel)]; kernel_rfl) | (rw [if_neg (by decide +kernel)]; exact ⟨rfl, rfl⟩))
    (fun os started H enc _ => lifted os started H enc)
theorem proved : Rows.FnExactTableNextSaid := over
#print axioms proved
end Go.Proofs.Ytfpkjmmjaeieaaa.fnExactTableNext
namespace Go.Proofs.Ytfpkjmmjaeieaaa
/-- The row, under a short name, for the claim. -/
theorem fnExactTableNext_holds : Rows.FnExactTableNextSaid := fnExactTableNext.proved
end Go.Proofs.Ytfpkjmmjaeieaaa
