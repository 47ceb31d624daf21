/- The law FnExactProgForm holds at every input: its row, out of its pure statement and the walk. -/
import Derived.Test.YtfpkjmmjaeieaaaRows
import Derived.Test.YtfpkjmmjaeieaaaQ15
import Derived.Test.YtfpkjmmjaeieaaaPureFnExactProgForm
import Derived.Test.YtfpkjmmjaeieaaaHandOpen
import Derived.WalkKit
import Derived.ProofKit
import Derived.OpenShut
import Derived.ShutString
import Derived.ChangeOld
import Derived.Below
import Derived.SizedLaws
import Derived.Carry
namespace Go.Proofs.Ytfpkjmmjaeieaaa.fnExactProgForm
open Go.ChangeShapes Go.WideShapes Go.ChangeAt Go.RowKit Go.Proofs.Ytfpkjmmjaeieaaa Go.Proofs.Ytfpkjmmjaeieaaa.Q Go.Proofs.YtfpkjmmjaeieaaaW.PrintWords Go.Proofs.YtfpkjmmjaeieaaaW.PrintLast Go.Proofs.YtfpkjmmjaeieaaaW.PrintMore
open Go.ChangeMaps (open_string shut_string)
set_option linter.unusedVariables false
theorem own : ownKnob Try.prog.godebug = none := by kernel_rfl
theorem laidOut : laidOutB Try.prog = true := by kernel_rfl
set_option maxRecDepth 100000 in
theorem lifted (os : Os) (started : os.Started) (H : Type) (enc : TypeId × Value → H) :
    ReturnsInHanded {} Try.checked os 6 .any (Rows.fnExactProgFormSpec.pre6 enc Try.prog Try.f6 Rows.fnExactProgFormRow.domain false) (Rows.fnExactProgFormSpec.post enc Try.prog Try.f6 false true false false) := by
  refine returnsInHanded_of_change_sized (C := Try.checked) own started (by kernel_rfl) Try.func6
    (ChangeSpec.witness6 (enc := enc) (C := Try.checked) false ⟨#[], #[.slice none 0 0], []⟩ 8 (by kernel_rfl) (by kernel_rfl) (by kernel_rfl) (by kernel_rfl)) ?_
  intro W base args ds gs before hval0 hW hcnd hsz0 _
  have hsz : (DataW.weightsEach Try.prog (Try.f6.params.toList ++ Rows.fnExactProgFormSpec.plain.varTypes Try.prog) (ds ++ gs)).all (· ≤ reachBytes) = true := hsz0
  have hval : ∀ (j : Nat) t v, Try.f6.params[j]? = some t → args[j]? = some v → Value.okWide Try.prog W .any base t v := hval0
  have hW' := hW
  obtain ⟨p, q, hA0, hV, rfl, hfz, hnd⟩ := hW
  have hA : DataW.TrodAll enc Try.prog W 0 (fun _ => true) true Try.f6.params.toList args.toList ds p := hA0
  rw [Try.params6] at hA hval hsz
  obtain ⟨v0, vs0, d0, ds0, p0, q0, hargs, rfl, rfl, h0, r0⟩ := trodAll_cons hA
  obtain ⟨rfl, rfl, rfl⟩ := trodAll_nil r0
  obtain rfl : args = #[v0] := by cases args; simp_all
  obtain ⟨rfl, rfl⟩ := trodVars_none hV
  have k0 := h0
  have lt0 : ∀ x ∈ p0, x.block < W.heap.size := by obtain ⟨m, hm⟩ := k0; exact DataW.trod_lt m _ _ _ hm
  obtain ⟨l0, A0, c0, rfl, hc0, hr0, w0⟩ := Open.arg_slice Try.underlying37 (Open.opens_slice z57 57 Try.underlying37 (by kernel_rfl) (Open.opens_struct Try.underlying57 (m := 6) (by kernel_rfl) (Open.opensF_cons (mid := 1) (Open.opens_int Try.underlying3) rfl (by kernel_rfl) (Open.opensF_cons (mid := 2) (Open.opens_int Try.underlying3) rfl (by kernel_rfl) (Open.opensF_cons (mid := 3) (Open.opens_int Try.underlying3) rfl (by kernel_rfl) (Open.opensF_cons (mid := 4) (Open.opens_int Try.underlying3) rfl (by kernel_rfl) (Open.opensF_cons (mid := 5) (Open.opens_int Try.underlying3) rfl (by kernel_rfl) (Open.opensF_one (Open.opens_int Try.underlying3) rfl (by kernel_rfl)) (by decide) (by decide)) (by decide) (by decide)) (by decide) (by decide)) (by decide) (by decide)) (by decide) (by decide)) (fun x => (x.f0, x.f1, x.f2, x.f3, x.f4, x.f5)) (fun x => (⟨x.1, x.2.1, x.2.2.1, x.2.2.2.1, x.2.2.2.2.1, x.2.2.2.2.2⟩ : S57)) (fun _ => rfl))) (hval 0 37 v0 rfl rfl) h0
  clear hA0 hval0 hsz0 hsz
  refine (Q.laws_FnExactProgForm.walk Pure.FnExactProgForm A0 c0 l0 W hr0 hc0 w0).mono fun e W' ⟨he, bel⟩ => ?_
  subst he
  exact ⟨_, rfl, _, _, _, [], _, [], hW', trodAll_mk1 (shut_bool Try.underlying4 _), (trodAll_cons_mk (Below.trod laidOut (by kernel_rfl) (of_decide_eq_true (by kernel_rfl)) k0 bel lt0) trodAll_mk0), rfl, bel.frame _, fun h => by cases h⟩
theorem over : Rows.fnExactProgFormRow.holds Try.pinned (OpenSpec.ofChange Rows.fnExactProgFormSpec) :=
  OpenClaim.holds_of_wide 6 Try.f6 rfl rfl rfl rfl rfl rfl rfl ⟨rfl, rfl, rfl, rfl, rfl⟩ rfl rfl rfl rfl rfl (by kernel_rfl) Try.func6 (by kernel_rfl)
    (of_decide_eq_true (by kernel_rfl)) (by unfold Func.isWrapper; first | (rw [if_pos (by decide +kernel)]; kernel_rfl) | (rw [if_neg (by decide +kernel)]; exact ⟨rfl, rfl⟩))
    (fun os started H enc _ => lifted os started H enc)
theorem proved : Rows.FnExactProgFormSaid := over
#print axioms proved
end Go.Proofs.Ytfpkjmmjaeieaaa.fnExactProgForm
namespace Go.Proofs.Ytfpkjmmjaeieaaa
/-- The row, under a short name, for the claim. -/
theorem fnExactProgForm_holds : Rows.FnExactProgFormSaid := fnExactProgForm.proved
end Go.Proofs.Ytfpkjmmjaeieaaa
