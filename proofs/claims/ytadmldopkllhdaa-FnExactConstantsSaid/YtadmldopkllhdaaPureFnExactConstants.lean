/- The law FnExactConstants, as a statement about numbers and lists alone: the constants of the program are those of the reference. It holds at every input. -/
import Derived.Test.YtadmldopkllhdaaQ2
import Derived.Test.YtadmldopkllhdaaMath
namespace Go.Proofs.Ytadmldopkllhdaa.Pure
open Go Go.RowKit Go.Proofs.Ytadmldopkllhdaa.Q Go.Proofs.YtadmldopkllhdaaW.PrintWords Go.Proofs.YtadmldopkllhdaaW.PrintLast Go.Proofs.YtadmldopkllhdaaW.PrintMore Rg



theorem FnExactConstants : laws_FnExactConstants.Pure := by
  unfold laws_FnExactConstants.Pure
  rfl

end Go.Proofs.Ytadmldopkllhdaa.Pure
