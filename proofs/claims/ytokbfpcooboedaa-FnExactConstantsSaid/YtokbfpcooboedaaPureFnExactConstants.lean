/- FnExactConstants: what the program computes is what the reference computes, or has the law's properties, at all whole numbers and lists that the statement lets in; no further condition. -/
import Derived.Test.YtokbfpcooboedaaPFnExactConstantsx1
import Derived.Test.YtokbfpcooboedaaMath
namespace Go.Proofs.Ytokbfpcooboedaa.Pure
open Go.RowKit Go.Proofs.Ytokbfpcooboedaa.PFnExactConstants Go.Proofs.YtokbfpcooboedaaW.PrintWords Go.Proofs.YtokbfpcooboedaaW.PrintLast Go.Proofs.YtokbfpcooboedaaW.PrintMore Go.Proofs.Ytokbfpcooboedaa.Math
set_option linter.unusedVariables false
set_option linter.unusedSimpArgs false

theorem FnExactConstants : laws_FnExactConstants.Pure := by
  unfold laws_FnExactConstants.Pure laws_FnExactConstants.f
  first | rfl | simp

end Go.Proofs.Ytokbfpcooboedaa.Pure
