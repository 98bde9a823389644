/- The pure statement of FnExactVecOk, over whole numbers (and lists) alone, and the end of its walk; no condition of its own. -/
import Derived.Test.YtokbfpcooboedaaPFnExactVecOkx1
import Derived.Test.YtokbfpcooboedaaOpn
namespace Go.Proofs.Ytokbfpcooboedaa.PFnExactVecOk
open Go.RowKit Go.ChangeShapes Go.WideShapes Go.Deep Go.Proofs.YtokbfpcooboedaaW.PrintWords Go.Proofs.YtokbfpcooboedaaW.PrintLast Go.Proofs.YtokbfpcooboedaaW.PrintMore
set_option linter.unusedVariables false
def laws_FnExactVecOk.Pure : Prop := ∀ (a0_0 a0_1 : Int), (Lit.int .i64 a0_0).wf = true → (Lit.int .i64 a0_1).wf = true → laws_FnExactVecOk.f a0_0 a0_1 = some true
theorem laws_FnExactVecOk.walk (P : laws_FnExactVecOk.Pure) (a0_0 a0_1 : Int) (w : World) (w_a0_0 : (Lit.int .i64 a0_0).wf = true) (w_a0_1 : (Lit.int .i64 a0_1).wf = true) :
    Calls Try.prog 5 #[.agg #[.int .i64 a0_0, .int .i64 a0_1]] w fun e w' => e = .returned (.bool true) ∧ Below w.heap.size w w' := by
  have h := P a0_0 a0_1 w_a0_0 w_a0_1
  refine (laws_FnExactVecOk.calls a0_0 a0_1 true w h).mono ?_
  rintro e w' ⟨rfl, hd⟩
  exact ⟨rfl, hd⟩
end Go.Proofs.Ytokbfpcooboedaa.PFnExactVecOk
