/- The pure statement of FnExactShapeOk, over whole numbers (and lists) alone, and the end of its walk; no condition of its own. -/
import Derived.Test.YtokbfpcooboedaaPFnExactShapeOkx1
import Derived.Test.YtokbfpcooboedaaOpn
namespace Go.Proofs.Ytokbfpcooboedaa.PFnExactShapeOk
open Go.RowKit Go.ChangeShapes Go.WideShapes Go.Deep Go.Proofs.YtokbfpcooboedaaW.PrintWords Go.Proofs.YtokbfpcooboedaaW.PrintLast Go.Proofs.YtokbfpcooboedaaW.PrintMore
set_option linter.unusedVariables false
def laws_FnExactShapeOk.Pure : Prop := ∀ (a0_0 a0_1 a0_2 : Int), (Lit.int .i64 a0_0).wf = true → (Lit.int .i64 a0_1).wf = true → (Lit.int .i64 a0_2).wf = true → laws_FnExactShapeOk.f a0_0 a0_1 a0_2 = some true
theorem laws_FnExactShapeOk.walk (P : laws_FnExactShapeOk.Pure) (a0_0 a0_1 a0_2 : Int) (w : World) (w_a0_0 : (Lit.int .i64 a0_0).wf = true) (w_a0_1 : (Lit.int .i64 a0_1).wf = true) (w_a0_2 : (Lit.int .i64 a0_2).wf = true) :
    Calls Try.prog 8 #[.agg #[.int .i64 a0_0, .int .i64 a0_1, .int .i64 a0_2]] w fun e w' => e = .returned (.bool true) ∧ Below w.heap.size w w' := by
  have h := P a0_0 a0_1 a0_2 w_a0_0 w_a0_1 w_a0_2
  refine (laws_FnExactShapeOk.calls a0_0 a0_1 a0_2 true w h).mono ?_
  rintro e w' ⟨rfl, hd⟩
  exact ⟨rfl, hd⟩
end Go.Proofs.Ytokbfpcooboedaa.PFnExactShapeOk
