/- The pure statement of FnExactShapeBounds, over whole numbers (and lists) alone, and the end of its walk; no condition of its own. -/
import Derived.Test.YtenhiaakchlflaaPFnExactShapeBoundsx3
import Derived.Test.YtenhiaakchlflaaOpn
namespace Go.Proofs.Ytenhiaakchlflaa.PFnExactShapeBounds
open Go.RowKit Go.ChangeShapes Go.WideShapes Go.Deep Go.Proofs.YtenhiaakchlflaaW.PrintWords Go.Proofs.YtenhiaakchlflaaW.PrintLast Go.Proofs.YtenhiaakchlflaaW.PrintMore
set_option linter.unusedVariables false
def laws_FnExactShapeBounds.Pure : Prop := ∀ (a0_0 a0_1 a0_2 : Int) (a1_0 a1_1 : Int), (Lit.int .i64 a0_0).wf = true → (Lit.int .i64 a0_1).wf = true → (Lit.int .i64 a0_2).wf = true → (Lit.int .i64 a1_0).wf = true → (Lit.int .i64 a1_1).wf = true → laws_FnExactShapeBounds.f a0_0 a0_1 a0_2 a1_0 a1_1 = some true
theorem laws_FnExactShapeBounds.walk (P : laws_FnExactShapeBounds.Pure) (a0_0 a0_1 a0_2 : Int) (a1_0 a1_1 : Int) (w : World) (w_a0_0 : (Lit.int .i64 a0_0).wf = true) (w_a0_1 : (Lit.int .i64 a0_1).wf = true) (w_a0_2 : (Lit.int .i64 a0_2).wf = true) (w_a1_0 : (Lit.int .i64 a1_0).wf = true) (w_a1_1 : (Lit.int .i64 a1_1).wf = true) :
    Calls Try.prog 9 #[.agg #[.int .i64 a0_0, .int .i64 a0_1, .int .i64 a0_2], .agg #[.int .i64 a1_0, .int .i64 a1_1]] w fun e w' => e = .returned (.bool true) ∧ Below w.heap.size w w' := by
  have h := P a0_0 a0_1 a0_2 a1_0 a1_1 w_a0_0 w_a0_1 w_a0_2 w_a1_0 w_a1_1
  refine (laws_FnExactShapeBounds.calls a0_0 a0_1 a0_2 a1_0 a1_1 true w h).mono ?_
  rintro e w' ⟨rfl, hd⟩
  exact ⟨rfl, hd⟩
end Go.Proofs.Ytenhiaakchlflaa.PFnExactShapeBounds
