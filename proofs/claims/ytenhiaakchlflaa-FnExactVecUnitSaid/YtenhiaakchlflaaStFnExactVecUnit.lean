/- The pure statement of FnExactVecUnit, over whole numbers (and lists) alone, and the end of its walk; no condition of its own. -/
import Derived.Test.YtenhiaakchlflaaPFnExactVecUnitx2
import Derived.Test.YtenhiaakchlflaaOpn
namespace Go.Proofs.Ytenhiaakchlflaa.PFnExactVecUnit
open Go.RowKit Go.ChangeShapes Go.WideShapes Go.Deep Go.Proofs.YtenhiaakchlflaaW.PrintWords Go.Proofs.YtenhiaakchlflaaW.PrintLast Go.Proofs.YtenhiaakchlflaaW.PrintMore
set_option linter.unusedVariables false
def laws_FnExactVecUnit.Pure : Prop := ∀ (a0_0 a0_1 : Int), (Lit.int .i64 a0_0).wf = true → (Lit.int .i64 a0_1).wf = true → ∃ k, laws_FnExactVecUnit.f k a0_0 a0_1 = some true
theorem laws_FnExactVecUnit.walk (P : laws_FnExactVecUnit.Pure) (a0_0 a0_1 : Int) (w : World) (w_a0_0 : (Lit.int .i64 a0_0).wf = true) (w_a0_1 : (Lit.int .i64 a0_1).wf = true) :
    Calls Try.prog 8 #[.agg #[.int .i64 a0_0, .int .i64 a0_1]] w fun e w' => e = .returned (.bool true) ∧ Below w.heap.size w w' := by
  obtain ⟨k, h⟩ := P a0_0 a0_1 w_a0_0 w_a0_1
  refine (laws_FnExactVecUnit.calls k a0_0 a0_1 true w h).mono ?_
  rintro e w' ⟨rfl, hd⟩
  exact ⟨rfl, hd⟩
end Go.Proofs.Ytenhiaakchlflaa.PFnExactVecUnit
