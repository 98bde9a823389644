/- The pure statement of FnExactVecMul, over whole numbers (and lists) alone, and the end of its walk; no condition of its own. -/
import Derived.Test.YtokbfpcooboedaaPFnExactVecMulx1
import Derived.Test.YtokbfpcooboedaaOpn
namespace Go.Proofs.Ytokbfpcooboedaa.PFnExactVecMul
open Go.RowKit Go.ChangeShapes Go.WideShapes Go.Deep Go.Proofs.YtokbfpcooboedaaW.PrintWords Go.Proofs.YtokbfpcooboedaaW.PrintLast Go.Proofs.YtokbfpcooboedaaW.PrintMore
set_option linter.unusedVariables false
def laws_FnExactVecMul.Pure : Prop := ∀ (a0_0 a0_1 : Int) (a1 : Int), (Lit.int .i64 a0_0).wf = true → (Lit.int .i64 a0_1).wf = true → (Lit.int .i64 a1).wf = true → laws_FnExactVecMul.f a0_0 a0_1 a1 = some true
theorem laws_FnExactVecMul.walk (P : laws_FnExactVecMul.Pure) (a0_0 a0_1 : Int) (a1 : Int) (w : World) (w_a0_0 : (Lit.int .i64 a0_0).wf = true) (w_a0_1 : (Lit.int .i64 a0_1).wf = true) (w1 : (Lit.int .i64 a1).wf = true) :
    Calls Try.prog 12 #[.agg #[.int .i64 a0_0, .int .i64 a0_1], .int .i64 a1] w fun e w' => e = .returned (.bool true) ∧ Below w.heap.size w w' := by
  have h := P a0_0 a0_1 a1 w_a0_0 w_a0_1 w1
  refine (laws_FnExactVecMul.calls a0_0 a0_1 a1 true w h).mono ?_
  rintro e w' ⟨rfl, hd⟩
  exact ⟨rfl, hd⟩
end Go.Proofs.Ytokbfpcooboedaa.PFnExactVecMul
