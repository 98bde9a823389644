/- The pure statement of FnExactBoxOk, over whole numbers (and lists) alone, and the end of its walk; no condition of its own. -/
import Derived.Test.YtokbfpcooboedaaPFnExactBoxOkx1
import Derived.Test.YtokbfpcooboedaaOpn
namespace Go.Proofs.Ytokbfpcooboedaa.PFnExactBoxOk
open Go.RowKit Go.ChangeShapes Go.WideShapes Go.Deep Go.Proofs.YtokbfpcooboedaaW.PrintWords Go.Proofs.YtokbfpcooboedaaW.PrintLast Go.Proofs.YtokbfpcooboedaaW.PrintMore
set_option linter.unusedVariables false
def laws_FnExactBoxOk.Pure : Prop := ∀ (a0_0 a0_1 a0_2 a0_3 : Int), (Lit.int .i64 a0_0).wf = true → (Lit.int .i64 a0_1).wf = true → (Lit.int .i64 a0_2).wf = true → (Lit.int .i64 a0_3).wf = true → laws_FnExactBoxOk.f a0_0 a0_1 a0_2 a0_3 = some true
theorem laws_FnExactBoxOk.walk (P : laws_FnExactBoxOk.Pure) (a0_0 a0_1 a0_2 a0_3 : Int) (w : World) (w_a0_0 : (Lit.int .i64 a0_0).wf = true) (w_a0_1 : (Lit.int .i64 a0_1).wf = true) (w_a0_2 : (Lit.int .i64 a0_2).wf = true) (w_a0_3 : (Lit.int .i64 a0_3).wf = true) :
    Calls Try.prog 7 #[.agg #[.int .i64 a0_0, .int .i64 a0_1, .int .i64 a0_2, .int .i64 a0_3]] w fun e w' => e = .returned (.bool true) ∧ Below w.heap.size w w' := by
  have h := P a0_0 a0_1 a0_2 a0_3 w_a0_0 w_a0_1 w_a0_2 w_a0_3
  refine (laws_FnExactBoxOk.calls a0_0 a0_1 a0_2 a0_3 true w h).mono ?_
  rintro e w' ⟨rfl, hd⟩
  exact ⟨rfl, hd⟩
end Go.Proofs.Ytokbfpcooboedaa.PFnExactBoxOk
