/- The pure statement of FnExactBoxMeets, over whole numbers (and lists) alone, and the end of its walk; no condition of its own. -/
import Derived.Test.YtokbfpcooboedaaPFnExactBoxMeetsx2
import Derived.Test.YtokbfpcooboedaaOpn
namespace Go.Proofs.Ytokbfpcooboedaa.PFnExactBoxMeets
open Go.RowKit Go.ChangeShapes Go.WideShapes Go.Deep Go.Proofs.YtokbfpcooboedaaW.PrintWords Go.Proofs.YtokbfpcooboedaaW.PrintLast Go.Proofs.YtokbfpcooboedaaW.PrintMore
set_option linter.unusedVariables false
def laws_FnExactBoxMeets.Pure : Prop := ∀ (a0_0 a0_1 a0_2 a0_3 : Int) (a1_0 a1_1 a1_2 a1_3 : Int), (Lit.int .i64 a0_0).wf = true → (Lit.int .i64 a0_1).wf = true → (Lit.int .i64 a0_2).wf = true → (Lit.int .i64 a0_3).wf = true → (Lit.int .i64 a1_0).wf = true → (Lit.int .i64 a1_1).wf = true → (Lit.int .i64 a1_2).wf = true → (Lit.int .i64 a1_3).wf = true → laws_FnExactBoxMeets.f a0_0 a0_1 a0_2 a0_3 a1_0 a1_1 a1_2 a1_3 = some true
theorem laws_FnExactBoxMeets.walk (P : laws_FnExactBoxMeets.Pure) (a0_0 a0_1 a0_2 a0_3 : Int) (a1_0 a1_1 a1_2 a1_3 : Int) (w : World) (w_a0_0 : (Lit.int .i64 a0_0).wf = true) (w_a0_1 : (Lit.int .i64 a0_1).wf = true) (w_a0_2 : (Lit.int .i64 a0_2).wf = true) (w_a0_3 : (Lit.int .i64 a0_3).wf = true) (w_a1_0 : (Lit.int .i64 a1_0).wf = true) (w_a1_1 : (Lit.int .i64 a1_1).wf = true) (w_a1_2 : (Lit.int .i64 a1_2).wf = true) (w_a1_3 : (Lit.int .i64 a1_3).wf = true) :
    Calls Try.prog 14 #[.agg #[.int .i64 a0_0, .int .i64 a0_1, .int .i64 a0_2, .int .i64 a0_3], .agg #[.int .i64 a1_0, .int .i64 a1_1, .int .i64 a1_2, .int .i64 a1_3]] w fun e w' => e = .returned (.bool true) ∧ Below w.heap.size w w' := by
  have h := P a0_0 a0_1 a0_2 a0_3 a1_0 a1_1 a1_2 a1_3 w_a0_0 w_a0_1 w_a0_2 w_a0_3 w_a1_0 w_a1_1 w_a1_2 w_a1_3
  refine (laws_FnExactBoxMeets.calls a0_0 a0_1 a0_2 a0_3 a1_0 a1_1 a1_2 a1_3 true w h).mono ?_
  rintro e w' ⟨rfl, hd⟩
  exact ⟨rfl, hd⟩
end Go.Proofs.Ytokbfpcooboedaa.PFnExactBoxMeets
