/- The pure statement of FnExactBoxBoth, over whole numbers (and lists) alone, and the end of its walk; no condition of its own. -/
import Derived.Test.YtmmjjkfiplllnaaPFnExactBoxBothx3
import Derived.Test.YtmmjjkfiplllnaaOpn
namespace Go.Proofs.Ytmmjjkfiplllnaa.PFnExactBoxBoth
open Go.RowKit Go.ChangeShapes Go.WideShapes Go.Deep Go.Proofs.YtmmjjkfiplllnaaW.PrintWords Go.Proofs.YtmmjjkfiplllnaaW.PrintLast Go.Proofs.YtmmjjkfiplllnaaW.PrintMore
set_option linter.unusedVariables false
def laws_FnExactBoxBoth.Pure : Prop := ∀ (a0_0 a0_1 a0_2 a0_3 : Int) (a1_0 a1_1 a1_2 a1_3 : Int), (Lit.int .i64 a0_0).wf = true → (Lit.int .i64 a0_1).wf = true → (Lit.int .i64 a0_2).wf = true → (Lit.int .i64 a0_3).wf = true → (Lit.int .i64 a1_0).wf = true → (Lit.int .i64 a1_1).wf = true → (Lit.int .i64 a1_2).wf = true → (Lit.int .i64 a1_3).wf = true → ∃ k, laws_FnExactBoxBoth.f k a0_0 a0_1 a0_2 a0_3 a1_0 a1_1 a1_2 a1_3 = some true
theorem laws_FnExactBoxBoth.walk (P : laws_FnExactBoxBoth.Pure) (a0_0 a0_1 a0_2 a0_3 : Int) (a1_0 a1_1 a1_2 a1_3 : Int) (w : World) (w_a0_0 : (Lit.int .i64 a0_0).wf = true) (w_a0_1 : (Lit.int .i64 a0_1).wf = true) (w_a0_2 : (Lit.int .i64 a0_2).wf = true) (w_a0_3 : (Lit.int .i64 a0_3).wf = true) (w_a1_0 : (Lit.int .i64 a1_0).wf = true) (w_a1_1 : (Lit.int .i64 a1_1).wf = true) (w_a1_2 : (Lit.int .i64 a1_2).wf = true) (w_a1_3 : (Lit.int .i64 a1_3).wf = true) :
    Calls Try.prog 14 #[.agg #[.int .i64 a0_0, .int .i64 a0_1, .int .i64 a0_2, .int .i64 a0_3], .agg #[.int .i64 a1_0, .int .i64 a1_1, .int .i64 a1_2, .int .i64 a1_3]] w fun e w' => e = .returned (.bool true) ∧ Below w.heap.size w w' := by
  obtain ⟨k, h⟩ := P a0_0 a0_1 a0_2 a0_3 a1_0 a1_1 a1_2 a1_3 w_a0_0 w_a0_1 w_a0_2 w_a0_3 w_a1_0 w_a1_1 w_a1_2 w_a1_3
  refine (laws_FnExactBoxBoth.calls k a0_0 a0_1 a0_2 a0_3 a1_0 a1_1 a1_2 a1_3 true w h).mono ?_
  rintro e w' ⟨rfl, hd⟩
  exact ⟨rfl, hd⟩
end Go.Proofs.Ytmmjjkfiplllnaa.PFnExactBoxBoth
