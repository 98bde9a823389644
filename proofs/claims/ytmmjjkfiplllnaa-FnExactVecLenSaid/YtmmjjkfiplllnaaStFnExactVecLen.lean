/- The pure statement of FnExactVecLen, over whole numbers (and lists) alone, and the end of its walk; no condition of its own. -/
import Derived.Test.YtmmjjkfiplllnaaPFnExactVecLenx1
import Derived.Test.YtmmjjkfiplllnaaOpn
namespace Go.Proofs.Ytmmjjkfiplllnaa.PFnExactVecLen
open Go.RowKit Go.ChangeShapes Go.WideShapes Go.Deep Go.Proofs.YtmmjjkfiplllnaaW.PrintWords Go.Proofs.YtmmjjkfiplllnaaW.PrintLast Go.Proofs.YtmmjjkfiplllnaaW.PrintMore
set_option linter.unusedVariables false
def laws_FnExactVecLen.Pure : Prop := ∀ (a0_0 a0_1 : Int), (Lit.int .i64 a0_0).wf = true → (Lit.int .i64 a0_1).wf = true → ∃ k, laws_FnExactVecLen.f k a0_0 a0_1 = some true
theorem laws_FnExactVecLen.walk (P : laws_FnExactVecLen.Pure) (a0_0 a0_1 : Int) (w : World) (w_a0_0 : (Lit.int .i64 a0_0).wf = true) (w_a0_1 : (Lit.int .i64 a0_1).wf = true) :
    Calls Try.prog 9 #[.agg #[.int .i64 a0_0, .int .i64 a0_1]] w fun e w' => e = .returned (.bool true) ∧ Below w.heap.size w w' := by
  obtain ⟨k, h⟩ := P a0_0 a0_1 w_a0_0 w_a0_1
  refine (laws_FnExactVecLen.calls k a0_0 a0_1 true w h).mono ?_
  rintro e w' ⟨rfl, hd⟩
  exact ⟨rfl, hd⟩
end Go.Proofs.Ytmmjjkfiplllnaa.PFnExactVecLen
