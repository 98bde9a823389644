/- The pure statement of FnExactTouch, over whole numbers (and lists) alone, and the end of its walk; no condition of its own. -/
import Derived.Test.YtihajbjkjclmoaaPBigx931
import Derived.Test.YtihajbjkjclmoaaOpn
namespace Go.Proofs.Ytihajbjkjclmoaa.PBig
open Go.RowKit Go.ChangeShapes Go.WideShapes Go.Deep Go.Proofs.YtihajbjkjclmoaaW.PrintWords Go.Proofs.YtihajbjkjclmoaaW.PrintLast Go.Proofs.YtihajbjkjclmoaaW.PrintMore
set_option linter.unusedVariables false
def laws_FnExactTouch.Pure : Prop := ∀ (a0_0 a0_1 a0_2 : Int) (a1_0 a1_1 : Int) (a2_0 a2_1 a2_2 : Int) (a3_0 a3_1 : Int), (Lit.int .i64 a0_0).wf = true → (Lit.int .i64 a0_1).wf = true → (Lit.int .i64 a0_2).wf = true → (Lit.int .i64 a1_0).wf = true → (Lit.int .i64 a1_1).wf = true → (Lit.int .i64 a2_0).wf = true → (Lit.int .i64 a2_1).wf = true → (Lit.int .i64 a2_2).wf = true → (Lit.int .i64 a3_0).wf = true → (Lit.int .i64 a3_1).wf = true → ∃ k, laws_FnExactTouch.f k a0_0 a0_1 a0_2 a1_0 a1_1 a2_0 a2_1 a2_2 a3_0 a3_1 = some true
theorem laws_FnExactTouch.walk (P : laws_FnExactTouch.Pure) (a0_0 a0_1 a0_2 : Int) (a1_0 a1_1 : Int) (a2_0 a2_1 a2_2 : Int) (a3_0 a3_1 : Int) (w : World) (w_a0_0 : (Lit.int .i64 a0_0).wf = true) (w_a0_1 : (Lit.int .i64 a0_1).wf = true) (w_a0_2 : (Lit.int .i64 a0_2).wf = true) (w_a1_0 : (Lit.int .i64 a1_0).wf = true) (w_a1_1 : (Lit.int .i64 a1_1).wf = true) (w_a2_0 : (Lit.int .i64 a2_0).wf = true) (w_a2_1 : (Lit.int .i64 a2_1).wf = true) (w_a2_2 : (Lit.int .i64 a2_2).wf = true) (w_a3_0 : (Lit.int .i64 a3_0).wf = true) (w_a3_1 : (Lit.int .i64 a3_1).wf = true) :
    Calls Try.prog 8 #[.agg #[.int .i64 a0_0, .int .i64 a0_1, .int .i64 a0_2], .agg #[.int .i64 a1_0, .int .i64 a1_1], .agg #[.int .i64 a2_0, .int .i64 a2_1, .int .i64 a2_2], .agg #[.int .i64 a3_0, .int .i64 a3_1]] w fun e w' => e = .returned (.bool true) ∧ Below w.heap.size w w' := by
  obtain ⟨k, h⟩ := P a0_0 a0_1 a0_2 a1_0 a1_1 a2_0 a2_1 a2_2 a3_0 a3_1 w_a0_0 w_a0_1 w_a0_2 w_a1_0 w_a1_1 w_a2_0 w_a2_1 w_a2_2 w_a3_0 w_a3_1
  refine (laws_FnExactTouch.calls k a0_0 a0_1 a0_2 a1_0 a1_1 a2_0 a2_1 a2_2 a3_0 a3_1 true w h).mono ?_
  rintro e w' ⟨rfl, hd⟩
  exact ⟨rfl, hd⟩
end Go.Proofs.Ytihajbjkjclmoaa.PBig
