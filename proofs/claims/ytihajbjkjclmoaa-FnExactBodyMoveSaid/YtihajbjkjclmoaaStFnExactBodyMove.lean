/- The pure statement of FnExactBodyMove, over whole numbers (and lists) alone, and the end of its walk; no condition of its own. -/
import Derived.Test.YtihajbjkjclmoaaPBigx915
import Derived.Test.YtihajbjkjclmoaaOpn
namespace Go.Proofs.Ytihajbjkjclmoaa.PBig
open Go.RowKit Go.ChangeShapes Go.WideShapes Go.Deep Go.Proofs.YtihajbjkjclmoaaW.PrintWords Go.Proofs.YtihajbjkjclmoaaW.PrintLast Go.Proofs.YtihajbjkjclmoaaW.PrintMore
set_option linter.unusedVariables false
def laws_FnExactBodyMove.Pure : Prop := ∀ (a0_0 a0_1 a0_2 a0_3 a0_4 a0_5 a0_6 a0_7 a0_8 a0_9 a0_10 a0_11 : Int), (Lit.int .i64 a0_0).wf = true → (Lit.int .i64 a0_1).wf = true → (Lit.int .i64 a0_2).wf = true → (Lit.int .i64 a0_3).wf = true → (Lit.int .i64 a0_4).wf = true → (Lit.int .i64 a0_5).wf = true → (Lit.int .i64 a0_6).wf = true → (Lit.int .i64 a0_7).wf = true → (Lit.int .i64 a0_8).wf = true → (Lit.int .i64 a0_9).wf = true → (Lit.int .i64 a0_10).wf = true → (Lit.int .i64 a0_11).wf = true → ∃ k, laws_FnExactBodyMove.f k a0_0 a0_1 a0_2 a0_3 a0_4 a0_5 a0_6 a0_7 a0_8 a0_9 a0_10 a0_11 = some true
theorem laws_FnExactBodyMove.walk (P : laws_FnExactBodyMove.Pure) (a0_0 a0_1 a0_2 a0_3 a0_4 a0_5 a0_6 a0_7 a0_8 a0_9 a0_10 a0_11 : Int) (w : World) (w_a0_0 : (Lit.int .i64 a0_0).wf = true) (w_a0_1 : (Lit.int .i64 a0_1).wf = true) (w_a0_2 : (Lit.int .i64 a0_2).wf = true) (w_a0_3 : (Lit.int .i64 a0_3).wf = true) (w_a0_4 : (Lit.int .i64 a0_4).wf = true) (w_a0_5 : (Lit.int .i64 a0_5).wf = true) (w_a0_6 : (Lit.int .i64 a0_6).wf = true) (w_a0_7 : (Lit.int .i64 a0_7).wf = true) (w_a0_8 : (Lit.int .i64 a0_8).wf = true) (w_a0_9 : (Lit.int .i64 a0_9).wf = true) (w_a0_10 : (Lit.int .i64 a0_10).wf = true) (w_a0_11 : (Lit.int .i64 a0_11).wf = true) :
    Calls Try.prog 5 #[.agg #[.int .i64 a0_0, .int .i64 a0_1, .int .i64 a0_2, .int .i64 a0_3, .int .i64 a0_4, .int .i64 a0_5, .int .i64 a0_6, .int .i64 a0_7, .int .i64 a0_8, .int .i64 a0_9, .int .i64 a0_10, .int .i64 a0_11]] w fun e w' => e = .returned (.bool true) ∧ Below w.heap.size w w' := by
  obtain ⟨k, h⟩ := P a0_0 a0_1 a0_2 a0_3 a0_4 a0_5 a0_6 a0_7 a0_8 a0_9 a0_10 a0_11 w_a0_0 w_a0_1 w_a0_2 w_a0_3 w_a0_4 w_a0_5 w_a0_6 w_a0_7 w_a0_8 w_a0_9 w_a0_10 w_a0_11
  refine (laws_FnExactBodyMove.calls k a0_0 a0_1 a0_2 a0_3 a0_4 a0_5 a0_6 a0_7 a0_8 a0_9 a0_10 a0_11 true w h).mono ?_
  rintro e w' ⟨rfl, hd⟩
  exact ⟨rfl, hd⟩
end Go.Proofs.Ytihajbjkjclmoaa.PBig
