/- FnExactBoxMeets: what the program computes is what the reference computes, or has the law's properties, at all whole numbers and lists that the statement lets in; no further condition. -/
import Derived.Test.YtokbfpcooboedaaStFnExactBoxMeets
import Derived.Test.YtokbfpcooboedaaMath
namespace Go.Proofs.Ytokbfpcooboedaa.Pure
open Go.RowKit Go.Proofs.Ytokbfpcooboedaa.PFnExactBoxMeets Go.Proofs.YtokbfpcooboedaaW.PrintWords Go.Proofs.YtokbfpcooboedaaW.PrintLast Go.Proofs.YtokbfpcooboedaaW.PrintMore Go.Proofs.Ytokbfpcooboedaa.Math
set_option linter.unusedVariables false
set_option linter.unusedSimpArgs false

theorem spec_l1In_eq (a l h : Int) : spec_l1In.f a l h = some (inB a l h) := by
  unfold spec_l1In.f inB
  split <;> simp <;> omega

theorem spec_VecOk_eq (a b : Int) : spec_VecOk.f a b = some (vecOk a b) := by
  unfold spec_VecOk.f vecOk
  simp only [spec_l1In_eq, Option.bind_some]
  cases inB a (-1000000000) 1000000000 <;> simp

theorem spec_BoxOk_eq (a b c d : Int) : spec_BoxOk.f a b c d = some (boxOk a b c d) := by
  unfold spec_BoxOk.f boxOk
  simp only [spec_VecOk_eq, Option.bind_some]
  by_cases hac : a ≤ c <;> cases vecOk a b <;> cases vecOk c d <;> simp [hac]

theorem spec_l3Meets_eq (a b c d e f g h : Int) : spec_l3Meets.f a b c d e f g h = some (meets a b c d e f g h) := by
  unfold spec_l3Meets.f meets
  by_cases h1 : a ≤ g <;> by_cases h2 : e ≤ c <;> by_cases h3 : b ≤ h <;> simp [h1, h2, h3]

theorem spec_BoxMeets_eq (a b c d e f g h : Int) : spec_BoxMeets.f a b c d e f g h = some (boxOk a b c d && (boxOk e f g h && meets a b c d e f g h)) := by
  unfold spec_BoxMeets.f
  simp only [spec_BoxOk_eq, spec_l3Meets_eq, Option.bind_some]
  cases boxOk a b c d <;> cases boxOk e f g h <;> simp

theorem impl_in_eq (a l h : Int) : impl_in.f a l h = some (inB a l h) := by
  unfold impl_in.f inB
  split <;> simp <;> omega

theorem impl_VecOk_eq (a b : Int) : impl_VecOk.f a b = some (vecOk a b) := by
  unfold impl_VecOk.f vecOk
  simp only [impl_in_eq, Option.bind_some]
  cases inB a (-1000000000) 1000000000 <;> simp

theorem impl_BoxOk_eq (a b c d : Int) : impl_BoxOk.f a b c d = some (boxOk a b c d) := by
  unfold impl_BoxOk.f boxOk
  simp only [impl_VecOk_eq, Option.bind_some]
  by_cases hac : a ≤ c <;> cases vecOk a b <;> cases vecOk c d <;> simp [hac]

theorem impl_Box_meets_eq (a b c d e f g h : Int) : impl_Box_meets.f a b c d e f g h = some (meets a b c d e f g h) := by
  unfold impl_Box_meets.f meets
  by_cases h1 : a ≤ g <;> by_cases h2 : e ≤ c <;> by_cases h3 : b ≤ h <;> simp [h1, h2, h3]

theorem impl_BoxMeets_eq (a b c d e f g h : Int) : impl_BoxMeets.f a b c d e f g h = some (boxOk a b c d && (boxOk e f g h && meets a b c d e f g h)) := by
  unfold impl_BoxMeets.f
  simp only [impl_BoxOk_eq, impl_Box_meets_eq, Option.bind_some]
  cases boxOk a b c d <;> cases boxOk e f g h <;> simp

theorem FnExactBoxMeets : laws_FnExactBoxMeets.Pure := by
  intro a b c d e f g h _ _ _ _ _ _ _ _
  unfold laws_FnExactBoxMeets.f laws_toBox.f laws_toVec.f
  simp only [spec_BoxMeets_eq, impl_BoxMeets_eq, Option.bind_some]
  simp

end Go.Proofs.Ytokbfpcooboedaa.Pure
