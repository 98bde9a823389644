/- FnExactBoxHas: what the program computes is what the reference computes, or has the law's properties, at all whole numbers and lists that the statement lets in; no further condition. -/
import Derived.Test.YtokbfpcooboedaaStFnExactBoxHas
import Derived.Test.YtokbfpcooboedaaMath
namespace Go.Proofs.Ytokbfpcooboedaa.Pure
open Go.RowKit Go.Proofs.Ytokbfpcooboedaa.PFnExactBoxHas Go.Proofs.YtokbfpcooboedaaW.PrintWords Go.Proofs.YtokbfpcooboedaaW.PrintLast Go.Proofs.YtokbfpcooboedaaW.PrintMore Go.Proofs.Ytokbfpcooboedaa.Math
set_option linter.unusedVariables false
set_option linter.unusedSimpArgs false

theorem spec_l1In_eq (a l h : Int) : spec_l1In.f a l h = some (inB a l h) := by
  unfold spec_l1In.f inB
  split <;> simp <;> omega

theorem spec_VecOk_eq (a b : Int) : spec_VecOk.f a b = some (vecOk a b) := by
  unfold spec_VecOk.f vecOk
  simp only [spec_l1In_eq, Option.bind_some]
  cases inB a (-1000000000) 1000000000 <;> simp

theorem spec_BoxOk_eq (a b c d : Int) : spec_BoxOk.f a b c d = some (boxOk a b c d) := by
  unfold spec_BoxOk.f boxOk
  simp only [spec_VecOk_eq, Option.bind_some]
  by_cases hac : a ≤ c <;> cases vecOk a b <;> cases vecOk c d <;> simp [hac]

theorem spec_l3Point_eq (a b c d x y : Int) : spec_l3Point.f a b c d x y = some (point a b c d x y) := by
  unfold spec_l3Point.f point
  simp only [spec_l1In_eq, Option.bind_some]
  cases inB x a c <;> simp

theorem spec_BoxHas_eq (a b c d e f g h : Int) : spec_BoxHas.f a b c d e f g h = some (boxOk a b c d && (boxOk e f g h && (point a b c d e f && point a b c d g h))) := by
  unfold spec_BoxHas.f
  simp only [spec_BoxOk_eq, spec_l3Point_eq, Option.bind_some]
  cases boxOk a b c d <;> cases boxOk e f g h <;> cases point a b c d e f <;> simp

theorem impl_in_eq (a l h : Int) : impl_in.f a l h = some (inB a l h) := by
  unfold impl_in.f inB
  split <;> simp <;> omega

theorem impl_VecOk_eq (a b : Int) : impl_VecOk.f a b = some (vecOk a b) := by
  unfold impl_VecOk.f vecOk
  simp only [impl_in_eq, Option.bind_some]
  cases inB a (-1000000000) 1000000000 <;> simp

theorem impl_BoxOk_eq (a b c d : Int) : impl_BoxOk.f a b c d = some (boxOk a b c d) := by
  unfold impl_BoxOk.f boxOk
  simp only [impl_VecOk_eq, Option.bind_some]
  by_cases hac : a ≤ c <;> cases vecOk a b <;> cases vecOk c d <;> simp [hac]

theorem impl_Box_has_eq (a b c d x y : Int) : impl_Box_has.f a b c d x y = some (point a b c d x y) := by
  unfold impl_Box_has.f point
  simp only [impl_in_eq, Option.bind_some]
  cases inB x a c <;> simp

theorem impl_BoxHas_eq (a b c d e f g h : Int) : impl_BoxHas.f a b c d e f g h = some (boxOk a b c d && (boxOk e f g h && (point a b c d e f && point a b c d g h))) := by
  unfold impl_BoxHas.f
  simp only [impl_BoxOk_eq, impl_Box_has_eq, Option.bind_some]
  cases boxOk a b c d <;> cases boxOk e f g h <;> cases point a b c d e f <;> simp

theorem FnExactBoxHas : laws_FnExactBoxHas.Pure := by
  intro a b c d e f g h _ _ _ _ _ _ _ _
  unfold laws_FnExactBoxHas.f laws_toBox.f laws_toVec.f
  simp only [spec_BoxHas_eq, impl_BoxHas_eq, Option.bind_some]
  simp

end Go.Proofs.Ytokbfpcooboedaa.Pure
