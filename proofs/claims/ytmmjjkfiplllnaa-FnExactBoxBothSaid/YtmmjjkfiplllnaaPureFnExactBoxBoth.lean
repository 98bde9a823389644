/- FnExactBoxBoth: what the program computes is what the reference computes, or has the law's properties, at all whole numbers and lists that the statement lets in; no further condition. -/
import Derived.Test.YtmmjjkfiplllnaaStFnExactBoxBoth
import Derived.Test.YtmmjjkfiplllnaaMath
namespace Go.Proofs.Ytmmjjkfiplllnaa.Pure
open Go.RowKit Go.Proofs.Ytmmjjkfiplllnaa.PFnExactBoxBoth Go.Proofs.YtmmjjkfiplllnaaW.PrintWords Go.Proofs.YtmmjjkfiplllnaaW.PrintLast Go.Proofs.YtmmjjkfiplllnaaW.PrintMore Go.Proofs.Ytmmjjkfiplllnaa.Math
set_option linter.unusedVariables false
set_option linter.unusedSimpArgs false

theorem spec_l1In_eq (a l h : Int) : spec_l1In.f a l h = some (inB a l h) := by
  unfold spec_l1In.f inB
  split <;> simp <;> omega

theorem spec_VecOk_eq (a b : Int) : spec_VecOk.f a b = some (vecOk a b) := by
  unfold spec_VecOk.f vecOk
  simp only [spec_l1In_eq, Option.bind_some]
  cases inB a (-1000000000) 1000000000 <;> simp

theorem spec_BoxOk_eq (a b c d : Int) : spec_BoxOk.f a b c d = some (boxOk a b c d) := by
  unfold spec_BoxOk.f boxOk
  simp only [spec_VecOk_eq, Option.bind_some]
  by_cases hac : a ≤ c <;> cases vecOk a b <;> cases vecOk c d <;> simp [hac]

theorem spec_l3Less_eq (a b : Int) : spec_l3Less.f a b = some (min a b) := by
  unfold spec_l3Less.f; split <;> simp <;> omega

theorem spec_l3More_eq (a b : Int) : spec_l3More.f a b = some (max a b) := by
  unfold spec_l3More.f; split <;> simp <;> omega

/-- The least box that has two, if both are ok. -/
def bboth (a b c d e f g h : Int) : Int × Int × Int × Int := if boxOk a b c d && boxOk e f g h then (min a e, min b f, max c g, max d h) else (0, 0, 0, 0)

theorem spec_BoxBoth_eq {k : Nat} (hk : 0 < k) (a b c d e f g h : Int) : spec_BoxBoth.f k a b c d e f g h = some (bboth a b c d e f g h) := by
  obtain ⟨k, rfl⟩ : ∃ m, k = m + 1 := ⟨k - 1, by omega⟩
  unfold spec_BoxBoth.f bboth
  simp only [spec_BoxOk_eq, Option.bind_some, spec_BoxBoth.j0, spec_l3Less_eq, spec_l3More_eq]
  cases h1 : boxOk a b c d <;> cases h2 : boxOk e f g h <;> simp

theorem impl_in_eq (a l h : Int) : impl_in.f a l h = some (inB a l h) := by
  unfold impl_in.f inB
  split <;> simp <;> omega

theorem impl_VecOk_eq (a b : Int) : impl_VecOk.f a b = some (vecOk a b) := by
  unfold impl_VecOk.f vecOk
  simp only [impl_in_eq, Option.bind_some]
  cases inB a (-1000000000) 1000000000 <;> simp

theorem impl_BoxOk_eq (a b c d : Int) : impl_BoxOk.f a b c d = some (boxOk a b c d) := by
  unfold impl_BoxOk.f boxOk
  simp only [impl_VecOk_eq, Option.bind_some]
  by_cases hac : a ≤ c <;> cases vecOk a b <;> cases vecOk c d <;> simp [hac]

theorem impl_BoxBoth_eq (a b c d e f g h : Int) : impl_BoxBoth.f a b c d e f g h = some (bboth a b c d e f g h) := by
  unfold impl_BoxBoth.f bboth
  simp only [impl_BoxOk_eq, Option.bind_some, mx_eq, mn_eq]
  cases h1 : boxOk a b c d <;> cases h2 : boxOk e f g h <;> simp

theorem laws_eqVec_eq (a b c d : Int) : laws_eqVec.f a b c d = some (decide (a = c) && decide (b = d)) := by
  unfold laws_eqVec.f
  split <;> (try split) <;> simp_all

theorem laws_eqBox_same (x : Int × Int × Int × Int) : laws_eqBox.f x.1 x.2.1 x.2.2.1 x.2.2.2 x.1 x.2.1 x.2.2.1 x.2.2.2 = some true := by
  unfold laws_eqBox.f
  simp [laws_eqVec_eq]

theorem FnExactBoxBoth : laws_FnExactBoxBoth.Pure := by
  intro a b c d e f g h _ _ _ _ _ _ _ _
  refine ⟨1, ?_⟩
  unfold laws_FnExactBoxBoth.f laws_toBox.f laws_toVec.f
  simp only [Option.bind_some, spec_BoxBoth_eq (k := 1) (by omega), impl_BoxBoth_eq, laws_eqBox_same, if_true]

end Go.Proofs.Ytmmjjkfiplllnaa.Pure
