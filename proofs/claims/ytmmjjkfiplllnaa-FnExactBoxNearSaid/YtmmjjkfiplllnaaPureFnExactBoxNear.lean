/- FnExactBoxNear: what the program computes is what the reference computes, or has the law's properties, at all whole numbers and lists that the statement lets in; no further condition. -/
import Derived.Test.YtmmjjkfiplllnaaStFnExactBoxNear
import Derived.Test.YtmmjjkfiplllnaaMath
namespace Go.Proofs.Ytmmjjkfiplllnaa.Pure
open Go.RowKit Go.Proofs.Ytmmjjkfiplllnaa.PFnExactBoxNear Go.Proofs.YtmmjjkfiplllnaaW.PrintWords Go.Proofs.YtmmjjkfiplllnaaW.PrintLast Go.Proofs.YtmmjjkfiplllnaaW.PrintMore Go.Proofs.Ytmmjjkfiplllnaa.Math
set_option linter.unusedVariables false
set_option linter.unusedSimpArgs false

theorem spec_l1In_eq (a l h : Int) : spec_l1In.f a l h = some (inB a l h) := by
  unfold spec_l1In.f inB
  split <;> simp <;> omega

theorem spec_VecOk_eq (a b : Int) : spec_VecOk.f a b = some (vecOk a b) := by
  unfold spec_VecOk.f vecOk
  simp only [spec_l1In_eq, Option.bind_some]
  cases inB a (-1000000000) 1000000000 <;> simp

theorem spec_BoxOk_eq (a b c d : Int) : spec_BoxOk.f a b c d = some (boxOk a b c d) := by
  unfold spec_BoxOk.f boxOk
  simp only [spec_VecOk_eq, Option.bind_some]
  by_cases hac : a ≤ c <;> cases vecOk a b <;> cases vecOk c d <;> simp [hac]

theorem spec_l3Less_eq (a b : Int) : spec_l3Less.f a b = some (min a b) := by
  unfold spec_l3Less.f; split <;> simp <;> omega

theorem spec_l3More_eq (a b : Int) : spec_l3More.f a b = some (max a b) := by
  unfold spec_l3More.f; split <;> simp <;> omega

theorem spec_l3Near_eq (a b c d x y : Int) : spec_l3Near.f a b c d x y = some (min (max x a) c, min (max y b) d) := by
  unfold spec_l3Near.f
  simp only [spec_l3Less_eq, spec_l3More_eq, Option.bind_some]

theorem boxOk_le {a b c d : Int} (h : boxOk a b c d = true) : a ≤ c ∧ b ≤ d := by
  simp [boxOk] at h
  omega
theorem boxOk_in {a b c d : Int} (h : boxOk a b c d = true) : (-1000000000 ≤ a ∧ a ≤ 1000000000) ∧ (-1000000000 ≤ b ∧ b ≤ 1000000000) ∧ (-1000000000 ≤ c ∧ c ≤ 1000000000) ∧ (-1000000000 ≤ d ∧ d ≤ 1000000000) := by
  simp [boxOk, vecOk, inB] at h
  omega
/-- The point of a box that is nearest to one, if both are ok. -/
def bnear (a b c d x y : Int) : Int × Int := if boxOk a b c d && vecOk x y then (max a (min x c), max b (min y d)) else (0, 0)

theorem spec_BoxNear_eq (a b c d x y : Int) : spec_BoxNear.f a b c d x y = some (bnear a b c d x y) := by
  unfold spec_BoxNear.f bnear
  simp only [spec_BoxOk_eq, spec_VecOk_eq, spec_l3Near_eq, Option.bind_some]
  by_cases h1 : boxOk a b c d = true
  · have := boxOk_le h1
    cases h2 : vecOk x y
    · simp [h1]
    · simp [h1]
      omega
  · simp [h1]

theorem impl_in_eq (a l h : Int) : impl_in.f a l h = some (inB a l h) := by
  unfold impl_in.f inB
  split <;> simp <;> omega

theorem impl_VecOk_eq (a b : Int) : impl_VecOk.f a b = some (vecOk a b) := by
  unfold impl_VecOk.f vecOk
  simp only [impl_in_eq, Option.bind_some]
  cases inB a (-1000000000) 1000000000 <;> simp

theorem impl_BoxOk_eq (a b c d : Int) : impl_BoxOk.f a b c d = some (boxOk a b c d) := by
  unfold impl_BoxOk.f boxOk
  simp only [impl_VecOk_eq, Option.bind_some]
  by_cases hac : a ≤ c <;> cases vecOk a b <;> cases vecOk c d <;> simp [hac]

theorem impl_Box_near_eq (a b c d x y : Int) : impl_Box_near.f a b c d x y = some (max a (min x c), max b (min y d)) := by
  unfold impl_Box_near.f
  simp only [mx_eq, mn_eq]

theorem impl_BoxNear_eq (a b c d x y : Int) : impl_BoxNear.f a b c d x y = some (bnear a b c d x y) := by
  unfold impl_BoxNear.f bnear
  simp only [impl_BoxOk_eq, impl_VecOk_eq, impl_Box_near_eq, Option.bind_some]
  cases h1 : boxOk a b c d <;> cases h2 : vecOk x y <;> simp

theorem laws_eqVec_eq (a b c d : Int) : laws_eqVec.f a b c d = some (decide (a = c) && decide (b = d)) := by
  unfold laws_eqVec.f
  split <;> (try split) <;> simp_all

theorem FnExactBoxNear : laws_FnExactBoxNear.Pure := by
  intro a b c d x y _ _ _ _ _ _
  unfold laws_FnExactBoxNear.f laws_toBox.f laws_toVec.f
  simp only [Option.bind_some, spec_BoxNear_eq, impl_BoxNear_eq, laws_eqVec_eq]
  simp

end Go.Proofs.Ytmmjjkfiplllnaa.Pure
