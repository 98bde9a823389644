/- FnExactVecSub: what the program computes is what the reference computes, or has the law's properties, at all whole numbers and lists that the statement lets in; no further condition. -/
import Derived.Test.YtmmjjkfiplllnaaStFnExactVecSub
import Derived.Test.YtmmjjkfiplllnaaMath
namespace Go.Proofs.Ytmmjjkfiplllnaa.Pure
open Go.RowKit Go.Proofs.Ytmmjjkfiplllnaa.PFnExactVecSub Go.Proofs.YtmmjjkfiplllnaaW.PrintWords Go.Proofs.YtmmjjkfiplllnaaW.PrintLast Go.Proofs.YtmmjjkfiplllnaaW.PrintMore Go.Proofs.Ytmmjjkfiplllnaa.Math
set_option linter.unusedVariables false
set_option linter.unusedSimpArgs false

theorem spec_FixClamp_eq (a : Int) : spec_FixClamp.f a = some (cl a) := by
  unfold spec_FixClamp.f cl
  split
  · rfl
  · split <;> rfl

theorem spec_l2Clamp_eq (a b : Int) : spec_l2Clamp.f a b = some (cl a, cl b) := by
  unfold spec_l2Clamp.f
  simp only [spec_FixClamp_eq, Option.bind_some]

theorem spec_VecSub_eq (a b c d : Int) : spec_VecSub.f a b c d = some (cl (cl a - cl c), cl (cl b - cl d)) := by
  unfold spec_VecSub.f
  have := cl_bd a; have := cl_bd b; have := cl_bd c; have := cl_bd d
  simp only [spec_l2Clamp_eq, Option.bind_some]
  rw [wrap_id (by omega) (by omega), wrap_id (by omega) (by omega)]

theorem impl_within_eq {a m : Int} (h0 : 0 ≤ m) (h1 : m ≤ 1000000000000) : impl_within.f a m = some (wi a m) := by
  unfold impl_within.f wi
  rw [wrap_id (by omega) (by omega), mx_eq, mn_eq]

theorem impl_Vec_clamped_eq {a b m : Int} (h0 : 0 ≤ m) (h1 : m ≤ 1000000000000) : impl_Vec_clamped.f a b m = some (wi a m, wi b m) := by
  unfold impl_Vec_clamped.f
  simp only [impl_within_eq h0 h1, Option.bind_some]
theorem impl_Vec_clamped_cl (a b : Int) : impl_Vec_clamped.f a b 1000000000 = some (cl a, cl b) := by
  rw [impl_Vec_clamped_eq (by omega) (by omega), wi_cl, wi_cl]

theorem impl_Vec_minus_eq (a b c d : Int) : impl_Vec_minus.f a b c d = some (wrap64 (a - c), wrap64 (b - d)) := rfl

theorem impl_VecSub_eq (a b c d : Int) : impl_VecSub.f a b c d = some (cl (cl a - cl c), cl (cl b - cl d)) := by
  unfold impl_VecSub.f
  have := cl_bd a; have := cl_bd b; have := cl_bd c; have := cl_bd d
  simp only [impl_Vec_clamped_cl, impl_Vec_minus_eq, Option.bind_some]
  rw [wrap_id (by omega) (by omega), wrap_id (by omega) (by omega)]

theorem laws_eqVec_eq (a b c d : Int) : laws_eqVec.f a b c d = some (decide (a = c) && decide (b = d)) := by
  unfold laws_eqVec.f
  split <;> (try split) <;> simp_all

theorem FnExactVecSub : laws_FnExactVecSub.Pure := by
  intro a b c d _ _ _ _
  unfold laws_FnExactVecSub.f laws_toVec.f
  simp only [spec_VecSub_eq, impl_VecSub_eq, laws_eqVec_eq, Option.bind_some]
  simp

end Go.Proofs.Ytmmjjkfiplllnaa.Pure
