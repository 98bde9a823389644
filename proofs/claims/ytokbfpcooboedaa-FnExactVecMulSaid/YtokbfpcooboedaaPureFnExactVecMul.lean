/- FnExactVecMul: what the program computes is what the reference computes, or has the law's properties, at all whole numbers and lists that the statement lets in; no further condition. -/
import Derived.Test.YtokbfpcooboedaaStFnExactVecMul
import Derived.Test.YtokbfpcooboedaaMath
namespace Go.Proofs.Ytokbfpcooboedaa.Pure
open Go.RowKit Go.Proofs.Ytokbfpcooboedaa.PFnExactVecMul Go.Proofs.YtokbfpcooboedaaW.PrintWords Go.Proofs.YtokbfpcooboedaaW.PrintLast Go.Proofs.YtokbfpcooboedaaW.PrintMore Go.Proofs.Ytokbfpcooboedaa.Math
set_option linter.unusedVariables false
set_option linter.unusedSimpArgs false

theorem spec_FixClamp_eq (a : Int) : spec_FixClamp.f a = some (cl a) := by
  unfold spec_FixClamp.f cl
  split
  · rfl
  · split <;> rfl

theorem spec_FixMul_eq (a b : Int) : spec_FixMul.f a b = some (fixMul a b) := by
  unfold spec_FixMul.f fixMul
  simp only [spec_FixClamp_eq, Option.bind_some]

theorem spec_VecMul_eq (a b n : Int) : spec_VecMul.f a b n = some (fixMul a n, fixMul b n) := by
  unfold spec_VecMul.f
  simp only [spec_FixMul_eq, Option.bind_some]

theorem impl_within_eq {a m : Int} (h0 : 0 ≤ m) (h1 : m ≤ 1000000000000) : impl_within.f a m = some (wi a m) := by
  unfold impl_within.f wi
  rw [wrap_id (by omega) (by omega), mx_eq, mn_eq]

theorem impl_FixClamp_eq (a : Int) : impl_FixClamp.f a = some (cl a) := by
  unfold impl_FixClamp.f
  rw [impl_within_eq (by omega) (by omega), wi_cl]; rfl

theorem impl_FixMul_eq (a b : Int) : impl_FixMul.f a b = some (fixMul a b) := by
  unfold impl_FixMul.f fixMul
  simp only [impl_FixClamp_eq, Option.bind_some]

theorem impl_VecMul_eq (a b n : Int) : impl_VecMul.f a b n = some (fixMul a n, fixMul b n) := by
  unfold impl_VecMul.f
  simp only [impl_FixMul_eq, Option.bind_some]

theorem laws_eqVec_eq (a b c d : Int) : laws_eqVec.f a b c d = some (decide (a = c) && decide (b = d)) := by
  unfold laws_eqVec.f
  split <;> (try split) <;> simp_all

theorem FnExactVecMul : laws_FnExactVecMul.Pure := by
  intro a b n _ _ _
  unfold laws_FnExactVecMul.f laws_toVec.f
  simp only [spec_VecMul_eq, impl_VecMul_eq, laws_eqVec_eq, Option.bind_some]
  simp

end Go.Proofs.Ytokbfpcooboedaa.Pure
