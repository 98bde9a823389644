/- FnExactFixMul: what the program computes is what the reference computes, or has the law's properties, at all whole numbers and lists that the statement lets in; no further condition. -/
import Derived.Test.YtokbfpcooboedaaPFnExactFixMulx1
import Derived.Test.YtokbfpcooboedaaMath
namespace Go.Proofs.Ytokbfpcooboedaa.Pure
open Go.RowKit Go.Proofs.Ytokbfpcooboedaa.PFnExactFixMul Go.Proofs.YtokbfpcooboedaaW.PrintWords Go.Proofs.YtokbfpcooboedaaW.PrintLast Go.Proofs.YtokbfpcooboedaaW.PrintMore Go.Proofs.Ytokbfpcooboedaa.Math
set_option linter.unusedVariables false
set_option linter.unusedSimpArgs false

theorem spec_FixClamp_eq (a : Int) : spec_FixClamp.f a = some (cl a) := by
  unfold spec_FixClamp.f cl
  split
  · rfl
  · split <;> rfl

theorem spec_FixMul_eq (a b : Int) : spec_FixMul.f a b = some (fixMul a b) := by
  unfold spec_FixMul.f fixMul
  simp only [spec_FixClamp_eq, Option.bind_some]

theorem impl_within_eq {a m : Int} (h0 : 0 ≤ m) (h1 : m ≤ 1000000000000) : impl_within.f a m = some (wi a m) := by
  unfold impl_within.f wi
  rw [wrap_id (by omega) (by omega), mx_eq, mn_eq]

theorem impl_FixClamp_eq (a : Int) : impl_FixClamp.f a = some (cl a) := by
  unfold impl_FixClamp.f
  rw [impl_within_eq (by omega) (by omega), wi_cl]; rfl

theorem impl_FixMul_eq (a b : Int) : impl_FixMul.f a b = some (fixMul a b) := by
  unfold impl_FixMul.f fixMul
  simp only [impl_FixClamp_eq, Option.bind_some]

theorem FnExactFixMul : laws_FnExactFixMul.Pure := by
  intro a b _ _
  unfold laws_FnExactFixMul.f
  simp only [spec_FixMul_eq, impl_FixMul_eq, Option.bind_some, if_true]

end Go.Proofs.Ytokbfpcooboedaa.Pure
