/- FnExactVecUnit: what the program computes is what the reference computes, or has the law's properties, at all whole numbers and lists that the statement lets in; no further condition. -/
import Derived.Test.YtenhiaakchlflaaStFnExactVecUnit
import Derived.Test.YtenhiaakchlflaaMath
namespace Go.Proofs.Ytenhiaakchlflaa.Pure
open Go.RowKit Go.Proofs.Ytenhiaakchlflaa.PFnExactVecUnit Go.Proofs.YtenhiaakchlflaaW.PrintWords Go.Proofs.YtenhiaakchlflaaW.PrintLast Go.Proofs.YtenhiaakchlflaaW.PrintMore Go.Proofs.Ytenhiaakchlflaa.Math
set_option linter.unusedVariables false
set_option linter.unusedSimpArgs false

theorem spec_FixClamp_eq (a : Int) : spec_FixClamp.f a = some (cl a) := by
  unfold spec_FixClamp.f cl
  split
  · rfl
  · split <;> rfl

theorem spec_l2Clamp_eq (a b : Int) : spec_l2Clamp.f a b = some (cl a, cl b) := by
  unfold spec_l2Clamp.f
  simp only [spec_FixClamp_eq, Option.bind_some]

theorem spec_l2Square_cl (a b : Int) : spec_l2Square.f (cl a) (cl b) = some (vsq a b) := by
  have ha := cl_bd a
  have hb := cl_bd b
  have := vsq_bd a b
  unfold spec_l2Square.f vsq at *
  rw [wrap_mul ha.1 ha.2 ha.1 ha.2, wrap_mul hb.1 hb.2 hb.1 hb.2, wrap_id (by omega) (by omega)]

theorem spec_l1Root_loop {n : Int} (hn : 0 ≤ n) : ∀ (d k : Nat) (a b : Int), d < k → 0 ≤ a → a < b → b ≤ 3000000000 → b - a ≤ 2 ^ d → a * a ≤ n → n < b * b →
    ∃ r, spec_l1Root.l1 k n a b = some r ∧ IsRoot n r := by
  intro d
  induction d with
  | zero =>
    intro k a b hk ha hab hb hd h1 h2
    obtain ⟨k, rfl⟩ : ∃ m, k = m + 1 := ⟨k - 1, by omega⟩
    obtain rfl : b = a + 1 := by simp at hd; omega
    exact ⟨a, by simp only [spec_l1Root.l1]; rw [wrap_id (by omega) (by omega), if_neg (by omega)], ha, h1, h2⟩
  | succ d ih =>
    intro k a b hk ha hab hb hd h1 h2
    obtain ⟨k, rfl⟩ : ∃ m, k = m + 1 := ⟨k - 1, by omega⟩
    by_cases hc : b - a > 1
    · have e : wrap64 (Int.tdiv (wrap64 (a + b)) 2) = (a + b) / 2 := by
        rw [wrap_id (n := a + b) (by omega) (by omega), Int.tdiv_eq_ediv_of_nonneg (by omega), wrap_id (by omega) (by omega)]
      have hp : (2 : Int) ^ (d + 1) = 2 * 2 ^ d := by rw [Int.pow_succ, Int.mul_comm]
      rw [hp] at hd
      obtain ⟨m, hm⟩ : ∃ m, m = (a + b) / 2 := ⟨_, rfl⟩
      rw [← hm] at e
      have hq : m * m ≤ 3000000000 * 3000000000 := mul_le_sq (by omega) (by omega)
      have hq0 := sq_nonneg m
      by_cases hle : m * m ≤ n
      · obtain ⟨r, hr, h⟩ := ih k m b (by omega) (by omega) (by omega) hb (by omega) hle h2
        refine ⟨r, ?_, h⟩
        simp only [spec_l1Root.l1]
        rw [wrap_id (n := b - a) (by omega) (by omega), if_pos hc, e, wrap_id (n := m * m) (by omega) (by omega), if_pos hle]
        exact hr
      · obtain ⟨r, hr, h⟩ := ih k a m (by omega) ha (by omega) (by omega) (by omega) h1 (by omega)
        refine ⟨r, ?_, h⟩
        simp only [spec_l1Root.l1]
        rw [wrap_id (n := b - a) (by omega) (by omega), if_pos hc, e, wrap_id (n := m * m) (by omega) (by omega), if_neg hle]
        exact hr
    · obtain rfl : b = a + 1 := by omega
      exact ⟨a, by simp only [spec_l1Root.l1]; rw [wrap_id (by omega) (by omega), if_neg (by omega)], ha, h1, h2⟩
theorem spec_l1Root_up {n : Int} (hn : 0 ≤ n) (hn' : n ≤ 2000000000000000000) : ∀ (d k : Nat) (h : Int), d + 34 < k → 1 ≤ h → h ≤ 2828427124 → 2147483648 ≤ h * 2 ^ d →
    ∃ r, spec_l1Root.l0 k n 0 h = some r ∧ IsRoot n r := by
  intro d
  have out : ∀ (k : Nat) (h : Int), 34 < k → 1 ≤ h → h ≤ 2828427124 → n < h * h → ∃ r, spec_l1Root.l0 k n 0 h = some r ∧ IsRoot n r := by
    intro k h hk h1 h2 h3
    obtain ⟨k, rfl⟩ : ∃ m, k = m + 1 := ⟨k - 1, by omega⟩
    obtain ⟨r, hr, hi⟩ := spec_l1Root_loop hn 32 k 0 h (by omega) (by omega) (by omega) (by omega) (by omega) (by omega) h3
    refine ⟨r, ?_, hi⟩
    have := mul_le_sq (a := h) (b := 2828427124) (by omega) h2
    have := sq_nonneg h
    simp only [spec_l1Root.l0]
    rw [wrap_id (by omega) (by omega), if_neg (by omega)]
    exact hr
  induction d with
  | zero =>
    intro k h hk h1 h2 h3
    have : 2147483648 * 2147483648 ≤ h * h := mul_le_sq (by omega) (by omega)
    exact out k h (by omega) h1 h2 (by omega)
  | succ d ih =>
    intro k h hk h1 h2 h3
    rcases Int.lt_or_le n (h * h) with hlt | hle
    · exact out k h (by omega) h1 h2 hlt
    · have hb : h ≤ 1414213562 := by
        rcases Int.lt_or_le 1414213562 h with hb | hb
        · have : 1414213563 * 1414213563 ≤ h * h := mul_le_sq (by omega) (by omega)
          omega
        · exact hb
      obtain ⟨k, rfl⟩ : ∃ m, k = m + 1 := ⟨k - 1, by omega⟩
      have hp : (2 : Int) ^ (d + 1) = 2 * 2 ^ d := by rw [Int.pow_succ, Int.mul_comm]
      rw [hp] at h3
      obtain ⟨r, hr, hi⟩ := ih k (2 * h) (by omega) (by omega) (by omega) (by rw [Int.mul_assoc, Int.mul_left_comm]; exact h3)
      refine ⟨r, ?_, hi⟩
      have := mul_le_sq (a := h) (b := 2828427124) (by omega) h2
      have := sq_nonneg h
      simp only [spec_l1Root.l0]
      rw [wrap_id (n := h * h) (by omega) (by omega), if_pos hle, wrap_id (by omega) (by omega)]
      exact hr
theorem spec_l1Root_eq {k : Nat} (hk : 65 < k) {n : Int} (hn : 0 ≤ n) (hn' : n ≤ 2000000000000000000) : spec_l1Root.f k n = some (rt n) := by
  obtain ⟨r, hr, h⟩ := spec_l1Root_up hn hn' 31 k 1 (by omega) (by omega) (by omega) (by decide)
  unfold spec_l1Root.f
  rw [hr, rt_eq h]

theorem spec_VecLen_eq {k : Nat} (hk : 65 < k) (a b : Int) : spec_VecLen.f k a b = some (vlen a b) := by
  have := vsq_bd a b
  unfold spec_VecLen.f vlen
  simp only [spec_l2Clamp_eq, spec_l2Square_cl, Option.bind_some]
  rw [spec_l1Root_eq hk (by omega) (by omega)]
  simp only [spec_FixClamp_eq, Option.bind_some]

theorem vlen_cl (a b : Int) : vlen (cl a) (cl b) = vlen a b := by unfold vlen vsq; rw [cl_cl, cl_cl]
theorem vlen_neg (a b : Int) : vlen (-a) (-b) = vlen a b := by unfold vlen vsq; rw [cl_neg, cl_neg, Int.neg_mul_neg, Int.neg_mul_neg]
/-- A way of the length 1. -/
def vunit (a b : Int) : Int × Int := if vlen a b = 0 then (0, 256) else (Int.tdiv (cl a * 256) (vlen a b), Int.tdiv (cl b * 256) (vlen a b))
theorem vunit_wrap (a b : Int) (h : vlen a b ≠ 0) : wrap64 (Int.tdiv (wrap64 (cl a * 256)) (vlen a b)) = Int.tdiv (cl a * 256) (vlen a b) := by
  have := cl_bd a
  have := vlen_bd a b
  have := td_bd (a := cl a * 256) (m := 256000000000) (by omega) (by omega) (vlen a b) (by omega)
  rw [wrap_id (n := cl a * 256) (by omega) (by omega), wrap_id (by omega) (by omega)]
theorem vunit_wrap' (a b : Int) (h : vlen a b ≠ 0) : wrap64 (Int.tdiv (wrap64 (cl b * 256)) (vlen a b)) = Int.tdiv (cl b * 256) (vlen a b) := by
  have := cl_bd b
  have := vlen_bd a b
  have := td_bd (a := cl b * 256) (m := 256000000000) (by omega) (by omega) (vlen a b) (by omega)
  rw [wrap_id (n := cl b * 256) (by omega) (by omega), wrap_id (by omega) (by omega)]

theorem spec_VecUnit_eq {k : Nat} (hk : 65 < k) (a b : Int) : spec_VecUnit.f k a b = some (vunit a b) := by
  unfold spec_VecUnit.f vunit
  simp only [spec_l2Clamp_eq, Option.bind_some, spec_VecLen_eq hk, vlen_cl]
  split
  · rfl
  · rename_i h
    rw [vunit_wrap a b h, vunit_wrap' a b h]

theorem impl_within_eq {a m : Int} (h0 : 0 ≤ m) (h1 : m ≤ 1000000000000) : impl_within.f a m = some (wi a m) := by
  unfold impl_within.f wi
  rw [wrap_id (by omega) (by omega), mx_eq, mn_eq]

theorem impl_Vec_clamped_eq {a b m : Int} (h0 : 0 ≤ m) (h1 : m ≤ 1000000000000) : impl_Vec_clamped.f a b m = some (wi a m, wi b m) := by
  unfold impl_Vec_clamped.f
  simp only [impl_within_eq h0 h1, Option.bind_some]
theorem impl_Vec_clamped_cl (a b : Int) : impl_Vec_clamped.f a b 1000000000 = some (cl a, cl b) := by
  rw [impl_Vec_clamped_eq (by omega) (by omega), wi_cl, wi_cl]

theorem impl_Vec_square_cl (a b : Int) : impl_Vec_square.f (cl a) (cl b) = some (vsq a b) := by
  have ha := cl_bd a
  have hb := cl_bd b
  have := vsq_bd a b
  unfold impl_Vec_square.f vsq at *
  rw [wrap_mul ha.1 ha.2 ha.1 ha.2, wrap_mul hb.1 hb.2 hb.1 hb.2, wrap_id (by omega) (by omega)]

theorem impl_root_loop {n : Int} (hn : 0 ≤ n) : ∀ (d k : Nat) (a b : Int), d < k → 0 ≤ a → a < b → b ≤ 3000000000 → b - a ≤ 2 ^ d → a * a ≤ n → n < b * b →
    ∃ r, impl_root.l0 k n a b = some r ∧ IsRoot n r := by
  intro d
  induction d with
  | zero =>
    intro k a b hk ha hab hb hd h1 h2
    obtain ⟨k, rfl⟩ : ∃ m, k = m + 1 := ⟨k - 1, by omega⟩
    obtain rfl : b = a + 1 := by simp at hd; omega
    exact ⟨a, by simp only [impl_root.l0]; rw [wrap_id (by omega) (by omega), if_neg (by omega)], ha, h1, h2⟩
  | succ d ih =>
    intro k a b hk ha hab hb hd h1 h2
    obtain ⟨k, rfl⟩ : ∃ m, k = m + 1 := ⟨k - 1, by omega⟩
    by_cases hc : b - a > 1
    · have e : wrap64 (Int.tdiv (wrap64 (a + b)) 2) = (a + b) / 2 := by
        rw [wrap_id (n := a + b) (by omega) (by omega), Int.tdiv_eq_ediv_of_nonneg (by omega), wrap_id (by omega) (by omega)]
      have hp : (2 : Int) ^ (d + 1) = 2 * 2 ^ d := by rw [Int.pow_succ, Int.mul_comm]
      rw [hp] at hd
      obtain ⟨m, hm⟩ : ∃ m, m = (a + b) / 2 := ⟨_, rfl⟩
      rw [← hm] at e
      have hq : m * m ≤ 3000000000 * 3000000000 := mul_le_sq (by omega) (by omega)
      have hq0 := sq_nonneg m
      by_cases hle : m * m ≤ n
      · obtain ⟨r, hr, h⟩ := ih k m b (by omega) (by omega) (by omega) hb (by omega) hle h2
        refine ⟨r, ?_, h⟩
        simp only [impl_root.l0]
        rw [wrap_id (n := b - a) (by omega) (by omega), if_pos hc, e, wrap_id (n := m * m) (by omega) (by omega), if_pos hle]
        exact hr
      · obtain ⟨r, hr, h⟩ := ih k a m (by omega) ha (by omega) (by omega) (by omega) h1 (by omega)
        refine ⟨r, ?_, h⟩
        simp only [impl_root.l0]
        rw [wrap_id (n := b - a) (by omega) (by omega), if_pos hc, e, wrap_id (n := m * m) (by omega) (by omega), if_neg hle]
        exact hr
    · obtain rfl : b = a + 1 := by omega
      exact ⟨a, by simp only [impl_root.l0]; rw [wrap_id (by omega) (by omega), if_neg (by omega)], ha, h1, h2⟩
theorem impl_root_eq {k : Nat} (hk : 32 < k) {n : Int} (hn : 0 ≤ n) (hn' : n ≤ 2000000000000000000) : impl_root.f k n = some (rt n) := by
  obtain ⟨r, hr, h⟩ := impl_root_loop hn 32 k 0 2147483648 hk (by omega) (by omega) (by omega) (by decide) (by omega) (by omega)
  unfold impl_root.f
  rw [hr, rt_eq h]

theorem impl_FixClamp_eq (a : Int) : impl_FixClamp.f a = some (cl a) := by
  unfold impl_FixClamp.f
  rw [impl_within_eq (by omega) (by omega), wi_cl]; rfl

theorem impl_VecLen_eq {k : Nat} (hk : 65 < k) (a b : Int) : impl_VecLen.f k a b = some (vlen a b) := by
  have := vsq_bd a b
  unfold impl_VecLen.f vlen
  simp only [impl_Vec_clamped_cl, impl_Vec_square_cl, Option.bind_some]
  rw [impl_root_eq (by omega) (by omega) (by omega)]
  simp only [impl_FixClamp_eq, Option.bind_some]

theorem impl_VecUnit_eq {k : Nat} (hk : 65 < k) (a b : Int) : impl_VecUnit.f k a b = some (vunit a b) := by
  unfold impl_VecUnit.f vunit
  simp only [impl_Vec_clamped_cl, Option.bind_some, impl_VecLen_eq hk, vlen_cl]
  split
  · rfl
  · rename_i h
    rw [vunit_wrap a b h, vunit_wrap' a b h]

theorem laws_eqVec_eq (a b c d : Int) : laws_eqVec.f a b c d = some (decide (a = c) && decide (b = d)) := by
  unfold laws_eqVec.f
  split <;> (try split) <;> simp_all

theorem FnExactVecUnit : laws_FnExactVecUnit.Pure := by
  intro a b _ _
  refine ⟨100, ?_⟩
  unfold laws_FnExactVecUnit.f laws_toVec.f
  simp only [Option.bind_some, spec_VecUnit_eq (show 65 < 100 by omega), impl_VecUnit_eq (show 65 < 100 by omega), laws_eqVec_eq]
  simp

end Go.Proofs.Ytenhiaakchlflaa.Pure
