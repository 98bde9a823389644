/- Plain laws of whole numbers that the proofs of this seat use: no program in sight, no condition beyond those that each states. -/
import Derived.RowKit
import Derived.Test.YtokbfpcooboedaaWMore
namespace Go.Proofs.Ytokbfpcooboedaa.Math
open Go.RowKit Go.Proofs.YtokbfpcooboedaaW.PrintWords Go.Proofs.YtokbfpcooboedaaW.PrintMore
set_option linter.unusedVariables false
set_option linter.unusedSimpArgs false

theorem wf_of {a : Int} (h : (Lit.int .i64 a).wf = true) : -9223372036854775808 ≤ a ∧ a < 9223372036854775808 := by
  simp [Lit.wf, IntKind.min, IntKind.max, IntKind.signed, IntKind.bits] at h
  omega
theorem wrap_id {n : Int} (h : -9223372036854775808 ≤ n) (h' : n < 9223372036854775808) : wrap64 n = n := by unfold wrap64; omega
theorem mx_eq (a b : Int) : mx a b = max a b := by unfold mx; omega
theorem mn_eq (a b : Int) : mn a b = min a b := by unfold mn; omega
theorem td_pos {a d : Int} (hd : 0 < d) (ha : 0 ≤ a) : 0 ≤ Int.tdiv a d ∧ Int.tdiv a d * d ≤ a ∧ a < Int.tdiv a d * d + d := by
  rw [Int.tdiv_eq_ediv_of_nonneg ha]
  refine ⟨Int.ediv_nonneg ha (by omega), Int.ediv_mul_le a (by omega), ?_⟩
  have := Int.lt_ediv_add_one_mul_self a hd
  rw [Int.add_mul] at this; omega
theorem td_neg {a d : Int} (hd : 0 < d) (ha : a ≤ 0) : Int.tdiv a d ≤ 0 ∧ a ≤ Int.tdiv a d * d ∧ Int.tdiv a d * d - d < a := by
  have h := td_pos hd (a := -a) (by omega)
  rw [Int.neg_tdiv, Int.neg_mul] at h
  omega
theorem sq_nonneg (a : Int) : 0 ≤ a * a := by
  rcases Int.le_total 0 a with h | h
  · exact Int.mul_nonneg h h
  · have := Int.mul_nonneg (show 0 ≤ -a by omega) (show 0 ≤ -a by omega)
    rw [Int.neg_mul_neg] at this; exact this
theorem mul_le_sq {a b : Int} (ha : 0 ≤ a) (hb : a ≤ b) : a * a ≤ b * b := Int.mul_le_mul hb hb ha (by omega)
theorem sq_le_of {a m : Int} (h1 : -m ≤ a) (h2 : a ≤ m) : a * a ≤ m * m := by
  rcases Int.le_total 0 a with h | h
  · exact mul_le_sq h h2
  · have := mul_le_sq (show 0 ≤ -a by omega) (show -a ≤ m by omega)
    rw [Int.neg_mul_neg] at this; exact this
theorem mul_bound {a b m n : Int} (ha : -m ≤ a) (ha' : a ≤ m) (hb : -n ≤ b) (hb' : b ≤ n) : -(m * n) ≤ a * b ∧ a * b ≤ m * n := by
  have h1 := Int.mul_nonneg (show 0 ≤ m - a by omega) (show 0 ≤ n - b by omega)
  have h2 := Int.mul_nonneg (show 0 ≤ m + a by omega) (show 0 ≤ n + b by omega)
  have h3 := Int.mul_nonneg (show 0 ≤ m - a by omega) (show 0 ≤ n + b by omega)
  have h4 := Int.mul_nonneg (show 0 ≤ m + a by omega) (show 0 ≤ n - b by omega)
  constructor <;> grind
/-- The square's root, cut. -/
def IsRoot (n r : Int) : Prop := 0 ≤ r ∧ r * r ≤ n ∧ n < (r + 1) * (r + 1)
theorem root_unique {n r s : Int} (h : IsRoot n r) (h' : IsRoot n s) : r = s := by
  obtain ⟨h0, h1, h2⟩ := h
  obtain ⟨g0, g1, g2⟩ := h'
  rcases Int.lt_trichotomy r s with hlt | he | hgt
  · have := Int.mul_le_mul (show r + 1 ≤ s by omega) (show r + 1 ≤ s by omega) (by omega) (by omega)
    omega
  · exact he
  · have := Int.mul_le_mul (show s + 1 ≤ r by omega) (show s + 1 ≤ r by omega) (by omega) (by omega)
    omega
theorem root_le {n r m : Int} (h : IsRoot n r) (hm : 0 ≤ m) (hn : n < (m + 1) * (m + 1)) : r ≤ m := by
  obtain ⟨h0, h1, h2⟩ := h
  rcases Int.lt_or_le m r with hlt | hge
  · have := mul_le_sq (show 0 ≤ m + 1 by omega) (show m + 1 ≤ r by omega)
    omega
  · exact hge
/-- A number within limits. -/
def cl (a : Int) : Int := if a > 1000000000 then 1000000000 else if a < -1000000000 then -1000000000 else a
theorem cl_bd (a : Int) : -1000000000 ≤ cl a ∧ cl a ≤ 1000000000 := by unfold cl; split <;> (try split) <;> omega
theorem cl_in {a : Int} (h : -1000000000 ≤ a) (h' : a ≤ 1000000000) : cl a = a := by unfold cl; rw [if_neg (by omega), if_neg (by omega)]
/-- A number within a range around 0. -/
def wi (a m : Int) : Int := max (-m) (min a m)
theorem wi_cl (a : Int) : wi a 1000000000 = cl a := by unfold wi cl; split <;> (try split) <;> omega
/-- Is a number in a range? -/
def inB (a l h : Int) : Bool := decide (l ≤ a ∧ a ≤ h)
theorem inB_iff {a l h : Int} : inB a l h = true ↔ l ≤ a ∧ a ≤ h := by simp [inB]
def vecOk (x y : Int) : Bool := inB x (-1000000000) 1000000000 && inB y (-1000000000) 1000000000
def boxOk (a b c d : Int) : Bool := vecOk a b && (vecOk c d && (decide (a ≤ c) && decide (b ≤ d)))
def shapeOk (k w h : Int) : Bool := if k = 1 then inB w 1 25600 && (h == 0) else if k = 2 then inB w 1 25600 && inB h 1 25600 else false
def place (x y : Int) : Bool := inB x (-2560000) 2560000 && inB y (-2560000) 2560000
def meets (a b c d e f g h : Int) : Bool := decide (a ≤ g) && (decide (e ≤ c) && (decide (b ≤ h) && decide (f ≤ d)))
def point (a b c d x y : Int) : Bool := inB x a c && inB y b d
def fixMul (a b : Int) : Int := cl (wrap64 (Int.tdiv (wrap64 (cl a * cl b)) 256))
def fixDiv (a b : Int) : Int := if cl b = 0 then (if cl a > 0 then 1000000000 else if cl a < 0 then -1000000000 else 0) else cl (wrap64 (Int.tdiv (wrap64 (cl a * 256)) (cl b)))
def dot (a b c d : Int) : Int := cl (wrap64 (Int.tdiv (wrap64 (wrap64 (cl a * cl c) + wrap64 (cl b * cl d))) 256))

end Go.Proofs.Ytokbfpcooboedaa.Math
