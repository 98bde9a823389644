/- Plain laws of whole numbers that the proofs of this seat use: no program in sight, no condition beyond those that each states. -/
import Derived.RowKit
import Derived.Test.YtdngjedhbnoaoaaWMore
namespace Go.Proofs.Ytdngjedhbnoaoaa.Math
open Go.RowKit Go.Proofs.YtdngjedhbnoaoaaW.PrintWords Go.Proofs.YtdngjedhbnoaoaaW.PrintMore
set_option linter.unusedVariables false
set_option linter.unusedSimpArgs false

theorem wf_of {a : Int} (h : (Lit.int .i64 a).wf = true) : -9223372036854775808 ≤ a ∧ a < 9223372036854775808 := by
  simp [Lit.wf, IntKind.min, IntKind.max, IntKind.signed, IntKind.bits] at h
  omega
theorem wrap_id {n : Int} (h : -9223372036854775808 ≤ n) (h' : n < 9223372036854775808) : wrap64 n = n := by unfold wrap64; omega
theorem mx_eq (a b : Int) : mx a b = max a b := by unfold mx; omega
theorem mn_eq (a b : Int) : mn a b = min a b := by unfold mn; omega
theorem td_pos {a d : Int} (hd : 0 < d) (ha : 0 ≤ a) : 0 ≤ Int.tdiv a d ∧ Int.tdiv a d * d ≤ a ∧ a < Int.tdiv a d * d + d := by
  rw [Int.tdiv_eq_ediv_of_nonneg ha]
  refine ⟨Int.ediv_nonneg ha (by omega), Int.ediv_mul_le a (by omega), ?_⟩
  have := Int.lt_ediv_add_one_mul_self a hd
  rw [Int.add_mul] at this; omega
theorem td_neg {a d : Int} (hd : 0 < d) (ha : a ≤ 0) : Int.tdiv a d ≤ 0 ∧ a ≤ Int.tdiv a d * d ∧ Int.tdiv a d * d - d < a := by
  have h := td_pos hd (a := -a) (by omega)
  rw [Int.neg_tdiv, Int.neg_mul] at h
  omega
theorem sq_nonneg (a : Int) : 0 ≤ a * a := by
  rcases Int.le_total 0 a with h | h
  · exact Int.mul_nonneg h h
  · have := Int.mul_nonneg (show 0 ≤ -a by omega) (show 0 ≤ -a by omega)
    rw [Int.neg_mul_neg] at this; exact this
theorem mul_le_sq {a b : Int} (ha : 0 ≤ a) (hb : a ≤ b) : a * a ≤ b * b := Int.mul_le_mul hb hb ha (by omega)
theorem sq_le_of {a m : Int} (h1 : -m ≤ a) (h2 : a ≤ m) : a * a ≤ m * m := by
  rcases Int.le_total 0 a with h | h
  · exact mul_le_sq h h2
  · have := mul_le_sq (show 0 ≤ -a by omega) (show -a ≤ m by omega)
    rw [Int.neg_mul_neg] at this; exact this
theorem mul_bound {a b m n : Int} (ha : -m ≤ a) (ha' : a ≤ m) (hb : -n ≤ b) (hb' : b ≤ n) : -(m * n) ≤ a * b ∧ a * b ≤ m * n := by
  have h1 := Int.mul_nonneg (show 0 ≤ m - a by omega) (show 0 ≤ n - b by omega)
  have h2 := Int.mul_nonneg (show 0 ≤ m + a by omega) (show 0 ≤ n + b by omega)
  have h3 := Int.mul_nonneg (show 0 ≤ m - a by omega) (show 0 ≤ n + b by omega)
  have h4 := Int.mul_nonneg (show 0 ≤ m + a by omega) (show 0 ≤ n - b by omega)
  constructor <;> grind
/-- The square's root, cut. -/
def IsRoot (n r : Int) : Prop := 0 ≤ r ∧ r * r ≤ n ∧ n < (r + 1) * (r + 1)
theorem root_unique {n r s : Int} (h : IsRoot n r) (h' : IsRoot n s) : r = s := by
  obtain ⟨h0, h1, h2⟩ := h
  obtain ⟨g0, g1, g2⟩ := h'
  rcases Int.lt_trichotomy r s with hlt | he | hgt
  · have := Int.mul_le_mul (show r + 1 ≤ s by omega) (show r + 1 ≤ s by omega) (by omega) (by omega)
    omega
  · exact he
  · have := Int.mul_le_mul (show s + 1 ≤ r by omega) (show s + 1 ≤ r by omega) (by omega) (by omega)
    omega
theorem root_le {n r m : Int} (h : IsRoot n r) (hm : 0 ≤ m) (hn : n < (m + 1) * (m + 1)) : r ≤ m := by
  obtain ⟨h0, h1, h2⟩ := h
  rcases Int.lt_or_le m r with hlt | hge
  · have := mul_le_sq (show 0 ≤ m + 1 by omega) (show m + 1 ≤ r by omega)
    omega
  · exact hge
/-- A number within limits. -/
def cl (a : Int) : Int := if a > 1000000000 then 1000000000 else if a < -1000000000 then -1000000000 else a
theorem cl_bd (a : Int) : -1000000000 ≤ cl a ∧ cl a ≤ 1000000000 := by unfold cl; split <;> (try split) <;> omega
theorem cl_in {a : Int} (h : -1000000000 ≤ a) (h' : a ≤ 1000000000) : cl a = a := by unfold cl; rw [if_neg (by omega), if_neg (by omega)]
/-- A number within a range around 0. -/
def wi (a m : Int) : Int := max (-m) (min a m)
theorem wi_cl (a : Int) : wi a 1000000000 = cl a := by unfold wi cl; split <;> (try split) <;> omega
/-- Is a number in a range? -/
def inB (a l h : Int) : Bool := decide (l ≤ a ∧ a ≤ h)
theorem inB_iff {a l h : Int} : inB a l h = true ↔ l ≤ a ∧ a ≤ h := by simp [inB]
def vecOk (x y : Int) : Bool := inB x (-1000000000) 1000000000 && inB y (-1000000000) 1000000000
def boxOk (a b c d : Int) : Bool := vecOk a b && (vecOk c d && (decide (a ≤ c) && decide (b ≤ d)))
def shapeOk (k w h : Int) : Bool := if k = 1 then inB w 1 25600 && (h == 0) else if k = 2 then inB w 1 25600 && inB h 1 25600 else false
def place (x y : Int) : Bool := inB x (-2560000) 2560000 && inB y (-2560000) 2560000
def meets (a b c d e f g h : Int) : Bool := decide (a ≤ g) && (decide (e ≤ c) && (decide (b ≤ h) && decide (f ≤ d)))
def point (a b c d x y : Int) : Bool := inB x a c && inB y b d
def fixMul (a b : Int) : Int := cl (wrap64 (Int.tdiv (wrap64 (cl a * cl b)) 256))
def fixDiv (a b : Int) : Int := if cl b = 0 then (if cl a > 0 then 1000000000 else if cl a < 0 then -1000000000 else 0) else cl (wrap64 (Int.tdiv (wrap64 (cl a * 256)) (cl b)))
def dot (a b c d : Int) : Int := cl (wrap64 (Int.tdiv (wrap64 (wrap64 (cl a * cl c) + wrap64 (cl b * cl d))) 256))
theorem wrap_mul {a b : Int} (ha : -1000000000 ≤ a) (ha' : a ≤ 1000000000) (hb : -1000000000 ≤ b) (hb' : b ≤ 1000000000) : wrap64 (a * b) = a * b := by
  have := mul_bound ha ha' hb hb'
  exact wrap_id (by omega) (by omega)
theorem td_bd {a : Int} {m : Int} (h : -m ≤ a) (h' : a ≤ m) (d : Int) (hd : 0 < d) : -m ≤ Int.tdiv a d ∧ Int.tdiv a d ≤ m := by
  rcases Int.le_total 0 a with h0 | h0
  · obtain ⟨h1, h2, _⟩ := td_pos hd h0
    have := Int.mul_le_mul_of_nonneg_left (show 1 ≤ d by omega) h1
    omega
  · obtain ⟨h1, h2, _⟩ := td_neg hd h0
    have := Int.mul_le_mul_of_nonneg_left (show 1 ≤ d by omega) (show 0 ≤ -Int.tdiv a d by omega)
    simp only [Int.neg_mul, Int.mul_one] at this
    omega
theorem cl_cl (a : Int) : cl (cl a) = cl a := cl_in (cl_bd a).1 (cl_bd a).2
theorem cl_neg (a : Int) : cl (-a) = -cl a := by unfold cl; split <;> (try split) <;> (try split) <;> (try split) <;> omega
theorem fixMul_eq (a b : Int) : fixMul a b = cl (Int.tdiv (cl a * cl b) 256) := by
  have ha := cl_bd a
  have hb := cl_bd b
  unfold fixMul
  rw [wrap_mul ha.1 ha.2 hb.1 hb.2]
  have := mul_bound ha.1 ha.2 hb.1 hb.2
  have := td_bd this.1 this.2 256 (by omega)
  rw [wrap_id (by omega) (by omega)]
theorem fixMul_bd (a b : Int) : -1000000000 ≤ fixMul a b ∧ fixMul a b ≤ 1000000000 := by rw [fixMul_eq]; exact cl_bd _
theorem fixMul_comm (a b : Int) : fixMul a b = fixMul b a := by rw [fixMul_eq, fixMul_eq, Int.mul_comm]
theorem fixMul_neg (a b : Int) : fixMul (-a) b = -fixMul a b := by rw [fixMul_eq, fixMul_eq, cl_neg, Int.neg_mul, Int.neg_tdiv, cl_neg]
theorem fixMul_one (a : Int) : fixMul a 256 = cl a := by
  rw [fixMul_eq, cl_in (a := 256) (by omega) (by omega), Int.mul_tdiv_cancel _ (by omega), cl_cl]
theorem fixMul_zero (a : Int) : fixMul a 0 = 0 := by
  rw [fixMul_eq, cl_in (a := 0) (by omega) (by omega), Int.mul_zero]; rfl
theorem fixMul_cl (a b : Int) : fixMul (cl a) (cl b) = fixMul a b := by rw [fixMul_eq, fixMul_eq, cl_cl, cl_cl]
def rtN : Nat → Nat
  | 0 => 0
  | n + 1 => if (rtN n + 1) * (rtN n + 1) ≤ n + 1 then rtN n + 1 else rtN n
theorem rtN_is : ∀ n, rtN n * rtN n ≤ n ∧ n < (rtN n + 1) * (rtN n + 1)
  | 0 => ⟨Nat.le_refl _, by decide⟩
  | n + 1 => by
    obtain ⟨h1, h2⟩ := rtN_is n
    unfold rtN
    split
    · rename_i h
      refine ⟨h, ?_⟩
      have : (rtN n + 1 + 1) * (rtN n + 1 + 1) = (rtN n + 1) * (rtN n + 1) + 2 * rtN n + 3 := by grind
      omega
    · omega
/-- The root of what is not below 0, cut. -/
def rt (n : Int) : Int := (rtN n.toNat : Int)
theorem rt_is {n : Int} (h : 0 ≤ n) : IsRoot n (rt n) := by
  obtain ⟨h1, h2⟩ := rtN_is n.toNat
  unfold rt IsRoot
  refine ⟨by omega, ?_, ?_⟩
  · have : ((rtN n.toNat * rtN n.toNat : Nat) : Int) ≤ n := by omega
    simpa using this
  · have : n < (((rtN n.toNat + 1) * (rtN n.toNat + 1) : Nat) : Int) := by omega
    simpa using this
theorem rt_eq {n r : Int} (h : IsRoot n r) : rt n = r := root_unique (rt_is (by have := sq_nonneg r; have := h.2.1; omega)) h
def vsq (x y : Int) : Int := cl x * cl x + cl y * cl y
theorem vsq_bd (x y : Int) : 0 ≤ vsq x y ∧ vsq x y ≤ 2000000000000000000 := by
  have hx := cl_bd x
  have hy := cl_bd y
  have := sq_nonneg (cl x)
  have := sq_nonneg (cl y)
  have := sq_le_of hx.1 hx.2
  have := sq_le_of hy.1 hy.2
  unfold vsq
  omega
def vlen (x y : Int) : Int := cl (rt (vsq x y))
theorem vlen_bd (x y : Int) : 0 ≤ vlen x y ∧ vlen x y ≤ 1000000000 := by
  have h := rt_is (vsq_bd x y).1
  have := h.1
  unfold vlen
  have := cl_bd (rt (vsq x y))
  refine ⟨?_, this.2⟩
  unfold cl
  split <;> (try split) <;> omega
theorem rt_vsq_bd (x y : Int) : 0 ≤ rt (vsq x y) ∧ rt (vsq x y) ≤ 1414213562 :=
  ⟨(rt_is (vsq_bd x y).1).1, root_le (rt_is (vsq_bd x y).1) (by omega) (by have := (vsq_bd x y).2; omega)⟩
theorem vsq_cs {a b c d A B : Int} (hA : 0 ≤ A) (hB : 0 ≤ B) (h1 : a * a + b * b < A * A) (h2 : c * c + d * d < B * B) : -(A * B) < a * c + b * d ∧ a * c + b * d < A * B := by
  have hid : (a * c + b * d) * (a * c + b * d) + (a * d - b * c) * (a * d - b * c) = (a * a + b * b) * (c * c + d * d) := by grind
  have h0 := sq_nonneg (a * d - b * c)
  have hp : (a * a + b * b) * (c * c + d * d) < (A * A) * (B * B) := by
    have g1 := sq_nonneg a
    have g2 := sq_nonneg b
    have g3 := sq_nonneg c
    have g4 := sq_nonneg d
    have e1 : (a * a + b * b) * (c * c + d * d) ≤ (a * a + b * b) * (B * B) := Int.mul_le_mul_of_nonneg_left (by omega) (by omega)
    have e2 : (a * a + b * b) * (B * B) < (A * A) * (B * B) := Int.mul_lt_mul_of_pos_right h1 (by omega)
    omega
  have hAB : 0 ≤ A * B := Int.mul_nonneg hA hB
  have hsq : (A * A) * (B * B) = (A * B) * (A * B) := by grind
  generalize a * c + b * d = x at hid ⊢
  generalize A * B = y at hsq hAB ⊢
  constructor
  · rcases Int.lt_or_le (-y) x with h | h
    · exact h
    · have := mul_le_sq hAB (show y ≤ -x by omega)
      rw [Int.neg_mul_neg] at this
      omega
  · rcases Int.lt_or_le x y with h | h
    · exact h
    · have := mul_le_sq hAB h
      omega
/-- The root of both squares together is no more than both roots, and 1. -/
theorem root_tri {a b c d A B C : Int} (hA : IsRoot (a * a + b * b) A) (hB : IsRoot (c * c + d * d) B) (hC : 0 ≤ C) (h : C * C ≤ (a + c) * (a + c) + (b + d) * (b + d)) : C ≤ A + B + 1 := by
  obtain ⟨a0, a1, a2⟩ := hA
  obtain ⟨b0, b1, b2⟩ := hB
  have := (vsq_cs (show 0 ≤ A + 1 by omega) (show 0 ≤ B + 1 by omega) a2 b2).2
  rcases Int.lt_or_le (A + B + 1) C with hlt | hle
  · have h1 := mul_le_sq (show 0 ≤ A + B + 2 by omega) (show A + B + 2 ≤ C by omega)
    have h2 : (A + B + 2) * (A + B + 2) = (A + 1) * (A + 1) + (B + 1) * (B + 1) + 2 * ((A + 1) * (B + 1)) := by grind
    have h3 : (a + c) * (a + c) + (b + d) * (b + d) = (a * a + b * b) + (c * c + d * d) + 2 * (a * c + b * d) := by grind
    omega
  · exact hle
/-- A way made as long as 1: its squares together. -/
theorem unit_sq {x y n p q : Int} (hn : 256 ≤ n) (hr : IsRoot (x * x + y * y) n) (hx : 0 ≤ x) (hy : 0 ≤ y) (hp : p * n ≤ x * 256) (hp' : x * 256 < p * n + n) (hq : q * n ≤ y * 256) (hq' : y * 256 < q * n + n) (hp0 : 0 ≤ p) (hq0 : 0 ≤ q) :
    64009 ≤ p * p + q * q ∧ p * p + q * q ≤ 66049 := by
  obtain ⟨_, r1, r2⟩ := hr
  have hpn : 0 ≤ p * n := Int.mul_nonneg hp0 (by omega)
  have hqn : 0 ≤ q * n := Int.mul_nonneg hq0 (by omega)
  constructor
  · have e1 : x * 256 * (x * 256) ≤ ((p + 1) * n) * ((p + 1) * n) := mul_le_sq (by omega) (by rw [Int.add_mul]; omega)
    have e2 : y * 256 * (y * 256) ≤ ((q + 1) * n) * ((q + 1) * n) := mul_le_sq (by omega) (by rw [Int.add_mul]; omega)
    have e3 : ((p + 1) * n) * ((p + 1) * n) + ((q + 1) * n) * ((q + 1) * n) = ((p + 1) * (p + 1) + (q + 1) * (q + 1)) * (n * n) := by grind
    have e4 : x * 256 * (x * 256) + y * 256 * (y * 256) = 65536 * (x * x + y * y) := by grind
    have e5 : 65536 * (n * n) ≤ ((p + 1) * (p + 1) + (q + 1) * (q + 1)) * (n * n) := by omega
    have e6 : 65536 ≤ (p + 1) * (p + 1) + (q + 1) * (q + 1) := Int.le_of_mul_le_mul_right e5 (by have := mul_le_sq (show (0 : Int) ≤ 256 by omega) hn; omega)
    have e7 : (p + 1) * (p + 1) + (q + 1) * (q + 1) = p * p + q * q + 2 * (p + q) + 2 := by grind
    have e8 : (p + q) * (p + q) + (p - q) * (p - q) = 2 * (p * p + q * q) := by grind
    have e9 := sq_nonneg (p - q)
    rcases Int.lt_or_le (p * p + q * q) 64009 with hlt | hle
    · have : 763 * 763 ≤ (p + q) * (p + q) := mul_le_sq (by omega) (by omega)
      omega
    · exact hle
  · have e1 : (p * n) * (p * n) ≤ x * 256 * (x * 256) := mul_le_sq hpn hp
    have e2 : (q * n) * (q * n) ≤ y * 256 * (y * 256) := mul_le_sq hqn hq
    have e3 : (p * n) * (p * n) + (q * n) * (q * n) = (p * p + q * q) * (n * n) := by grind
    have e4 : x * 256 * (x * 256) + y * 256 * (y * 256) = 65536 * (x * x + y * y) := by grind
    have e5 : (256 * (n + 1)) * (256 * (n + 1)) ≤ (257 * n) * (257 * n) := mul_le_sq (by omega) (by omega)
    have e6 : (256 * (n + 1)) * (256 * (n + 1)) = 65536 * ((n + 1) * (n + 1)) := by grind
    have e7 : (257 * n) * (257 * n) = 66049 * (n * n) := by grind
    have e8 : (p * p + q * q) * (n * n) ≤ 66049 * (n * n) := by omega
    exact Int.le_of_mul_le_mul_right e8 (by have := mul_le_sq (show (0 : Int) ≤ 256 by omega) hn; omega)
theorem dot_le {a b c d A B : Int} (hA : 0 ≤ A) (hB : 0 ≤ B) (h1 : a * a + b * b ≤ A * A) (h2 : c * c + d * d ≤ B * B) : -(A * B) ≤ a * c + b * d ∧ a * c + b * d ≤ A * B := by
  have hid : (a * c + b * d) * (a * c + b * d) + (a * d - b * c) * (a * d - b * c) = (a * a + b * b) * (c * c + d * d) := by grind
  have h0 := sq_nonneg (a * d - b * c)
  have hp : (a * a + b * b) * (c * c + d * d) ≤ (A * A) * (B * B) := by
    have g1 := sq_nonneg a
    have g2 := sq_nonneg b
    have g3 := sq_nonneg c
    have g4 := sq_nonneg d
    exact Int.mul_le_mul h1 h2 (by omega) (by omega)
  have hAB : 0 ≤ A * B := Int.mul_nonneg hA hB
  have hsq : (A * A) * (B * B) = (A * B) * (A * B) := by grind
  generalize a * c + b * d = x at hid ⊢
  generalize A * B = y at hsq hAB ⊢
  have key : ∀ z : Int, z * z ≤ y * y → z ≤ y := by
    intro z hz
    rcases Int.lt_or_le y z with h | h
    · have := mul_le_sq (show 0 ≤ y + 1 by omega) (show y + 1 ≤ z by omega)
      have e : (y + 1) * (y + 1) = y * y + 2 * y + 1 := by grind
      omega
    · exact h
  constructor
  · have := key (-x) (by rw [Int.neg_mul_neg]; omega)
    omega
  · exact key x (by omega)
theorem len_sum {a b c d A B : Int} (hA : 0 ≤ A) (hB : 0 ≤ B) (h1 : a * a + b * b ≤ A * A) (h2 : c * c + d * d ≤ B * B) : (a + c) * (a + c) + (b + d) * (b + d) ≤ (A + B) * (A + B) := by
  have := (dot_le hA hB h1 h2).2
  have e1 : (a + c) * (a + c) + (b + d) * (b + d) = (a * a + b * b) + (c * c + d * d) + 2 * (a * c + b * d) := by grind
  have e2 : (A + B) * (A + B) = A * A + B * B + 2 * (A * B) := by grind
  omega
/-- No way is longer than its length and a half. -/
theorem sq_two {x y n : Int} (hn : 1 ≤ n) (hr : IsRoot (x * x + y * y) n) : x * x + y * y ≤ 2 * (n * n) := by
  obtain ⟨_, _, h⟩ := hr
  have e : (n + 1) * (n + 1) = n * n + 2 * n + 1 := by grind
  by_cases h1 : n = 1
  · subst h1
    have gx := sq_nonneg x
    have gy := sq_nonneg y
    have h3 : x * x + y * y ≤ 3 := by omega
    have hx : -1 ≤ x ∧ x ≤ 1 := by
      constructor
      · rcases Int.lt_or_le x (-1) with hh | hh
        · have := mul_le_sq (show (0 : Int) ≤ 2 by omega) (show 2 ≤ -x by omega)
          rw [Int.neg_mul_neg] at this
          omega
        · exact hh
      · rcases Int.lt_or_le 1 x with hh | hh
        · have := mul_le_sq (show (0 : Int) ≤ 2 by omega) (show 2 ≤ x by omega)
          omega
        · exact hh
    have hy : -1 ≤ y ∧ y ≤ 1 := by
      constructor
      · rcases Int.lt_or_le y (-1) with hh | hh
        · have := mul_le_sq (show (0 : Int) ≤ 2 by omega) (show 2 ≤ -y by omega)
          rw [Int.neg_mul_neg] at this
          omega
        · exact hh
      · rcases Int.lt_or_le 1 y with hh | hh
        · have := mul_le_sq (show (0 : Int) ≤ 2 by omega) (show 2 ≤ y by omega)
          omega
        · exact hh
    have := sq_le_of hx.1 hx.2
    have := sq_le_of hy.1 hy.2
    omega
  · have : 2 * n ≤ n * n := Int.mul_le_mul_of_nonneg_right (show 2 ≤ n by omega) (show 0 ≤ n by omega)
    omega
theorem unit_sq1 {x y n p q : Int} (hn : 1 ≤ n) (hr : IsRoot (x * x + y * y) n) (hx : 0 ≤ x) (hy : 0 ≤ y) (hp : p * n ≤ x * 256) (hp' : x * 256 < p * n + n) (hq : q * n ≤ y * 256) (hq' : y * 256 < q * n + n) (hp0 : 0 ≤ p) (hq0 : 0 ≤ q) :
    64009 ≤ p * p + q * q ∧ p * p + q * q ≤ 131072 := by
  have h2 := sq_two hn hr
  obtain ⟨_, r1, r2⟩ := hr
  have hpn : 0 ≤ p * n := Int.mul_nonneg hp0 (by omega)
  have hqn : 0 ≤ q * n := Int.mul_nonneg hq0 (by omega)
  have hnn : 0 < n * n := by have := mul_le_sq (show (0 : Int) ≤ 1 by omega) hn; omega
  constructor
  · have e1 : x * 256 * (x * 256) ≤ ((p + 1) * n) * ((p + 1) * n) := mul_le_sq (by omega) (by rw [Int.add_mul]; omega)
    have e2 : y * 256 * (y * 256) ≤ ((q + 1) * n) * ((q + 1) * n) := mul_le_sq (by omega) (by rw [Int.add_mul]; omega)
    have e3 : ((p + 1) * n) * ((p + 1) * n) + ((q + 1) * n) * ((q + 1) * n) = ((p + 1) * (p + 1) + (q + 1) * (q + 1)) * (n * n) := by grind
    have e4 : x * 256 * (x * 256) + y * 256 * (y * 256) = 65536 * (x * x + y * y) := by grind
    have e5 : 65536 * (n * n) ≤ ((p + 1) * (p + 1) + (q + 1) * (q + 1)) * (n * n) := by omega
    have e6 : 65536 ≤ (p + 1) * (p + 1) + (q + 1) * (q + 1) := Int.le_of_mul_le_mul_right e5 hnn
    have e7 : (p + 1) * (p + 1) + (q + 1) * (q + 1) = p * p + q * q + 2 * (p + q) + 2 := by grind
    have e8 : (p + q) * (p + q) + (p - q) * (p - q) = 2 * (p * p + q * q) := by grind
    have e9 := sq_nonneg (p - q)
    rcases Int.lt_or_le (p * p + q * q) 64009 with hlt | hle
    · have : 763 * 763 ≤ (p + q) * (p + q) := mul_le_sq (by omega) (by omega)
      omega
    · exact hle
  · have e1 : (p * n) * (p * n) ≤ x * 256 * (x * 256) := mul_le_sq hpn hp
    have e2 : (q * n) * (q * n) ≤ y * 256 * (y * 256) := mul_le_sq hqn hq
    have e3 : (p * n) * (p * n) + (q * n) * (q * n) = (p * p + q * q) * (n * n) := by grind
    have e4 : x * 256 * (x * 256) + y * 256 * (y * 256) = 65536 * (x * x + y * y) := by grind
    have e8 : (p * p + q * q) * (n * n) ≤ 131072 * (n * n) := by omega
    exact Int.le_of_mul_le_mul_right e8 hnn
/-- One number of a way that is pushed out: 'l' its length, 'n' how far, 'p' its number made as long as 1, 'e' how far that goes. -/
theorem out_one {x l n p e c : Int} (hx : 0 ≤ x) (hl : 1 ≤ l) (hn : 0 ≤ n) (hp' : x * 256 < p * l + l) (he : p * n < e * 256 + 256) (hc : n + 255 ≤ 256 * c) : (l + n) * x - c * l ≤ l * (x + e) := by
  have h1 : n * (x * 256) ≤ n * (p * l + l - 1) := Int.mul_le_mul_of_nonneg_left (by omega) hn
  have h2 : l * (p * n) ≤ l * (e * 256 + 255) := Int.mul_le_mul_of_nonneg_left (by omega) (by omega)
  have h3 : l * (n + 255) ≤ l * (256 * c) := Int.mul_le_mul_of_nonneg_left hc (by omega)
  have e1 : n * (x * 256) = 256 * (n * x) := by grind
  have e2 : n * (p * l + l - 1) = l * (p * n) + l * n - n := by grind
  have e3 : l * (e * 256 + 255) = 256 * (l * e) + 255 * l := by grind
  have e4 : l * (256 * c) = 256 * (c * l) := by grind
  have e5 : l * (n + 255) = l * n + 255 * l := by grind
  have e6 : (l + n) * x = l * x + n * x := by grind
  have e7 : l * (x + e) = l * x + l * e := by grind
  omega
theorem sq_less {m c v : Int} (hm : 0 ≤ m) (hv : 0 ≤ v) (h : m - c ≤ v) (hc : 0 ≤ c) : m * m - 2 * (m * c) ≤ v * v := by
  have hv2 := sq_nonneg v
  rcases Int.lt_or_le m c with hlt | hle
  · have : m * m ≤ m * c := Int.mul_le_mul_of_nonneg_left (by omega) hm
    have : 0 ≤ m * c := Int.mul_nonneg hm hc
    omega
  · have := mul_le_sq (show 0 ≤ m - c by omega) h
    have e : (m - c) * (m - c) = m * m - 2 * (m * c) + c * c := by grind
    have := sq_nonneg c
    omega
/-- What is pushed out as deep as it was in, and 2, is hardly in: 'x', 'y' the way between, 'l' its length, 'h' how deep, 'e', 'f' how far it goes. -/
theorem out_far {x y l h e f p q : Int} (hx : 0 ≤ x) (hy : 0 ≤ y) (hl : 1 ≤ l) (hr : IsRoot (x * x + y * y) l) (hh : 0 ≤ h)
    (hp' : x * 256 < p * l + l) (hq' : y * 256 < q * l + l) (he : p * (h + 2) < e * 256 + 256) (hf : q * (h + 2) < f * 256 + 256) (he0 : 0 ≤ e) (hf0 : 0 ≤ f) (hk : 0 ≤ l + h - 6 - h / 8) :
    (l + h - 6 - h / 8) * (l + h - 6 - h / 8) ≤ (x + e) * (x + e) + (y + f) * (y + f) := by
  obtain ⟨c, hc⟩ : ∃ c, c = (h + 2) / 256 + 2 := ⟨_, rfl⟩
  obtain ⟨m, hm⟩ : ∃ m, m = l + (h + 2) := ⟨_, rfl⟩
  have h2 := sq_two hl hr
  have a1 := out_one hx hl (show 0 ≤ h + 2 by omega) hp' he (c := c) (by omega)
  have a2 := out_one hy hl (show 0 ≤ h + 2 by omega) hq' hf (c := c) (by omega)
  rw [← hm] at a1 a2
  have hm0 : 0 ≤ m := by omega
  have hc0 : 0 ≤ c := by omega
  have hcl : 0 ≤ c * l := Int.mul_nonneg hc0 (by omega)
  have b1 := sq_less (Int.mul_nonneg hm0 hx) (Int.mul_nonneg (show 0 ≤ l by omega) (show 0 ≤ x + e by omega)) a1 hcl
  have b2 := sq_less (Int.mul_nonneg hm0 hy) (Int.mul_nonneg (show 0 ≤ l by omega) (show 0 ≤ y + f by omega)) a2 hcl
  have hxy : x + y ≤ 2 * l := by
    have g : (x + y) * (x + y) + (x - y) * (x - y) = 2 * (x * x + y * y) := by grind
    have g0 := sq_nonneg (x - y)
    rcases Int.lt_or_le (2 * l) (x + y) with hlt | hle
    · have := mul_le_sq (show 0 ≤ 2 * l + 1 by omega) (show 2 * l + 1 ≤ x + y by omega)
      have e : (2 * l + 1) * (2 * l + 1) = 4 * (l * l) + 4 * l + 1 := by grind
      omega
    · exact hle
  have hll : 0 < l * l := by have := mul_le_sq (show (0 : Int) ≤ 1 by omega) hl; omega
  -- all of it, times l squared
  have s1 : m * x * (m * x) + m * y * (m * y) = m * m * (x * x + y * y) := by grind
  have s2 : m * m * (l * l) ≤ m * m * (x * x + y * y) := Int.mul_le_mul_of_nonneg_left hr.2.1 (sq_nonneg m)
  have s3 : m * x * (c * l) + m * y * (c * l) = (m * (c * l)) * (x + y) := by grind
  have s4 : (m * (c * l)) * (x + y) ≤ (m * (c * l)) * (2 * l) := Int.mul_le_mul_of_nonneg_left hxy (Int.mul_nonneg hm0 hcl)
  have s5 : (m * (c * l)) * (2 * l) = 2 * (m * c) * (l * l) := by grind
  have s6 : l * (x + e) * (l * (x + e)) + l * (y + f) * (l * (y + f)) = ((x + e) * (x + e) + (y + f) * (y + f)) * (l * l) := by grind
  have s7 : (m * m - 4 * (m * c)) * (l * l) ≤ ((x + e) * (x + e) + (y + f) * (y + f)) * (l * l) := by
    have : (m * m - 4 * (m * c)) * (l * l) = m * m * (l * l) - 2 * (2 * (m * c) * (l * l)) := by grind
    omega
  have s8 : m * m - 4 * (m * c) ≤ (x + e) * (x + e) + (y + f) * (y + f) := Int.le_of_mul_le_mul_right s7 hll
  obtain ⟨s, hs⟩ : ∃ s, s = 8 + h / 8 := ⟨_, rfl⟩
  have hk' : l + h - 6 - h / 8 = m - s := by omega
  rw [hk'] at hk ⊢
  have t1 : (m - s) * (m - s) = m * m - 2 * (m * s) + s * s := by grind
  have t2 : s * s ≤ m * s := Int.mul_le_mul_of_nonneg_right (by omega) (by omega)
  have t3 : m * (4 * c) ≤ m * s := Int.mul_le_mul_of_nonneg_left (by omega) hm0
  have t4 : m * (4 * c) = 4 * (m * c) := by grind
  omega
theorem cl_nonneg {a : Int} (h : 0 ≤ a) : 0 ≤ cl a := by unfold cl; split <;> (try split) <;> omega
theorem cl_le {a : Int} (h : 0 ≤ a) : cl a ≤ a := by unfold cl; split <;> (try split) <;> omega
theorem cl_sq (x : Int) : cl x * cl x ≤ x * x := by
  unfold cl
  split
  · exact mul_le_sq (by omega) (by omega)
  · split
    · have := mul_le_sq (a := 1000000000) (b := -x) (by omega) (by omega)
      rw [Int.neg_mul_neg] at this
      omega
    · omega
theorem vlen_rt (a b : Int) : vlen a b ≤ rt (vsq a b) := by
  unfold vlen
  exact cl_le (rt_is (vsq_bd a b).1).1
theorem vsq_sum (a b c d : Int) : vsq (cl (cl a + cl c)) (cl (cl b + cl d)) ≤ (cl a + cl c) * (cl a + cl c) + (cl b + cl d) * (cl b + cl d) := by
  have h1 := cl_sq (cl a + cl c)
  have h2 := cl_sq (cl b + cl d)
  unfold vsq
  rw [cl_cl, cl_cl]
  omega

end Go.Proofs.Ytdngjedhbnoaoaa.Math
