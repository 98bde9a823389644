/- FnExactTouch: what the program computes is what the reference computes, or has the law's properties, at all whole numbers and lists that the statement lets in; no further condition. -/
import Derived.Test.YtihajbjkjclmoaaStFnExactTouch
import Derived.Test.YtihajbjkjclmoaaMath
namespace Go.Proofs.Ytihajbjkjclmoaa.Pure
open Go.RowKit Go.Proofs.Ytihajbjkjclmoaa.PBig Go.Proofs.YtihajbjkjclmoaaW.PrintWords Go.Proofs.YtihajbjkjclmoaaW.PrintLast Go.Proofs.YtihajbjkjclmoaaW.PrintMore Go.Proofs.Ytihajbjkjclmoaa.Math
set_option linter.unusedVariables false
set_option linter.unusedSimpArgs false

theorem spec_l1In_eq (a l h : Int) : spec_l1In.f a l h = some (inB a l h) := by
  unfold spec_l1In.f inB
  split <;> simp <;> omega

theorem spec_ShapeOk_eq (k w h : Int) : spec_ShapeOk.f k w h = some (shapeOk k w h) := by
  unfold spec_ShapeOk.f shapeOk
  simp only [spec_l1In_eq, Option.bind_some]
  by_cases h1 : k = 1
  · rw [if_pos h1, if_pos h1]; cases inB w 1 25600 <;> simp
  · rw [if_neg h1, if_neg h1]
    by_cases h2 : k = 2
    · rw [if_pos h2, if_pos h2]; cases inB w 1 25600 <;> simp
    · rw [if_neg h2, if_neg h2]

theorem spec_l3Place_eq (a b : Int) : spec_l3Place.f a b = some (place a b) := by
  unfold spec_l3Place.f place
  simp only [spec_l1In_eq, Option.bind_some]
  cases inB a (-2560000) 2560000 <;> simp

theorem spec_FixClamp_eq (a : Int) : spec_FixClamp.f a = some (cl a) := by
  unfold spec_FixClamp.f cl
  split
  · rfl
  · split <;> rfl

theorem spec_l2Clamp_eq (a b : Int) : spec_l2Clamp.f a b = some (cl a, cl b) := by
  unfold spec_l2Clamp.f
  simp only [spec_FixClamp_eq, Option.bind_some]

theorem spec_l2Square_cl (a b : Int) : spec_l2Square.f (cl a) (cl b) = some (vsq a b) := by
  have ha := cl_bd a
  have hb := cl_bd b
  have := vsq_bd a b
  unfold spec_l2Square.f vsq at *
  rw [wrap_mul ha.1 ha.2 ha.1 ha.2, wrap_mul hb.1 hb.2 hb.1 hb.2, wrap_id (by omega) (by omega)]

theorem spec_l1Root_loop {n : Int} (hn : 0 ≤ n) : ∀ (d k : Nat) (a b : Int), d < k → 0 ≤ a → a < b → b ≤ 3000000000 → b - a ≤ 2 ^ d → a * a ≤ n → n < b * b →
    ∃ r, spec_l1Root.l1 k n a b = some r ∧ IsRoot n r := by
  intro d
  induction d with
  | zero =>
    intro k a b hk ha hab hb hd h1 h2
    obtain ⟨k, rfl⟩ : ∃ m, k = m + 1 := ⟨k - 1, by omega⟩
    obtain rfl : b = a + 1 := by simp at hd; omega
    exact ⟨a, by simp only [spec_l1Root.l1]; rw [wrap_id (by omega) (by omega), if_neg (by omega)], ha, h1, h2⟩
  | succ d ih =>
    intro k a b hk ha hab hb hd h1 h2
    obtain ⟨k, rfl⟩ : ∃ m, k = m + 1 := ⟨k - 1, by omega⟩
    by_cases hc : b - a > 1
    · have e : wrap64 (Int.tdiv (wrap64 (a + b)) 2) = (a + b) / 2 := by
        rw [wrap_id (n := a + b) (by omega) (by omega), Int.tdiv_eq_ediv_of_nonneg (by omega), wrap_id (by omega) (by omega)]
      have hp : (2 : Int) ^ (d + 1) = 2 * 2 ^ d := by rw [Int.pow_succ, Int.mul_comm]
      rw [hp] at hd
      obtain ⟨m, hm⟩ : ∃ m, m = (a + b) / 2 := ⟨_, rfl⟩
      rw [← hm] at e
      have hq : m * m ≤ 3000000000 * 3000000000 := mul_le_sq (by omega) (by omega)
      have hq0 := sq_nonneg m
      by_cases hle : m * m ≤ n
      · obtain ⟨r, hr, h⟩ := ih k m b (by omega) (by omega) (by omega) hb (by omega) hle h2
        refine ⟨r, ?_, h⟩
        simp only [spec_l1Root.l1]
        rw [wrap_id (n := b - a) (by omega) (by omega), if_pos hc, e, wrap_id (n := m * m) (by omega) (by omega), if_pos hle]
        exact hr
      · obtain ⟨r, hr, h⟩ := ih k a m (by omega) ha (by omega) (by omega) (by omega) h1 (by omega)
        refine ⟨r, ?_, h⟩
        simp only [spec_l1Root.l1]
        rw [wrap_id (n := b - a) (by omega) (by omega), if_pos hc, e, wrap_id (n := m * m) (by omega) (by omega), if_neg hle]
        exact hr
    · obtain rfl : b = a + 1 := by omega
      exact ⟨a, by simp only [spec_l1Root.l1]; rw [wrap_id (by omega) (by omega), if_neg (by omega)], ha, h1, h2⟩
theorem spec_l1Root_up {n : Int} (hn : 0 ≤ n) (hn' : n ≤ 2000000000000000000) : ∀ (d k : Nat) (h : Int), d + 34 < k → 1 ≤ h → h ≤ 2828427124 → 2147483648 ≤ h * 2 ^ d →
    ∃ r, spec_l1Root.l0 k n 0 h = some r ∧ IsRoot n r := by
  intro d
  have out : ∀ (k : Nat) (h : Int), 34 < k → 1 ≤ h → h ≤ 2828427124 → n < h * h → ∃ r, spec_l1Root.l0 k n 0 h = some r ∧ IsRoot n r := by
    intro k h hk h1 h2 h3
    obtain ⟨k, rfl⟩ : ∃ m, k = m + 1 := ⟨k - 1, by omega⟩
    obtain ⟨r, hr, hi⟩ := spec_l1Root_loop hn 32 k 0 h (by omega) (by omega) (by omega) (by omega) (by omega) (by omega) h3
    refine ⟨r, ?_, hi⟩
    have := mul_le_sq (a := h) (b := 2828427124) (by omega) h2
    have := sq_nonneg h
    simp only [spec_l1Root.l0]
    rw [wrap_id (by omega) (by omega), if_neg (by omega)]
    exact hr
  induction d with
  | zero =>
    intro k h hk h1 h2 h3
    have : 2147483648 * 2147483648 ≤ h * h := mul_le_sq (by omega) (by omega)
    exact out k h (by omega) h1 h2 (by omega)
  | succ d ih =>
    intro k h hk h1 h2 h3
    rcases Int.lt_or_le n (h * h) with hlt | hle
    · exact out k h (by omega) h1 h2 hlt
    · have hb : h ≤ 1414213562 := by
        rcases Int.lt_or_le 1414213562 h with hb | hb
        · have : 1414213563 * 1414213563 ≤ h * h := mul_le_sq (by omega) (by omega)
          omega
        · exact hb
      obtain ⟨k, rfl⟩ : ∃ m, k = m + 1 := ⟨k - 1, by omega⟩
      have hp : (2 : Int) ^ (d + 1) = 2 * 2 ^ d := by rw [Int.pow_succ, Int.mul_comm]
      rw [hp] at h3
      obtain ⟨r, hr, hi⟩ := ih k (2 * h) (by omega) (by omega) (by omega) (by rw [Int.mul_assoc, Int.mul_left_comm]; exact h3)
      refine ⟨r, ?_, hi⟩
      have := mul_le_sq (a := h) (b := 2828427124) (by omega) h2
      have := sq_nonneg h
      simp only [spec_l1Root.l0]
      rw [wrap_id (n := h * h) (by omega) (by omega), if_pos hle, wrap_id (by omega) (by omega)]
      exact hr
theorem spec_l1Root_eq {k : Nat} (hk : 65 < k) {n : Int} (hn : 0 ≤ n) (hn' : n ≤ 2000000000000000000) : spec_l1Root.f k n = some (rt n) := by
  obtain ⟨r, hr, h⟩ := spec_l1Root_up hn hn' 31 k 1 (by omega) (by omega) (by omega) (by decide)
  unfold spec_l1Root.f
  rw [hr, rt_eq h]

theorem spec_VecLen_eq {k : Nat} (hk : 65 < k) (a b : Int) : spec_VecLen.f k a b = some (vlen a b) := by
  have := vsq_bd a b
  unfold spec_VecLen.f vlen
  simp only [spec_l2Clamp_eq, spec_l2Square_cl, Option.bind_some]
  rw [spec_l1Root_eq hk (by omega) (by omega)]
  simp only [spec_FixClamp_eq, Option.bind_some]

theorem vlen_cl (a b : Int) : vlen (cl a) (cl b) = vlen a b := by unfold vlen vsq; rw [cl_cl, cl_cl]
theorem vlen_neg (a b : Int) : vlen (-a) (-b) = vlen a b := by unfold vlen vsq; rw [cl_neg, cl_neg, Int.neg_mul_neg, Int.neg_mul_neg]
/-- A way of the length 1. -/
def vunit (a b : Int) : Int × Int := if vlen a b = 0 then (0, 256) else (Int.tdiv (cl a * 256) (vlen a b), Int.tdiv (cl b * 256) (vlen a b))
theorem vunit_wrap (a b : Int) (h : vlen a b ≠ 0) : wrap64 (Int.tdiv (wrap64 (cl a * 256)) (vlen a b)) = Int.tdiv (cl a * 256) (vlen a b) := by
  have := cl_bd a
  have := vlen_bd a b
  have := td_bd (a := cl a * 256) (m := 256000000000) (by omega) (by omega) (vlen a b) (by omega)
  rw [wrap_id (n := cl a * 256) (by omega) (by omega), wrap_id (by omega) (by omega)]
theorem vunit_wrap' (a b : Int) (h : vlen a b ≠ 0) : wrap64 (Int.tdiv (wrap64 (cl b * 256)) (vlen a b)) = Int.tdiv (cl b * 256) (vlen a b) := by
  have := cl_bd b
  have := vlen_bd a b
  have := td_bd (a := cl b * 256) (m := 256000000000) (by omega) (by omega) (vlen a b) (by omega)
  rw [wrap_id (n := cl b * 256) (by omega) (by omega), wrap_id (by omega) (by omega)]

theorem spec_VecUnit_eq {k : Nat} (hk : 65 < k) (a b : Int) : spec_VecUnit.f k a b = some (vunit a b) := by
  unfold spec_VecUnit.f vunit
  simp only [spec_l2Clamp_eq, Option.bind_some, spec_VecLen_eq hk, vlen_cl]
  split
  · rfl
  · rename_i h
    rw [vunit_wrap a b h, vunit_wrap' a b h]

/-- How two round shapes touch. -/
def rnds (a b c d w : Int) : Int × Int × Int × Bool :=
  if wrap64 (wrap64 (wrap64 (c - a) * wrap64 (c - a)) + wrap64 (wrap64 (d - b) * wrap64 (d - b))) > wrap64 (w * w) then (0, 0, 0, false)
  else ((vunit (wrap64 (c - a)) (wrap64 (d - b))).1, (vunit (wrap64 (c - a)) (wrap64 (d - b))).2, wrap64 (w - vlen (wrap64 (c - a)) (wrap64 (d - b))), true)

theorem spec_l5Rounds_eq {k : Nat} (hk : 65 < k) (a b c d w : Int) : spec_l5Rounds.f k a b c d w = some (rnds a b c d w) := by
  unfold spec_l5Rounds.f rnds spec_l2Square.f
  simp only [Option.bind_some]
  split
  · rfl
  · simp only [spec_VecUnit_eq hk, spec_VecLen_eq hk, Option.bind_some]

theorem spec_l3Meets_eq (a b c d e f g h : Int) : spec_l3Meets.f a b c d e f g h = some (meets a b c d e f g h) := by
  unfold spec_l3Meets.f meets
  by_cases h1 : a ≤ g <;> by_cases h2 : e ≤ c <;> by_cases h3 : b ≤ h <;> simp [h1, h2, h3]

/-- The side on which two boxes are least in each other. -/
def least (r l u n : Int) : Int × Int × Int × Bool :=
  if l < r then (if u < l then (if n < u then (0, -256, n, true) else (0, 256, u, true)) else (if n < l then (0, -256, n, true) else (-256, 0, l, true)))
  else (if u < r then (if n < u then (0, -256, n, true) else (0, 256, u, true)) else (if n < r then (0, -256, n, true) else (256, 0, r, true)))
/-- How two boxes touch. -/
def bxs (a b c d e f g h : Int) : Int × Int × Int × Bool :=
  if meets a b c d e f g h = true then least (wrap64 (c - e)) (wrap64 (g - a)) (wrap64 (d - f)) (wrap64 (h - b)) else (0, 0, 0, false)

theorem spec_l5Boxes_eq {k : Nat} (hk : 0 < k) (a b c d e f g h : Int) : spec_l5Boxes.f k a b c d e f g h = some (bxs a b c d e f g h) := by
  obtain ⟨k, rfl⟩ : ∃ m, k = m + 1 := ⟨k - 1, by omega⟩
  unfold spec_l5Boxes.f bxs least
  simp only [spec_l3Meets_eq, Option.bind_some, spec_l5Boxes.j0]
  split
  · split
    · split
      · split <;> rfl
      · split <;> rfl
    · split
      · split <;> rfl
      · split <;> rfl
  · rfl

theorem spec_l3Point_eq (a b c d x y : Int) : spec_l3Point.f a b c d x y = some (point a b c d x y) := by
  unfold spec_l3Point.f point
  simp only [spec_l1In_eq, Option.bind_some]
  cases inB x a c <;> simp

theorem spec_l3Less_eq (a b : Int) : spec_l3Less.f a b = some (min a b) := by
  unfold spec_l3Less.f; split <;> simp <;> omega

theorem spec_l3More_eq (a b : Int) : spec_l3More.f a b = some (max a b) := by
  unfold spec_l3More.f; split <;> simp <;> omega

theorem spec_l3Near_eq (a b c d x y : Int) : spec_l3Near.f a b c d x y = some (min (max x a) c, min (max y b) d) := by
  unfold spec_l3Near.f
  simp only [spec_l3Less_eq, spec_l3More_eq, Option.bind_some]

/-- How a box and something round touch. -/
def mxd (a b c d x y w : Int) : Int × Int × Int × Bool :=
  if point a b c d x y = true then ((bxs a b c d x y x y).1, (bxs a b c d x y x y).2.1, wrap64 ((bxs a b c d x y x y).2.2.1 + w), (bxs a b c d x y x y).2.2.2)
  else rnds (min (max x a) c) (min (max y b) d) x y w

theorem spec_l5Mixed_eq {k : Nat} (hk : 65 < k) (a b c d x y w : Int) : spec_l5Mixed.f k a b c d x y w = some (mxd a b c d x y w) := by
  unfold spec_l5Mixed.f mxd
  simp only [spec_l3Point_eq, Option.bind_some, spec_l5Boxes_eq (show 0 < k by omega), spec_l3Near_eq, spec_l5Rounds_eq hk]
  split <;> rfl

/-- The bounds of a shape at a place. -/
def bnd (k w h x y : Int) : Int × Int × Int × Int := (wrap64 (x - w), wrap64 (y - (if k = 1 then w else h)), wrap64 (x + w), wrap64 (y + (if k = 1 then w else h)))

theorem spec_l3Bounds_eq (k w h x y : Int) : spec_l3Bounds.f k w h x y = some (bnd k w h x y) := by
  unfold spec_l3Bounds.f bnd
  split <;> rfl

/-- How two shapes touch. -/
def tch (k w h x y k' w' h' x' y' : Int) : Int × Int × Int × Bool :=
  if k = 1 ∧ k' = 1 then rnds x y x' y' (wrap64 (w + w'))
  else if k = 2 ∧ k' = 2 then bxs (bnd k w h x y).1 (bnd k w h x y).2.1 (bnd k w h x y).2.2.1 (bnd k w h x y).2.2.2 (bnd k' w' h' x' y').1 (bnd k' w' h' x' y').2.1 (bnd k' w' h' x' y').2.2.1 (bnd k' w' h' x' y').2.2.2
  else if k = 2 then mxd (bnd k w h x y).1 (bnd k w h x y).2.1 (bnd k w h x y).2.2.1 (bnd k w h x y).2.2.2 x' y' w'
  else if (mxd (bnd k' w' h' x' y').1 (bnd k' w' h' x' y').2.1 (bnd k' w' h' x' y').2.2.1 (bnd k' w' h' x' y').2.2.2 x y w).2.2.2 = true then
    (wrap64 (-(mxd (bnd k' w' h' x' y').1 (bnd k' w' h' x' y').2.1 (bnd k' w' h' x' y').2.2.1 (bnd k' w' h' x' y').2.2.2 x y w).1),
      wrap64 (-(mxd (bnd k' w' h' x' y').1 (bnd k' w' h' x' y').2.1 (bnd k' w' h' x' y').2.2.1 (bnd k' w' h' x' y').2.2.2 x y w).2.1),
      (mxd (bnd k' w' h' x' y').1 (bnd k' w' h' x' y').2.1 (bnd k' w' h' x' y').2.2.1 (bnd k' w' h' x' y').2.2.2 x y w).2.2.1, true)
  else (0, 0, 0, false)

theorem spec_l5Touch_eq {k : Nat} (hk : 67 < k) (s w h x y s' w' h' x' y' : Int) : spec_l5Touch.f k s w h x y s' w' h' x' y' = some (tch s w h x y s' w' h' x' y') := by
  obtain ⟨k, rfl⟩ : ∃ m, k = m + 1 + 1 := ⟨k - 2, by omega⟩
  unfold spec_l5Touch.f tch
  simp only [spec_l5Touch.j0, spec_l5Touch.j1, spec_l5Rounds_eq (show 65 < k + 1 by omega), spec_l3Bounds_eq, spec_l5Boxes_eq (show 0 < k by omega), spec_l5Mixed_eq (show 65 < k by omega), Option.bind_some, spec_l5Turn.f]
  by_cases h1 : s = 1
  · subst h1
    by_cases h2 : s' = 1
    · subst h2
      simp
    · simp [h2]
      split <;> rfl
  · by_cases h3 : s = 2
    · subst h3
      by_cases h4 : s' = 2
      · subst h4
        simp
      · simp [h4]
    · simp [h1, h3]
      split <;> rfl

/-- Touch, of what is ok. -/
def tok (s w h x y s' w' h' x' y' : Int) : Int × Int × Int × Bool :=
  if shapeOk s w h && (shapeOk s' w' h' && (place x y && place x' y')) then tch s w h x y s' w' h' x' y' else (0, 0, 0, false)

theorem spec_Touch_eq {k : Nat} (hk : 67 < k) (s w h x y s' w' h' x' y' : Int) : spec_Touch.f k s w h x y s' w' h' x' y' = some (tok s w h x y s' w' h' x' y') := by
  unfold spec_Touch.f tok
  simp only [spec_ShapeOk_eq, spec_l3Place_eq, spec_l5Touch_eq hk, Option.bind_some]
  cases h1 : shapeOk s w h <;> cases h2 : shapeOk s' w' h' <;> cases h3 : place x y <;> cases h4 : place x' y' <;> simp

theorem mxd_no {a b c d x y w : Int} (h : (mxd a b c d x y w).2.2.2 = false) : mxd a b c d x y w = (0, 0, 0, false) := by
  unfold mxd at h ⊢
  split at h
  · rename_i hp
    exfalso
    have hm : meets a b c d x y x y = true := by
      simp [point, inB, meets] at hp ⊢
      omega
    unfold bxs at h
    rw [if_pos hm] at h
    unfold least at h
    revert h
    split <;> split <;> split <;> simp
  · rename_i hp
    rw [if_neg hp]
    unfold rnds at h ⊢
    split at h
    · rename_i hc
      rw [if_pos hc]
    · cases h

theorem impl_in_eq (a l h : Int) : impl_in.f a l h = some (inB a l h) := by
  unfold impl_in.f inB
  split <;> simp <;> omega

theorem impl_ShapeOk_eq (k w h : Int) : impl_ShapeOk.f k w h = some (shapeOk k w h) := by
  unfold impl_ShapeOk.f shapeOk
  simp only [impl_in_eq, Option.bind_some]
  by_cases h1 : k = 1
  · rw [if_pos h1, if_pos h1]; cases inB w 1 25600 <;> simp
  · rw [if_neg h1, if_neg h1]
    by_cases h2 : k = 2
    · rw [if_pos h2, if_pos h2]; cases inB w 1 25600 <;> simp
    · rw [if_neg h2, if_neg h2]

theorem impl_isPlace_eq (a b : Int) : impl_isPlace.f a b = some (place a b) := by
  unfold impl_isPlace.f place
  simp only [impl_in_eq, Option.bind_some]
  cases inB a (-2560000) 2560000 <;> simp

theorem impl_Vec_minus_eq (a b c d : Int) : impl_Vec_minus.f a b c d = some (wrap64 (a - c), wrap64 (b - d)) := rfl

theorem impl_within_eq {a m : Int} (h0 : 0 ≤ m) (h1 : m ≤ 1000000000000) : impl_within.f a m = some (wi a m) := by
  unfold impl_within.f wi
  rw [wrap_id (by omega) (by omega), mx_eq, mn_eq]

theorem impl_Vec_clamped_eq {a b m : Int} (h0 : 0 ≤ m) (h1 : m ≤ 1000000000000) : impl_Vec_clamped.f a b m = some (wi a m, wi b m) := by
  unfold impl_Vec_clamped.f
  simp only [impl_within_eq h0 h1, Option.bind_some]
theorem impl_Vec_clamped_cl (a b : Int) : impl_Vec_clamped.f a b 1000000000 = some (cl a, cl b) := by
  rw [impl_Vec_clamped_eq (by omega) (by omega), wi_cl, wi_cl]

theorem impl_Vec_square_cl (a b : Int) : impl_Vec_square.f (cl a) (cl b) = some (vsq a b) := by
  have ha := cl_bd a
  have hb := cl_bd b
  have := vsq_bd a b
  unfold impl_Vec_square.f vsq at *
  rw [wrap_mul ha.1 ha.2 ha.1 ha.2, wrap_mul hb.1 hb.2 hb.1 hb.2, wrap_id (by omega) (by omega)]

theorem impl_root_loop {n : Int} (hn : 0 ≤ n) : ∀ (d k : Nat) (a b : Int), d < k → 0 ≤ a → a < b → b ≤ 3000000000 → b - a ≤ 2 ^ d → a * a ≤ n → n < b * b →
    ∃ r, impl_root.l0 k n a b = some r ∧ IsRoot n r := by
  intro d
  induction d with
  | zero =>
    intro k a b hk ha hab hb hd h1 h2
    obtain ⟨k, rfl⟩ : ∃ m, k = m + 1 := ⟨k - 1, by omega⟩
    obtain rfl : b = a + 1 := by simp at hd; omega
    exact ⟨a, by simp only [impl_root.l0]; rw [wrap_id (by omega) (by omega), if_neg (by omega)], ha, h1, h2⟩
  | succ d ih =>
    intro k a b hk ha hab hb hd h1 h2
    obtain ⟨k, rfl⟩ : ∃ m, k = m + 1 := ⟨k - 1, by omega⟩
    by_cases hc : b - a > 1
    · have e : wrap64 (Int.tdiv (wrap64 (a + b)) 2) = (a + b) / 2 := by
        rw [wrap_id (n := a + b) (by omega) (by omega), Int.tdiv_eq_ediv_of_nonneg (by omega), wrap_id (by omega) (by omega)]
      have hp : (2 : Int) ^ (d + 1) = 2 * 2 ^ d := by rw [Int.pow_succ, Int.mul_comm]
      rw [hp] at hd
      obtain ⟨m, hm⟩ : ∃ m, m = (a + b) / 2 := ⟨_, rfl⟩
      rw [← hm] at e
      have hq : m * m ≤ 3000000000 * 3000000000 := mul_le_sq (by omega) (by omega)
      have hq0 := sq_nonneg m
      by_cases hle : m * m ≤ n
      · obtain ⟨r, hr, h⟩ := ih k m b (by omega) (by omega) (by omega) hb (by omega) hle h2
        refine ⟨r, ?_, h⟩
        simp only [impl_root.l0]
        rw [wrap_id (n := b - a) (by omega) (by omega), if_pos hc, e, wrap_id (n := m * m) (by omega) (by omega), if_pos hle]
        exact hr
      · obtain ⟨r, hr, h⟩ := ih k a m (by omega) ha (by omega) (by omega) (by omega) h1 (by omega)
        refine ⟨r, ?_, h⟩
        simp only [impl_root.l0]
        rw [wrap_id (n := b - a) (by omega) (by omega), if_pos hc, e, wrap_id (n := m * m) (by omega) (by omega), if_neg hle]
        exact hr
    · obtain rfl : b = a + 1 := by omega
      exact ⟨a, by simp only [impl_root.l0]; rw [wrap_id (by omega) (by omega), if_neg (by omega)], ha, h1, h2⟩
theorem impl_root_eq {k : Nat} (hk : 32 < k) {n : Int} (hn : 0 ≤ n) (hn' : n ≤ 2000000000000000000) : impl_root.f k n = some (rt n) := by
  obtain ⟨r, hr, h⟩ := impl_root_loop hn 32 k 0 2147483648 hk (by omega) (by omega) (by omega) (by decide) (by omega) (by omega)
  unfold impl_root.f
  rw [hr, rt_eq h]

theorem impl_FixClamp_eq (a : Int) : impl_FixClamp.f a = some (cl a) := by
  unfold impl_FixClamp.f
  rw [impl_within_eq (by omega) (by omega), wi_cl]; rfl

theorem impl_VecLen_eq {k : Nat} (hk : 65 < k) (a b : Int) : impl_VecLen.f k a b = some (vlen a b) := by
  have := vsq_bd a b
  unfold impl_VecLen.f vlen
  simp only [impl_Vec_clamped_cl, impl_Vec_square_cl, Option.bind_some]
  rw [impl_root_eq (by omega) (by omega) (by omega)]
  simp only [impl_FixClamp_eq, Option.bind_some]

theorem impl_VecUnit_eq {k : Nat} (hk : 65 < k) (a b : Int) : impl_VecUnit.f k a b = some (vunit a b) := by
  unfold impl_VecUnit.f vunit
  simp only [impl_Vec_clamped_cl, Option.bind_some, impl_VecLen_eq hk, vlen_cl]
  split
  · rfl
  · rename_i h
    rw [vunit_wrap a b h, vunit_wrap' a b h]

theorem impl_rounds_eq {k : Nat} (hk : 65 < k) (a b w c d v : Int) : impl_rounds.f k a b w c d v = some (rnds a b c d (wrap64 (w + v))) := by
  unfold impl_rounds.f rnds impl_Vec_square.f
  simp only [impl_Vec_minus_eq, Option.bind_some]
  split
  · rfl
  · simp only [impl_VecUnit_eq hk, impl_VecLen_eq hk, Option.bind_some]

theorem impl_Box_meets_eq (a b c d e f g h : Int) : impl_Box_meets.f a b c d e f g h = some (meets a b c d e f g h) := by
  unfold impl_Box_meets.f meets
  by_cases h1 : a ≤ g <;> by_cases h2 : e ≤ c <;> by_cases h3 : b ≤ h <;> simp [h1, h2, h3]

theorem impl_boxes_eq {k : Nat} (hk : 3 < k) (a b c d e f g h : Int) : impl_boxes.f k a b c d e f g h = some (bxs a b c d e f g h) := by
  obtain ⟨k, rfl⟩ : ∃ m, k = m + 1 + 1 + 1 + 1 := ⟨k - 4, by omega⟩
  unfold impl_boxes.f bxs least
  simp only [impl_Box_meets_eq, Option.bind_some]
  generalize wrap64 (c - e) = r
  generalize wrap64 (g - a) = l
  generalize wrap64 (d - f) = u
  generalize wrap64 (h - b) = n
  have w1 : wrap64 1 = 1 := wrap_id (by decide) (by decide)
  have w2 : wrap64 2 = 2 := wrap_id (by decide) (by decide)
  have w3 : wrap64 3 = 3 := wrap_id (by decide) (by decide)
  by_cases hm : meets a b c d e f g h = true
  · rw [if_pos hm, if_pos hm]
    by_cases h1 : l < r
    · rw [if_pos h1]
      by_cases h2 : u < l
      · by_cases h3 : n < u <;> simp [impl_boxes.l0, rd_T56, w1, w2, w3, h1, h2, h3]
      · by_cases h3 : n < l <;> simp [impl_boxes.l0, rd_T56, w1, w2, w3, h1, h2, h3]
    · rw [if_neg h1]
      by_cases h2 : u < r
      · by_cases h3 : n < u <;> simp [impl_boxes.l0, rd_T56, w1, w2, w3, h1, h2, h3]
      · by_cases h3 : n < r <;> simp [impl_boxes.l0, rd_T56, w1, w2, w3, h1, h2, h3]
  · rw [if_neg hm, if_neg hm]

theorem impl_Box_has_eq (a b c d x y : Int) : impl_Box_has.f a b c d x y = some (point a b c d x y) := by
  unfold impl_Box_has.f point
  simp only [impl_in_eq, Option.bind_some]
  cases inB x a c <;> simp

theorem impl_Box_near_eq (a b c d x y : Int) : impl_Box_near.f a b c d x y = some (max a (min x c), max b (min y d)) := by
  unfold impl_Box_near.f
  simp only [mx_eq, mn_eq]

theorem impl_boxRound_eq {k : Nat} (hk : 65 < k) {a b c d x y w : Int} (h1 : a ≤ c) (h2 : b ≤ d) (hw : 0 ≤ w) (hw' : w ≤ 1000000000) : impl_boxRound.f k a b c d x y w = some (mxd a b c d x y w) := by
  unfold impl_boxRound.f mxd
  simp only [impl_Box_has_eq, Option.bind_some, impl_boxes_eq (show 3 < k by omega), impl_Box_near_eq, impl_rounds_eq hk]
  split
  · rfl
  · rw [wrap_id (n := 0 + w) (by omega) (by omega), Int.zero_add, show max a (min x c) = min (max x a) c by omega, show max b (min y d) = min (max y b) d by omega]

theorem impl_Vec_plus_eq (a b c d : Int) : impl_Vec_plus.f a b c d = some (wrap64 (a + c), wrap64 (b + d)) := rfl

theorem impl_Shape_bounds_eq (k w h x y : Int) : impl_Shape_bounds.f k w h x y = some (bnd k w h x y) := by
  unfold impl_Shape_bounds.f bnd
  simp only [impl_Vec_minus_eq, impl_Vec_plus_eq, Option.bind_some]
  split <;> rfl

theorem impl_Vec_opposite_eq (a b : Int) : impl_Vec_opposite.f a b = some (wrap64 (-a), wrap64 (-b)) := rfl

theorem bnd_ok {k w h x y : Int} (hs : shapeOk k w h = true) (hp : place x y = true) :
    bnd k w h x y = (x - w, y - (if k = 1 then w else h), x + w, y + (if k = 1 then w else h)) ∧ (1 ≤ w ∧ w ≤ 25600) ∧ (1 ≤ (if k = 1 then w else h) ∧ (if k = 1 then w else h) ≤ 25600) ∧ (-2560000 ≤ x ∧ x ≤ 2560000) ∧ (-2560000 ≤ y ∧ y ≤ 2560000) ∧ (k = 1 ∨ k = 2) := by
  simp only [place, Bool.and_eq_true, inB_iff] at hp
  unfold shapeOk at hs
  by_cases h1 : k = 1
  · rw [if_pos h1] at hs
    simp only [Bool.and_eq_true, inB_iff] at hs
    unfold bnd
    rw [if_pos h1, wrap_id (by omega) (by omega), wrap_id (by omega) (by omega), wrap_id (by omega) (by omega), wrap_id (by omega) (by omega)]
    exact ⟨rfl, hs.1, hs.1, hp.1, hp.2, .inl h1⟩
  · rw [if_neg h1] at hs
    by_cases h2 : k = 2
    · rw [if_pos h2] at hs
      simp only [Bool.and_eq_true, inB_iff] at hs
      unfold bnd
      rw [if_neg h1, wrap_id (by omega) (by omega), wrap_id (by omega) (by omega), wrap_id (by omega) (by omega), wrap_id (by omega) (by omega)]
      exact ⟨rfl, hs.1, hs.2, hp.1, hp.2, .inr h2⟩
    · rw [if_neg h2] at hs
      cases hs

theorem impl_Touch_eq {k : Nat} (hk : 70 < k) (s w h x y s' w' h' x' y' : Int) : impl_Touch.f k s w h x y s' w' h' x' y' = some (tok s w h x y s' w' h' x' y') := by
  obtain ⟨k, rfl⟩ : ∃ m, k = m + 1 + 1 + 1 := ⟨k - 3, by omega⟩
  unfold impl_Touch.f tok
  simp only [impl_ShapeOk_eq, impl_isPlace_eq, Option.bind_some, impl_Touch.j0]
  cases hs : shapeOk s w h
  · simp
  cases hs' : shapeOk s' w' h'
  · simp
  cases hp : place x y
  · simp
  cases hp' : place x' y'
  · simp
  obtain ⟨e1, w1, v1, _, _, k1⟩ := bnd_ok hs hp
  obtain ⟨e2, w2, v2, _, _, k2⟩ := bnd_ok hs' hp'
  simp only [Bool.not_true, Bool.and_self, if_true, Bool.false_eq_true, if_false]
  unfold tch
  simp only [impl_Touch.j1, impl_Touch.j2, impl_rounds_eq (show 65 < k + 1 by omega), impl_Shape_bounds_eq, impl_boxes_eq (show 3 < k by omega), Option.bind_some, impl_Vec_opposite_eq]
  rcases k1 with rfl | rfl
  · rcases k2 with rfl | rfl
    · simp
    · rw [e2]
      simp only [impl_boxRound_eq (show 65 < k by omega) (show x' - w' ≤ x' + w' by omega) (show y' - (if (2 : Int) = 1 then w' else h') ≤ y' + (if (2 : Int) = 1 then w' else h') by omega) (show 0 ≤ w by omega) (show w ≤ 1000000000 by omega), Option.bind_some]
      cases hm : (mxd (x' - w') (y' - (if (2 : Int) = 1 then w' else h')) (x' + w') (y' + (if (2 : Int) = 1 then w' else h')) x y w).2.2.2
      · rw [mxd_no hm]
        simp
        exact wrap_id (by omega) (by omega)
      · simp at hm ⊢
  · rcases k2 with rfl | rfl
    · rw [e1]
      simp only [impl_boxRound_eq (show 65 < k by omega) (show x - w ≤ x + w by omega) (show y - (if (2 : Int) = 1 then w else h) ≤ y + (if (2 : Int) = 1 then w else h) by omega) (show 0 ≤ w' by omega) (show w' ≤ 1000000000 by omega), Option.bind_some]
      simp
    · simp

theorem FnExactTouch : laws_FnExactTouch.Pure := by
  intro s w h x y s' w' h' x' y' _ _ _ _ _ _ _ _ _ _
  refine ⟨100, ?_⟩
  unfold laws_FnExactTouch.f laws_toShape.f laws_toVec.f
  simp only [Option.bind_some, spec_Touch_eq (show 67 < 100 by omega), impl_Touch_eq (show 70 < 100 by omega)]
  simp [laws_eqHit.f, laws_eqVec.f]

end Go.Proofs.Ytihajbjkjclmoaa.Pure
