/- FnExactContacts: what the program computes is what the reference computes, or has the law's properties, at all whole numbers and lists that the statement lets in; no further condition. -/
import Derived.Test.YtdngjedhbnoaoaaStFnExactContacts
import Derived.Test.YtdngjedhbnoaoaaMath
namespace Go.Proofs.Ytdngjedhbnoaoaa.Pure
open Go.RowKit Go.Proofs.Ytdngjedhbnoaoaa.PBig Go.Proofs.YtdngjedhbnoaoaaW.PrintWords Go.Proofs.YtdngjedhbnoaoaaW.PrintLast Go.Proofs.YtdngjedhbnoaoaaW.PrintMore Go.Proofs.Ytdngjedhbnoaoaa.Math
set_option linter.unusedVariables false
set_option linter.unusedSimpArgs false

theorem spec_FixClamp_eq (a : Int) : spec_FixClamp.f a = some (cl a) := by
  unfold spec_FixClamp.f cl
  split
  · rfl
  · split <;> rfl

theorem spec_l2Clamp_eq (a b : Int) : spec_l2Clamp.f a b = some (cl a, cl b) := by
  unfold spec_l2Clamp.f
  simp only [spec_FixClamp_eq, Option.bind_some]

theorem spec_l2Square_cl (a b : Int) : spec_l2Square.f (cl a) (cl b) = some (vsq a b) := by
  have ha := cl_bd a
  have hb := cl_bd b
  have := vsq_bd a b
  unfold spec_l2Square.f vsq at *
  rw [wrap_mul ha.1 ha.2 ha.1 ha.2, wrap_mul hb.1 hb.2 hb.1 hb.2, wrap_id (by omega) (by omega)]

theorem spec_l1Root_loop {n : Int} (hn : 0 ≤ n) : ∀ (d k : Nat) (a b : Int), d < k → 0 ≤ a → a < b → b ≤ 3000000000 → b - a ≤ 2 ^ d → a * a ≤ n → n < b * b →
    ∃ r, spec_l1Root.l1 k n a b = some r ∧ IsRoot n r := by
  intro d
  induction d with
  | zero =>
    intro k a b hk ha hab hb hd h1 h2
    obtain ⟨k, rfl⟩ : ∃ m, k = m + 1 := ⟨k - 1, by omega⟩
    obtain rfl : b = a + 1 := by simp at hd; omega
    exact ⟨a, by simp only [spec_l1Root.l1]; rw [wrap_id (by omega) (by omega), if_neg (by omega)], ha, h1, h2⟩
  | succ d ih =>
    intro k a b hk ha hab hb hd h1 h2
    obtain ⟨k, rfl⟩ : ∃ m, k = m + 1 := ⟨k - 1, by omega⟩
    by_cases hc : b - a > 1
    · have e : wrap64 (Int.tdiv (wrap64 (a + b)) 2) = (a + b) / 2 := by
        rw [wrap_id (n := a + b) (by omega) (by omega), Int.tdiv_eq_ediv_of_nonneg (by omega), wrap_id (by omega) (by omega)]
      have hp : (2 : Int) ^ (d + 1) = 2 * 2 ^ d := by rw [Int.pow_succ, Int.mul_comm]
      rw [hp] at hd
      obtain ⟨m, hm⟩ : ∃ m, m = (a + b) / 2 := ⟨_, rfl⟩
      rw [← hm] at e
      have hq : m * m ≤ 3000000000 * 3000000000 := mul_le_sq (by omega) (by omega)
      have hq0 := sq_nonneg m
      by_cases hle : m * m ≤ n
      · obtain ⟨r, hr, h⟩ := ih k m b (by omega) (by omega) (by omega) hb (by omega) hle h2
        refine ⟨r, ?_, h⟩
        simp only [spec_l1Root.l1]
        rw [wrap_id (n := b - a) (by omega) (by omega), if_pos hc, e, wrap_id (n := m * m) (by omega) (by omega), if_pos hle]
        exact hr
      · obtain ⟨r, hr, h⟩ := ih k a m (by omega) ha (by omega) (by omega) (by omega) h1 (by omega)
        refine ⟨r, ?_, h⟩
        simp only [spec_l1Root.l1]
        rw [wrap_id (n := b - a) (by omega) (by omega), if_pos hc, e, wrap_id (n := m * m) (by omega) (by omega), if_neg hle]
        exact hr
    · obtain rfl : b = a + 1 := by omega
      exact ⟨a, by simp only [spec_l1Root.l1]; rw [wrap_id (by omega) (by omega), if_neg (by omega)], ha, h1, h2⟩
theorem spec_l1Root_up {n : Int} (hn : 0 ≤ n) (hn' : n ≤ 2000000000000000000) : ∀ (d k : Nat) (h : Int), d + 34 < k → 1 ≤ h → h ≤ 2828427124 → 2147483648 ≤ h * 2 ^ d →
    ∃ r, spec_l1Root.l0 k n 0 h = some r ∧ IsRoot n r := by
  intro d
  have out : ∀ (k : Nat) (h : Int), 34 < k → 1 ≤ h → h ≤ 2828427124 → n < h * h → ∃ r, spec_l1Root.l0 k n 0 h = some r ∧ IsRoot n r := by
    intro k h hk h1 h2 h3
    obtain ⟨k, rfl⟩ : ∃ m, k = m + 1 := ⟨k - 1, by omega⟩
    obtain ⟨r, hr, hi⟩ := spec_l1Root_loop hn 32 k 0 h (by omega) (by omega) (by omega) (by omega) (by omega) (by omega) h3
    refine ⟨r, ?_, hi⟩
    have := mul_le_sq (a := h) (b := 2828427124) (by omega) h2
    have := sq_nonneg h
    simp only [spec_l1Root.l0]
    rw [wrap_id (by omega) (by omega), if_neg (by omega)]
    exact hr
  induction d with
  | zero =>
    intro k h hk h1 h2 h3
    have : 2147483648 * 2147483648 ≤ h * h := mul_le_sq (by omega) (by omega)
    exact out k h (by omega) h1 h2 (by omega)
  | succ d ih =>
    intro k h hk h1 h2 h3
    rcases Int.lt_or_le n (h * h) with hlt | hle
    · exact out k h (by omega) h1 h2 hlt
    · have hb : h ≤ 1414213562 := by
        rcases Int.lt_or_le 1414213562 h with hb | hb
        · have : 1414213563 * 1414213563 ≤ h * h := mul_le_sq (by omega) (by omega)
          omega
        · exact hb
      obtain ⟨k, rfl⟩ : ∃ m, k = m + 1 := ⟨k - 1, by omega⟩
      have hp : (2 : Int) ^ (d + 1) = 2 * 2 ^ d := by rw [Int.pow_succ, Int.mul_comm]
      rw [hp] at h3
      obtain ⟨r, hr, hi⟩ := ih k (2 * h) (by omega) (by omega) (by omega) (by rw [Int.mul_assoc, Int.mul_left_comm]; exact h3)
      refine ⟨r, ?_, hi⟩
      have := mul_le_sq (a := h) (b := 2828427124) (by omega) h2
      have := sq_nonneg h
      simp only [spec_l1Root.l0]
      rw [wrap_id (n := h * h) (by omega) (by omega), if_pos hle, wrap_id (by omega) (by omega)]
      exact hr
theorem spec_l1Root_eq {k : Nat} (hk : 65 < k) {n : Int} (hn : 0 ≤ n) (hn' : n ≤ 2000000000000000000) : spec_l1Root.f k n = some (rt n) := by
  obtain ⟨r, hr, h⟩ := spec_l1Root_up hn hn' 31 k 1 (by omega) (by omega) (by omega) (by decide)
  unfold spec_l1Root.f
  rw [hr, rt_eq h]

theorem spec_VecLen_eq {k : Nat} (hk : 65 < k) (a b : Int) : spec_VecLen.f k a b = some (vlen a b) := by
  have := vsq_bd a b
  unfold spec_VecLen.f vlen
  simp only [spec_l2Clamp_eq, spec_l2Square_cl, Option.bind_some]
  rw [spec_l1Root_eq hk (by omega) (by omega)]
  simp only [spec_FixClamp_eq, Option.bind_some]

theorem vlen_cl (a b : Int) : vlen (cl a) (cl b) = vlen a b := by unfold vlen vsq; rw [cl_cl, cl_cl]
theorem vlen_neg (a b : Int) : vlen (-a) (-b) = vlen a b := by unfold vlen vsq; rw [cl_neg, cl_neg, Int.neg_mul_neg, Int.neg_mul_neg]
/-- A way of the length 1. -/
def vunit (a b : Int) : Int × Int := if vlen a b = 0 then (0, 256) else (Int.tdiv (cl a * 256) (vlen a b), Int.tdiv (cl b * 256) (vlen a b))
theorem vunit_wrap (a b : Int) (h : vlen a b ≠ 0) : wrap64 (Int.tdiv (wrap64 (cl a * 256)) (vlen a b)) = Int.tdiv (cl a * 256) (vlen a b) := by
  have := cl_bd a
  have := vlen_bd a b
  have := td_bd (a := cl a * 256) (m := 256000000000) (by omega) (by omega) (vlen a b) (by omega)
  rw [wrap_id (n := cl a * 256) (by omega) (by omega), wrap_id (by omega) (by omega)]
theorem vunit_wrap' (a b : Int) (h : vlen a b ≠ 0) : wrap64 (Int.tdiv (wrap64 (cl b * 256)) (vlen a b)) = Int.tdiv (cl b * 256) (vlen a b) := by
  have := cl_bd b
  have := vlen_bd a b
  have := td_bd (a := cl b * 256) (m := 256000000000) (by omega) (by omega) (vlen a b) (by omega)
  rw [wrap_id (n := cl b * 256) (by omega) (by omega), wrap_id (by omega) (by omega)]

theorem spec_VecUnit_eq {k : Nat} (hk : 65 < k) (a b : Int) : spec_VecUnit.f k a b = some (vunit a b) := by
  unfold spec_VecUnit.f vunit
  simp only [spec_l2Clamp_eq, Option.bind_some, spec_VecLen_eq hk, vlen_cl]
  split
  · rfl
  · rename_i h
    rw [vunit_wrap a b h, vunit_wrap' a b h]

/-- How two round shapes touch. -/
def rnds (a b c d w : Int) : Int × Int × Int × Bool :=
  if wrap64 (wrap64 (wrap64 (c - a) * wrap64 (c - a)) + wrap64 (wrap64 (d - b) * wrap64 (d - b))) > wrap64 (w * w) then (0, 0, 0, false)
  else ((vunit (wrap64 (c - a)) (wrap64 (d - b))).1, (vunit (wrap64 (c - a)) (wrap64 (d - b))).2, wrap64 (w - vlen (wrap64 (c - a)) (wrap64 (d - b))), true)

theorem spec_l5Rounds_eq {k : Nat} (hk : 65 < k) (a b c d w : Int) : spec_l5Rounds.f k a b c d w = some (rnds a b c d w) := by
  unfold spec_l5Rounds.f rnds spec_l2Square.f
  simp only [Option.bind_some]
  split
  · rfl
  · simp only [spec_VecUnit_eq hk, spec_VecLen_eq hk, Option.bind_some]

theorem spec_l3Meets_eq (a b c d e f g h : Int) : spec_l3Meets.f a b c d e f g h = some (meets a b c d e f g h) := by
  unfold spec_l3Meets.f meets
  by_cases h1 : a ≤ g <;> by_cases h2 : e ≤ c <;> by_cases h3 : b ≤ h <;> simp [h1, h2, h3]

/-- The side on which two boxes are least in each other. -/
def least (r l u n : Int) : Int × Int × Int × Bool :=
  if l < r then (if u < l then (if n < u then (0, -256, n, true) else (0, 256, u, true)) else (if n < l then (0, -256, n, true) else (-256, 0, l, true)))
  else (if u < r then (if n < u then (0, -256, n, true) else (0, 256, u, true)) else (if n < r then (0, -256, n, true) else (256, 0, r, true)))
/-- How two boxes touch. -/
def bxs (a b c d e f g h : Int) : Int × Int × Int × Bool :=
  if meets a b c d e f g h = true then least (wrap64 (c - e)) (wrap64 (g - a)) (wrap64 (d - f)) (wrap64 (h - b)) else (0, 0, 0, false)

theorem spec_l5Boxes_eq {k : Nat} (hk : 0 < k) (a b c d e f g h : Int) : spec_l5Boxes.f k a b c d e f g h = some (bxs a b c d e f g h) := by
  obtain ⟨k, rfl⟩ : ∃ m, k = m + 1 := ⟨k - 1, by omega⟩
  unfold spec_l5Boxes.f bxs least
  simp only [spec_l3Meets_eq, Option.bind_some, spec_l5Boxes.j0]
  split
  · split
    · split
      · split <;> rfl
      · split <;> rfl
    · split
      · split <;> rfl
      · split <;> rfl
  · rfl

theorem spec_l1In_eq (a l h : Int) : spec_l1In.f a l h = some (inB a l h) := by
  unfold spec_l1In.f inB
  split <;> simp <;> omega

theorem spec_l3Point_eq (a b c d x y : Int) : spec_l3Point.f a b c d x y = some (point a b c d x y) := by
  unfold spec_l3Point.f point
  simp only [spec_l1In_eq, Option.bind_some]
  cases inB x a c <;> simp

theorem spec_l3Less_eq (a b : Int) : spec_l3Less.f a b = some (min a b) := by
  unfold spec_l3Less.f; split <;> simp <;> omega

theorem spec_l3More_eq (a b : Int) : spec_l3More.f a b = some (max a b) := by
  unfold spec_l3More.f; split <;> simp <;> omega

theorem spec_l3Near_eq (a b c d x y : Int) : spec_l3Near.f a b c d x y = some (min (max x a) c, min (max y b) d) := by
  unfold spec_l3Near.f
  simp only [spec_l3Less_eq, spec_l3More_eq, Option.bind_some]

/-- How a box and something round touch. -/
def mxd (a b c d x y w : Int) : Int × Int × Int × Bool :=
  if point a b c d x y = true then ((bxs a b c d x y x y).1, (bxs a b c d x y x y).2.1, wrap64 ((bxs a b c d x y x y).2.2.1 + w), (bxs a b c d x y x y).2.2.2)
  else rnds (min (max x a) c) (min (max y b) d) x y w

theorem spec_l5Mixed_eq {k : Nat} (hk : 65 < k) (a b c d x y w : Int) : spec_l5Mixed.f k a b c d x y w = some (mxd a b c d x y w) := by
  unfold spec_l5Mixed.f mxd
  simp only [spec_l3Point_eq, Option.bind_some, spec_l5Boxes_eq (show 0 < k by omega), spec_l3Near_eq, spec_l5Rounds_eq hk]
  split <;> rfl

/-- The bounds of a shape at a place. -/
def bnd (k w h x y : Int) : Int × Int × Int × Int := (wrap64 (x - w), wrap64 (y - (if k = 1 then w else h)), wrap64 (x + w), wrap64 (y + (if k = 1 then w else h)))

theorem spec_l3Bounds_eq (k w h x y : Int) : spec_l3Bounds.f k w h x y = some (bnd k w h x y) := by
  unfold spec_l3Bounds.f bnd
  split <;> rfl

/-- How two shapes touch. -/
def tch (k w h x y k' w' h' x' y' : Int) : Int × Int × Int × Bool :=
  if k = 1 ∧ k' = 1 then rnds x y x' y' (wrap64 (w + w'))
  else if k = 2 ∧ k' = 2 then bxs (bnd k w h x y).1 (bnd k w h x y).2.1 (bnd k w h x y).2.2.1 (bnd k w h x y).2.2.2 (bnd k' w' h' x' y').1 (bnd k' w' h' x' y').2.1 (bnd k' w' h' x' y').2.2.1 (bnd k' w' h' x' y').2.2.2
  else if k = 2 then mxd (bnd k w h x y).1 (bnd k w h x y).2.1 (bnd k w h x y).2.2.1 (bnd k w h x y).2.2.2 x' y' w'
  else if (mxd (bnd k' w' h' x' y').1 (bnd k' w' h' x' y').2.1 (bnd k' w' h' x' y').2.2.1 (bnd k' w' h' x' y').2.2.2 x y w).2.2.2 = true then
    (wrap64 (-(mxd (bnd k' w' h' x' y').1 (bnd k' w' h' x' y').2.1 (bnd k' w' h' x' y').2.2.1 (bnd k' w' h' x' y').2.2.2 x y w).1),
      wrap64 (-(mxd (bnd k' w' h' x' y').1 (bnd k' w' h' x' y').2.1 (bnd k' w' h' x' y').2.2.1 (bnd k' w' h' x' y').2.2.2 x y w).2.1),
      (mxd (bnd k' w' h' x' y').1 (bnd k' w' h' x' y').2.1 (bnd k' w' h' x' y').2.2.1 (bnd k' w' h' x' y').2.2.2 x y w).2.2.1, true)
  else (0, 0, 0, false)

theorem spec_l5Touch_eq {k : Nat} (hk : 67 < k) (s w h x y s' w' h' x' y' : Int) : spec_l5Touch.f k s w h x y s' w' h' x' y' = some (tch s w h x y s' w' h' x' y') := by
  obtain ⟨k, rfl⟩ : ∃ m, k = m + 1 + 1 := ⟨k - 2, by omega⟩
  unfold spec_l5Touch.f tch
  simp only [spec_l5Touch.j0, spec_l5Touch.j1, spec_l5Rounds_eq (show 65 < k + 1 by omega), spec_l3Bounds_eq, spec_l5Boxes_eq (show 0 < k by omega), spec_l5Mixed_eq (show 65 < k by omega), Option.bind_some, spec_l5Turn.f]
  by_cases h1 : s = 1
  · subst h1
    by_cases h2 : s' = 1
    · subst h2
      simp
    · simp [h2]
      split <;> rfl
  · by_cases h3 : s = 2
    · subst h3
      by_cases h4 : s' = 2
      · subst h4
        simp
      · simp [h4]
    · simp [h1, h3]
      split <;> rfl

def drv (x y : Int) : Bool := inB x (-20000000) 20000000 && inB y (-20000000) 20000000

def rest0 (dx dy m q : Int) : Bool := if m = 0 then (dx == 0 && (dy == 0)) && (q == 0) else decide (q < 8) || (dx == 0 && (dy == 0))
def bodyOk (i sk sw sh ax ay dx dy m bo ru q : Int) : Bool :=
  inB i 0 999999999 && (shapeOk sk sw sh && (place ax ay && (drv dx dy && (inB m 0 1000 && (inB bo 0 256 && (inB ru 0 256 && (inB q 0 8 && rest0 dx dy m q)))))))

def bok (x : S41) : Bool := bodyOk x.f0 x.f1.f0 x.f1.f1 x.f1.f2 x.f2.f0 x.f2.f1 x.f3.f0 x.f3.f1 x.f4 x.f5 x.f6 x.f7
/-- Are bodies ok, from a place on? -/
def chkB (l : List S41) : Nat → Int → Bool
  | 0, _ => decide ((l.length : Int) ≤ 12)
  | d + 1, i => if bok (rd_T41 l i) = true then (if i > 0 then (if (rd_T41 l (i - 1)).f0 ≥ (rd_T41 l i).f0 then false else chkB l d (i + 1)) else chkB l d (i + 1)) else false
def bodiesOk (l : List S41) : Bool := chkB l l.length 0

/-- How two bodies touch. -/
def tcb (x y : S41) : Int × Int × Int × Bool := tch x.f1.f0 x.f1.f1 x.f1.f2 x.f2.f0 x.f2.f1 y.f1.f0 y.f1.f1 y.f1.f2 y.f2.f0 y.f2.f1
/-- What two bodies of a list add to its contacts. -/
def ct (l : List S41) (i j : Int) : List S37 :=
  if (rd_T41 l i).f4 = 0 ∧ (rd_T41 l j).f4 = 0 then [] else
    if (tcb (rd_T41 l i) (rd_T41 l j)).2.2.2 = true then [⟨i, j, ⟨⟨(tcb (rd_T41 l i) (rd_T41 l j)).1, (tcb (rd_T41 l i) (rd_T41 l j)).2.1⟩, (tcb (rd_T41 l i) (rd_T41 l j)).2.2.1⟩⟩] else []
def ctJ (l : List S41) (i : Int) : Nat → Int → List S37
  | 0, _ => []
  | d + 1, j => ct l i j ++ ctJ l i d (j + 1)
def ctI (l : List S41) : Nat → Int → List S37
  | 0, _ => []
  | d + 1, i => ctJ l i d (i + 1) ++ ctI l d (i + 1)
/-- All contacts of bodies. -/
def cts (l : List S41) : List S37 := ctI l l.length 0
theorem ct_len (l : List S41) (i j : Int) : (ct l i j).length ≤ 1 := by
  unfold ct
  split
  · simp
  · split <;> simp
theorem ctJ_len (l : List S41) (i : Int) : ∀ (d : Nat) (j : Int), (ctJ l i d j).length ≤ d := by
  intro d
  induction d with
  | zero => intro j; simp [ctJ]
  | succ d ih => intro j; have := ct_len l i j; have := ih (j + 1); simp only [ctJ, List.length_append]; omega
def gas : Nat → Nat
  | 0 => 1
  | d + 1 => 2 * d + 2 + gas d

theorem spec_l7Contacts_in (l : List S41) (hm : l.length ≤ 1000) (i : Int) (h0 : 0 ≤ i) (h1 : i < l.length) : ∀ (d k : Nat) (j : Int) (out : List S37), 67 < k → 0 ≤ j → (l.length : Int) - j = d → out.length + d < 3518437208883 →
    spec_l7Contacts.l1 (2 * d + 1 + k) l out i j = spec_l7Contacts.l0 k l (out ++ ctJ l i d j) (i + 1) := by
  intro d
  induction d with
  | zero =>
    intro k j out hk hj hd ho
    rw [show 2 * 0 + 1 + k = k + 1 by omega]
    simp only [spec_l7Contacts.l1, ctJ, List.append_nil]
    rw [if_neg (by omega), wrap_id (by omega) (by omega)]
  | succ d ih =>
    intro k j out hk hj hd ho
    rw [show 2 * (d + 1) + 1 + k = (2 * d + 1 + k) + 1 + 1 by omega]
    have e1 : wrap64 (j + 1) = j + 1 := wrap_id (by omega) (by omega)
    have nx := fun o ho' => ih k (j + 1) o hk (by omega) (by omega) ho'
    have inner : ∀ b : Bool, (b = true → (rd_T41 l i).f4 = 0 ∧ (rd_T41 l j).f4 = 0) → (b = false → ¬ ((rd_T41 l i).f4 = 0 ∧ (rd_T41 l j).f4 = 0)) →
        spec_l7Contacts.j2 (2 * d + 1 + k + 1) l out i j b = spec_l7Contacts.l0 k l (out ++ ctJ l i (d + 1) j) (i + 1) := by
      intro b hb1 hb0
      simp only [spec_l7Contacts.j2, ctJ]
      cases b
      · rw [if_neg (by simp), if_pos h0, if_pos h1, if_pos hj, if_pos (by omega), spec_l5Touch_eq (by omega)]
        simp only [Option.bind_some]
        unfold ct tcb
        rw [if_neg (hb0 rfl)]
        split
        · rw [if_pos (by omega), e1, nx _ (by simp; omega)]
          simp
        · rw [e1, nx _ (by omega)]
          simp
      · rw [if_pos rfl, e1, nx _ (by omega)]
        unfold ct
        rw [if_pos (hb1 rfl)]
        simp
    simp only [spec_l7Contacts.l1]
    rw [if_pos (by omega), if_pos h0, if_pos h1]
    by_cases hf : (rd_T41 l i).f4 = 0
    · rw [if_pos hf, if_pos hj]
      exact inner _ (fun hb => ⟨hf, by simpa using hb⟩) (fun hb hn => by simp [hn.2] at hb)
    · rw [if_neg hf]
      exact inner _ (fun hb => by cases hb) (fun _ hn => hf hn.1)
theorem spec_l7Contacts_out (l : List S41) (hm : l.length ≤ 1000) : ∀ (d k : Nat) (i : Int) (out : List S37), 67 < k → 0 ≤ i → (l.length : Int) - i = d → out.length + d * 1000 < 3518437208883 →
    spec_l7Contacts.l0 (gas d + k) l out i = some (out ++ ctI l d i) := by
  intro d
  induction d with
  | zero =>
    intro k i out hk h0 hd ho
    rw [show gas 0 + k = k + 1 by simp [gas]; omega]
    simp only [spec_l7Contacts.l0, ctI, List.append_nil]
    rw [if_neg (by omega)]
  | succ d ih =>
    intro k i out hk h0 hd ho
    rw [show gas (d + 1) + k = (2 * d + 1 + (gas d + k)) + 1 by simp [gas]; omega]
    simp only [spec_l7Contacts.l0, ctI]
    have := ctJ_len l i d (i + 1)
    rw [if_pos (by omega), wrap_id (by omega) (by omega), spec_l7Contacts_in l hm i h0 (by omega) d _ (i + 1) out (by omega) (by omega) (by omega) (by omega), ih k (i + 1) _ hk (by omega) (by omega) (by rw [List.length_append]; omega)]
    simp
theorem spec_l7Contacts_eq {l : List S41} (hm : l.length ≤ 1000) {k : Nat} (hk : gas l.length + 67 < k) : spec_l7Contacts.f k l = some (cts l) := by
  obtain ⟨m, rfl⟩ : ∃ m, k = gas l.length + m := ⟨k - gas l.length, by omega⟩
  unfold spec_l7Contacts.f
  rw [spec_l7Contacts_out l hm l.length m 0 _ (by omega) (by omega) (by omega) (by simp; omega)]
  simp [cts]

theorem spec_ShapeOk_eq (k w h : Int) : spec_ShapeOk.f k w h = some (shapeOk k w h) := by
  unfold spec_ShapeOk.f shapeOk
  simp only [spec_l1In_eq, Option.bind_some]
  by_cases h1 : k = 1
  · rw [if_pos h1, if_pos h1]; cases inB w 1 25600 <;> simp
  · rw [if_neg h1, if_neg h1]
    by_cases h2 : k = 2
    · rw [if_pos h2, if_pos h2]; cases inB w 1 25600 <;> simp
    · rw [if_neg h2, if_neg h2]

theorem spec_l3Place_eq (a b : Int) : spec_l3Place.f a b = some (place a b) := by
  unfold spec_l3Place.f place
  simp only [spec_l1In_eq, Option.bind_some]
  cases inB a (-2560000) 2560000 <;> simp

theorem spec_l6Drive_eq (a b : Int) : spec_l6Drive.f a b = some (drv a b) := by
  unfold spec_l6Drive.f drv
  simp only [spec_l1In_eq, Option.bind_some]
  cases inB a (-20000000) 20000000 <;> simp

theorem spec_BodyOk_eq {k : Nat} (hk : 0 < k) (i sk sw sh ax ay dx dy m bo ru q : Int) : spec_BodyOk.f k i sk sw sh ax ay dx dy m bo ru q = some (bodyOk i sk sw sh ax ay dx dy m bo ru q) := by
  obtain ⟨k, rfl⟩ : ∃ m, k = m + 1 := ⟨k - 1, by omega⟩
  unfold spec_BodyOk.f bodyOk
  simp only [spec_l1In_eq, spec_ShapeOk_eq, spec_l3Place_eq, spec_l6Drive_eq, Option.bind_some, spec_BodyOk.j0]
  cases inB i 0 999999999
  · simp
  cases shapeOk sk sw sh
  · simp
  cases place ax ay
  · simp
  cases drv dx dy
  · simp
  cases inB m 0 1000
  · simp
  cases inB bo 0 256
  · simp
  cases inB ru 0 256
  · simp
  cases inB q 0 8
  · simp
  unfold rest0
  by_cases hm : m = 0
  · cases hd : (dx == 0 && (dy == 0)) <;> simp [hm]
  · by_cases hq : q < 8 <;> simp [hm, hq]

theorem spec_BodiesOk_loop (l : List S41) (hm : l.length ≤ 9223372036854775807) : ∀ (d k : Nat) (i : Int), d + 1 < k → 0 ≤ i → (l.length : Int) - i = d → spec_BodiesOk.l0 k l i = some (chkB l d i) := by
  intro d
  induction d with
  | zero =>
    intro k i hk h0 hd
    obtain ⟨k, rfl⟩ : ∃ m, k = m + 1 := ⟨k - 1, by omega⟩
    simp only [spec_BodiesOk.l0, chkB]
    rw [if_neg (by omega)]
  | succ d ih =>
    intro k i hk h0 hd
    obtain ⟨k, rfl⟩ : ∃ m, k = m + 1 := ⟨k - 1, by omega⟩
    have e1 : wrap64 (i + 1) = i + 1 := wrap_id (by omega) (by omega)
    simp only [spec_BodiesOk.l0, chkB]
    rw [if_pos (by omega), if_pos h0, spec_BodyOk_eq (by omega), e1]
    simp only [Option.bind_some]
    have hr := ih k (i + 1) (by omega) (by omega) (by omega)
    unfold bok
    split
    · by_cases hi : i > 0
      · have e2 : wrap64 (i - 1) = i - 1 := wrap_id (by omega) (by omega)
        rw [if_pos hi, if_pos hi, e2, if_pos (by omega), if_pos (by omega), hr]
        split <;> rfl
      · rw [if_neg hi, if_neg hi, hr]
    · rfl
theorem spec_BodiesOk_eq {k : Nat} {l : List S41} (hm : l.length ≤ 9223372036854775807) (hk : l.length + 1 < k) : spec_BodiesOk.f k l = some (bodiesOk l) :=
  spec_BodiesOk_loop l hm l.length k 0 hk (by omega) (by omega)

theorem chkB_get (l : List S41) : ∀ (d : Nat) (i : Int), 0 ≤ i → (l.length : Int) - i = d → chkB l d i = true → ((l.length : Int) ≤ 12 ∧ ∀ j : Int, i ≤ j → j < l.length → bok (rd_T41 l j) = true) := by
  intro d
  induction d with
  | zero =>
    intro i h0 hd h
    simp only [chkB, decide_eq_true_eq] at h
    exact ⟨h, fun j h1 h2 => by omega⟩
  | succ d ih =>
    intro i h0 hd h
    simp only [chkB] at h
    split at h
    · rename_i hb
      have h' : chkB l d (i + 1) = true := by
        split at h
        · split at h
          · cases h
          · exact h
        · exact h
      obtain ⟨hl, hr⟩ := ih (i + 1) (by omega) (by omega) h'
      refine ⟨hl, fun j h1 h2 => ?_⟩
      by_cases hj : j = i
      · rw [hj]; exact hb
      · exact hr j (by omega) h2
    · cases h
theorem bodiesOk_get {l : List S41} (h : bodiesOk l = true) : l.length ≤ 12 ∧ ∀ j : Int, 0 ≤ j → j < l.length → bok (rd_T41 l j) = true := by
  obtain ⟨h1, h2⟩ := chkB_get l l.length 0 (by omega) (by omega) h
  exact ⟨by omega, h2⟩
theorem bok_shape {x : S41} (h : bok x = true) : shapeOk x.f1.f0 x.f1.f1 x.f1.f2 = true ∧ place x.f2.f0 x.f2.f1 = true := by
  unfold bok bodyOk at h
  simp only [Bool.and_eq_true] at h
  simp [h]

theorem spec_Contacts_eq {l : List S41} (hm : l.length ≤ 9223372036854775807) {k : Nat} (hk : gas l.length + l.length + 67 < k) : spec_Contacts.f k l = some (if bodiesOk l = true then cts l else []) := by
  unfold spec_Contacts.f
  rw [spec_BodiesOk_eq hm (by omega)]
  simp only [Option.bind_some]
  split
  · rename_i h
    have := (bodiesOk_get h).1
    rw [spec_l7Contacts_eq (by omega) (by omega)]
    simp [h]
  · simp_all

theorem mxd_no {a b c d x y w : Int} (h : (mxd a b c d x y w).2.2.2 = false) : mxd a b c d x y w = (0, 0, 0, false) := by
  unfold mxd at h ⊢
  split at h
  · rename_i hp
    exfalso
    have hm : meets a b c d x y x y = true := by
      simp [point, inB, meets] at hp ⊢
      omega
    unfold bxs at h
    rw [if_pos hm] at h
    unfold least at h
    revert h
    split <;> split <;> split <;> simp
  · rename_i hp
    rw [if_neg hp]
    unfold rnds at h ⊢
    split at h
    · rename_i hc
      rw [if_pos hc]
    · cases h

theorem impl_in_eq (a l h : Int) : impl_in.f a l h = some (inB a l h) := by
  unfold impl_in.f inB
  split <;> simp <;> omega

theorem impl_ShapeOk_eq (k w h : Int) : impl_ShapeOk.f k w h = some (shapeOk k w h) := by
  unfold impl_ShapeOk.f shapeOk
  simp only [impl_in_eq, Option.bind_some]
  by_cases h1 : k = 1
  · rw [if_pos h1, if_pos h1]; cases inB w 1 25600 <;> simp
  · rw [if_neg h1, if_neg h1]
    by_cases h2 : k = 2
    · rw [if_pos h2, if_pos h2]; cases inB w 1 25600 <;> simp
    · rw [if_neg h2, if_neg h2]

theorem impl_isPlace_eq (a b : Int) : impl_isPlace.f a b = some (place a b) := by
  unfold impl_isPlace.f place
  simp only [impl_in_eq, Option.bind_some]
  cases inB a (-2560000) 2560000 <;> simp

theorem impl_Vec_minus_eq (a b c d : Int) : impl_Vec_minus.f a b c d = some (wrap64 (a - c), wrap64 (b - d)) := rfl

theorem impl_within_eq {a m : Int} (h0 : 0 ≤ m) (h1 : m ≤ 1000000000000) : impl_within.f a m = some (wi a m) := by
  unfold impl_within.f wi
  rw [wrap_id (by omega) (by omega), mx_eq, mn_eq]

theorem impl_Vec_clamped_eq {a b m : Int} (h0 : 0 ≤ m) (h1 : m ≤ 1000000000000) : impl_Vec_clamped.f a b m = some (wi a m, wi b m) := by
  unfold impl_Vec_clamped.f
  simp only [impl_within_eq h0 h1, Option.bind_some]
theorem impl_Vec_clamped_cl (a b : Int) : impl_Vec_clamped.f a b 1000000000 = some (cl a, cl b) := by
  rw [impl_Vec_clamped_eq (by omega) (by omega), wi_cl, wi_cl]

theorem impl_Vec_square_cl (a b : Int) : impl_Vec_square.f (cl a) (cl b) = some (vsq a b) := by
  have ha := cl_bd a
  have hb := cl_bd b
  have := vsq_bd a b
  unfold impl_Vec_square.f vsq at *
  rw [wrap_mul ha.1 ha.2 ha.1 ha.2, wrap_mul hb.1 hb.2 hb.1 hb.2, wrap_id (by omega) (by omega)]

theorem impl_root_loop {n : Int} (hn : 0 ≤ n) : ∀ (d k : Nat) (a b : Int), d < k → 0 ≤ a → a < b → b ≤ 3000000000 → b - a ≤ 2 ^ d → a * a ≤ n → n < b * b →
    ∃ r, impl_root.l0 k n a b = some r ∧ IsRoot n r := by
  intro d
  induction d with
  | zero =>
    intro k a b hk ha hab hb hd h1 h2
    obtain ⟨k, rfl⟩ : ∃ m, k = m + 1 := ⟨k - 1, by omega⟩
    obtain rfl : b = a + 1 := by simp at hd; omega
    exact ⟨a, by simp only [impl_root.l0]; rw [wrap_id (by omega) (by omega), if_neg (by omega)], ha, h1, h2⟩
  | succ d ih =>
    intro k a b hk ha hab hb hd h1 h2
    obtain ⟨k, rfl⟩ : ∃ m, k = m + 1 := ⟨k - 1, by omega⟩
    by_cases hc : b - a > 1
    · have e : wrap64 (Int.tdiv (wrap64 (a + b)) 2) = (a + b) / 2 := by
        rw [wrap_id (n := a + b) (by omega) (by omega), Int.tdiv_eq_ediv_of_nonneg (by omega), wrap_id (by omega) (by omega)]
      have hp : (2 : Int) ^ (d + 1) = 2 * 2 ^ d := by rw [Int.pow_succ, Int.mul_comm]
      rw [hp] at hd
      obtain ⟨m, hm⟩ : ∃ m, m = (a + b) / 2 := ⟨_, rfl⟩
      rw [← hm] at e
      have hq : m * m ≤ 3000000000 * 3000000000 := mul_le_sq (by omega) (by omega)
      have hq0 := sq_nonneg m
      by_cases hle : m * m ≤ n
      · obtain ⟨r, hr, h⟩ := ih k m b (by omega) (by omega) (by omega) hb (by omega) hle h2
        refine ⟨r, ?_, h⟩
        simp only [impl_root.l0]
        rw [wrap_id (n := b - a) (by omega) (by omega), if_pos hc, e, wrap_id (n := m * m) (by omega) (by omega), if_pos hle]
        exact hr
      · obtain ⟨r, hr, h⟩ := ih k a m (by omega) ha (by omega) (by omega) (by omega) h1 (by omega)
        refine ⟨r, ?_, h⟩
        simp only [impl_root.l0]
        rw [wrap_id (n := b - a) (by omega) (by omega), if_pos hc, e, wrap_id (n := m * m) (by omega) (by omega), if_neg hle]
        exact hr
    · obtain rfl : b = a + 1 := by omega
      exact ⟨a, by simp only [impl_root.l0]; rw [wrap_id (by omega) (by omega), if_neg (by omega)], ha, h1, h2⟩
theorem impl_root_eq {k : Nat} (hk : 32 < k) {n : Int} (hn : 0 ≤ n) (hn' : n ≤ 2000000000000000000) : impl_root.f k n = some (rt n) := by
  obtain ⟨r, hr, h⟩ := impl_root_loop hn 32 k 0 2147483648 hk (by omega) (by omega) (by omega) (by decide) (by omega) (by omega)
  unfold impl_root.f
  rw [hr, rt_eq h]

theorem impl_FixClamp_eq (a : Int) : impl_FixClamp.f a = some (cl a) := by
  unfold impl_FixClamp.f
  rw [impl_within_eq (by omega) (by omega), wi_cl]; rfl

theorem impl_VecLen_eq {k : Nat} (hk : 65 < k) (a b : Int) : impl_VecLen.f k a b = some (vlen a b) := by
  have := vsq_bd a b
  unfold impl_VecLen.f vlen
  simp only [impl_Vec_clamped_cl, impl_Vec_square_cl, Option.bind_some]
  rw [impl_root_eq (by omega) (by omega) (by omega)]
  simp only [impl_FixClamp_eq, Option.bind_some]

theorem impl_VecUnit_eq {k : Nat} (hk : 65 < k) (a b : Int) : impl_VecUnit.f k a b = some (vunit a b) := by
  unfold impl_VecUnit.f vunit
  simp only [impl_Vec_clamped_cl, Option.bind_some, impl_VecLen_eq hk, vlen_cl]
  split
  · rfl
  · rename_i h
    rw [vunit_wrap a b h, vunit_wrap' a b h]

theorem impl_rounds_eq {k : Nat} (hk : 65 < k) (a b w c d v : Int) : impl_rounds.f k a b w c d v = some (rnds a b c d (wrap64 (w + v))) := by
  unfold impl_rounds.f rnds impl_Vec_square.f
  simp only [impl_Vec_minus_eq, Option.bind_some]
  split
  · rfl
  · simp only [impl_VecUnit_eq hk, impl_VecLen_eq hk, Option.bind_some]

theorem impl_Box_meets_eq (a b c d e f g h : Int) : impl_Box_meets.f a b c d e f g h = some (meets a b c d e f g h) := by
  unfold impl_Box_meets.f meets
  by_cases h1 : a ≤ g <;> by_cases h2 : e ≤ c <;> by_cases h3 : b ≤ h <;> simp [h1, h2, h3]

theorem impl_boxes_eq {k : Nat} (hk : 3 < k) (a b c d e f g h : Int) : impl_boxes.f k a b c d e f g h = some (bxs a b c d e f g h) := by
  obtain ⟨k, rfl⟩ : ∃ m, k = m + 1 + 1 + 1 + 1 := ⟨k - 4, by omega⟩
  unfold impl_boxes.f bxs least
  simp only [impl_Box_meets_eq, Option.bind_some]
  generalize wrap64 (c - e) = r
  generalize wrap64 (g - a) = l
  generalize wrap64 (d - f) = u
  generalize wrap64 (h - b) = n
  have w1 : wrap64 1 = 1 := wrap_id (by decide) (by decide)
  have w2 : wrap64 2 = 2 := wrap_id (by decide) (by decide)
  have w3 : wrap64 3 = 3 := wrap_id (by decide) (by decide)
  by_cases hm : meets a b c d e f g h = true
  · rw [if_pos hm, if_pos hm]
    by_cases h1 : l < r
    · rw [if_pos h1]
      by_cases h2 : u < l
      · by_cases h3 : n < u <;> simp [impl_boxes.l0, rd_T35, w1, w2, w3, h1, h2, h3]
      · by_cases h3 : n < l <;> simp [impl_boxes.l0, rd_T35, w1, w2, w3, h1, h2, h3]
    · rw [if_neg h1]
      by_cases h2 : u < r
      · by_cases h3 : n < u <;> simp [impl_boxes.l0, rd_T35, w1, w2, w3, h1, h2, h3]
      · by_cases h3 : n < r <;> simp [impl_boxes.l0, rd_T35, w1, w2, w3, h1, h2, h3]
  · rw [if_neg hm, if_neg hm]

theorem impl_Box_has_eq (a b c d x y : Int) : impl_Box_has.f a b c d x y = some (point a b c d x y) := by
  unfold impl_Box_has.f point
  simp only [impl_in_eq, Option.bind_some]
  cases inB x a c <;> simp

theorem impl_Box_near_eq (a b c d x y : Int) : impl_Box_near.f a b c d x y = some (max a (min x c), max b (min y d)) := by
  unfold impl_Box_near.f
  simp only [mx_eq, mn_eq]

theorem impl_boxRound_eq {k : Nat} (hk : 65 < k) {a b c d x y w : Int} (h1 : a ≤ c) (h2 : b ≤ d) (hw : 0 ≤ w) (hw' : w ≤ 1000000000) : impl_boxRound.f k a b c d x y w = some (mxd a b c d x y w) := by
  unfold impl_boxRound.f mxd
  simp only [impl_Box_has_eq, Option.bind_some, impl_boxes_eq (show 3 < k by omega), impl_Box_near_eq, impl_rounds_eq hk]
  split
  · rfl
  · rw [wrap_id (n := 0 + w) (by omega) (by omega), Int.zero_add, show max a (min x c) = min (max x a) c by omega, show max b (min y d) = min (max y b) d by omega]

theorem impl_Vec_plus_eq (a b c d : Int) : impl_Vec_plus.f a b c d = some (wrap64 (a + c), wrap64 (b + d)) := rfl

theorem impl_Shape_bounds_eq (k w h x y : Int) : impl_Shape_bounds.f k w h x y = some (bnd k w h x y) := by
  unfold impl_Shape_bounds.f bnd
  simp only [impl_Vec_minus_eq, impl_Vec_plus_eq, Option.bind_some]
  split <;> rfl

theorem impl_Vec_opposite_eq (a b : Int) : impl_Vec_opposite.f a b = some (wrap64 (-a), wrap64 (-b)) := rfl

theorem bnd_ok {k w h x y : Int} (hs : shapeOk k w h = true) (hp : place x y = true) :
    bnd k w h x y = (x - w, y - (if k = 1 then w else h), x + w, y + (if k = 1 then w else h)) ∧ (1 ≤ w ∧ w ≤ 25600) ∧ (1 ≤ (if k = 1 then w else h) ∧ (if k = 1 then w else h) ≤ 25600) ∧ (-2560000 ≤ x ∧ x ≤ 2560000) ∧ (-2560000 ≤ y ∧ y ≤ 2560000) ∧ (k = 1 ∨ k = 2) := by
  simp only [place, Bool.and_eq_true, inB_iff] at hp
  unfold shapeOk at hs
  by_cases h1 : k = 1
  · rw [if_pos h1] at hs
    simp only [Bool.and_eq_true, inB_iff] at hs
    unfold bnd
    rw [if_pos h1, wrap_id (by omega) (by omega), wrap_id (by omega) (by omega), wrap_id (by omega) (by omega), wrap_id (by omega) (by omega)]
    exact ⟨rfl, hs.1, hs.1, hp.1, hp.2, .inl h1⟩
  · rw [if_neg h1] at hs
    by_cases h2 : k = 2
    · rw [if_pos h2] at hs
      simp only [Bool.and_eq_true, inB_iff] at hs
      unfold bnd
      rw [if_neg h1, wrap_id (by omega) (by omega), wrap_id (by omega) (by omega), wrap_id (by omega) (by omega), wrap_id (by omega) (by omega)]
      exact ⟨rfl, hs.1, hs.2, hp.1, hp.2, .inr h2⟩
    · rw [if_neg h2] at hs
      cases hs

/-- Touch, of what is ok. -/
def tok (s w h x y s' w' h' x' y' : Int) : Int × Int × Int × Bool :=
  if shapeOk s w h && (shapeOk s' w' h' && (place x y && place x' y')) then tch s w h x y s' w' h' x' y' else (0, 0, 0, false)

theorem impl_Touch_eq {k : Nat} (hk : 70 < k) (s w h x y s' w' h' x' y' : Int) : impl_Touch.f k s w h x y s' w' h' x' y' = some (tok s w h x y s' w' h' x' y') := by
  obtain ⟨k, rfl⟩ : ∃ m, k = m + 1 + 1 + 1 := ⟨k - 3, by omega⟩
  unfold impl_Touch.f tok
  simp only [impl_ShapeOk_eq, impl_isPlace_eq, Option.bind_some, impl_Touch.j0]
  cases hs : shapeOk s w h
  · simp
  cases hs' : shapeOk s' w' h'
  · simp
  cases hp : place x y
  · simp
  cases hp' : place x' y'
  · simp
  obtain ⟨e1, w1, v1, _, _, k1⟩ := bnd_ok hs hp
  obtain ⟨e2, w2, v2, _, _, k2⟩ := bnd_ok hs' hp'
  simp only [Bool.not_true, Bool.and_self, if_true, Bool.false_eq_true, if_false]
  unfold tch
  simp only [impl_Touch.j1, impl_Touch.j2, impl_rounds_eq (show 65 < k + 1 by omega), impl_Shape_bounds_eq, impl_boxes_eq (show 3 < k by omega), Option.bind_some, impl_Vec_opposite_eq]
  rcases k1 with rfl | rfl
  · rcases k2 with rfl | rfl
    · simp
    · rw [e2]
      simp only [impl_boxRound_eq (show 65 < k by omega) (show x' - w' ≤ x' + w' by omega) (show y' - (if (2 : Int) = 1 then w' else h') ≤ y' + (if (2 : Int) = 1 then w' else h') by omega) (show 0 ≤ w by omega) (show w ≤ 1000000000 by omega), Option.bind_some]
      cases hm : (mxd (x' - w') (y' - (if (2 : Int) = 1 then w' else h')) (x' + w') (y' + (if (2 : Int) = 1 then w' else h')) x y w).2.2.2
      · rw [mxd_no hm]
        simp
        exact wrap_id (by omega) (by omega)
      · simp at hm ⊢
  · rcases k2 with rfl | rfl
    · rw [e1]
      simp only [impl_boxRound_eq (show 65 < k by omega) (show x - w ≤ x + w by omega) (show y - (if (2 : Int) = 1 then w else h) ≤ y + (if (2 : Int) = 1 then w else h) by omega) (show 0 ≤ w' by omega) (show w' ≤ 1000000000 by omega), Option.bind_some]
      simp
    · simp

theorem wi_same (a m : Int) (h : 0 ≤ m) : (a == wi a m) = inB a (-m) m := by
  rw [Bool.eq_iff_iff, beq_iff_eq, inB_iff]
  unfold wi
  omega
theorem impl_isDrive_eq (a b : Int) : impl_isDrive.f a b = some (drv a b) := by
  unfold impl_isDrive.f drv
  rw [impl_Vec_clamped_eq (by omega) (by omega)]
  simp only [Option.bind_some, wi_same _ 20000000 (by omega)]

theorem impl_Body_fixed_eq (i sk sw sh ax ay dx dy m bo ru q : Int) : impl_Body_fixed.f i sk sw sh ax ay dx dy m bo ru q = some (m == 0) := rfl

theorem impl_Body_sleeps_eq (i sk sw sh ax ay dx dy m bo ru q : Int) : impl_Body_sleeps.f i sk sw sh ax ay dx dy m bo ru q = some (q == 8) := rfl

theorem impl_BodyOk_eq {k : Nat} (hk : 1 < k) (i sk sw sh ax ay dx dy m bo ru q : Int) : impl_BodyOk.f k i sk sw sh ax ay dx dy m bo ru q = some (bodyOk i sk sw sh ax ay dx dy m bo ru q) := by
  obtain ⟨k, rfl⟩ : ∃ m, k = m + 1 + 1 := ⟨k - 2, by omega⟩
  unfold impl_BodyOk.f bodyOk
  simp only [impl_in_eq, impl_ShapeOk_eq, impl_isPlace_eq, impl_isDrive_eq, Option.bind_some, impl_BodyOk.j0, impl_BodyOk.j1, impl_Body_fixed_eq, impl_Body_sleeps_eq]
  cases inB i 0 999999999
  · simp
  cases shapeOk sk sw sh
  · simp
  cases place ax ay
  · simp
  cases drv dx dy
  · simp
  cases inB m 0 1000
  · simp
  cases inB bo 0 256
  · simp
  cases inB ru 0 256
  · simp
  cases hq8 : inB q 0 8
  · simp
  rw [inB_iff] at hq8
  unfold rest0
  by_cases hm : m = 0
  · cases hd : (dx == 0 && (dy == 0))
    · simp [hm]
    · by_cases hq : q = 0 <;> simp [hm, hq]
  · by_cases hq : q = 8
    · simp [hm, hq]
    · simp [hm, hq, show q < 8 by omega]

theorem impl_BodiesOk_loop (l : List S41) (hm : l.length ≤ 9223372036854775807) : ∀ (d k : Nat) (i : Int), d + 2 < k → 0 ≤ i → (l.length : Int) - i = d → impl_BodiesOk.l0 k l l (l.length : Int) i = some (chkB l d i) := by
  intro d
  induction d with
  | zero =>
    intro k i hk h0 hd
    obtain ⟨k, rfl⟩ : ∃ m, k = m + 1 := ⟨k - 1, by omega⟩
    simp only [impl_BodiesOk.l0, chkB]
    rw [if_neg (by omega)]
  | succ d ih =>
    intro k i hk h0 hd
    obtain ⟨k, rfl⟩ : ∃ m, k = m + 1 := ⟨k - 1, by omega⟩
    have e1 : wrap64 (i + 1) = i + 1 := wrap_id (by omega) (by omega)
    simp only [impl_BodiesOk.l0, chkB]
    rw [if_pos (by omega), if_pos h0, if_pos (by omega), impl_BodyOk_eq (by omega), e1]
    simp only [Option.bind_some]
    have hr := ih k (i + 1) (by omega) (by omega) (by omega)
    unfold bok
    split
    · by_cases hi : i > 0
      · have e2 : wrap64 (i - 1) = i - 1 := wrap_id (by omega) (by omega)
        rw [if_pos hi, if_pos hi, e2, if_pos (by omega), if_pos (by omega), hr]
        split <;> rfl
      · rw [if_neg hi, if_neg hi, hr]
    · rfl
theorem impl_BodiesOk_eq {k : Nat} {l : List S41} (hm : l.length ≤ 9223372036854775807) (hk : l.length + 2 < k) : impl_BodiesOk.f k l = some (bodiesOk l) :=
  impl_BodiesOk_loop l hm l.length k 0 hk (by omega) (by omega)

theorem tok_ok {x y : S41} (hx : bok x = true) (hy : bok y = true) : tok x.f1.f0 x.f1.f1 x.f1.f2 x.f2.f0 x.f2.f1 y.f1.f0 y.f1.f1 y.f1.f2 y.f2.f0 y.f2.f1 = tcb x y := by
  obtain ⟨h1, h2⟩ := bok_shape hx
  obtain ⟨h3, h4⟩ := bok_shape hy
  unfold tok tcb
  rw [h1, h2, h3, h4]
  simp
theorem impl_Contacts_in (l : List S41) (hm : l.length ≤ 12) (hb : ∀ j : Int, 0 ≤ j → j < l.length → bok (rd_T41 l j) = true) (i : Int) (h0 : 0 ≤ i) (h1 : i < l.length) : ∀ (d k : Nat) (j : Int) (out : List S37), 70 < k → 0 ≤ j → (l.length : Int) - j = d → out.length + d < 3518437208883 →
    impl_Contacts.l1 (2 * d + 1 + k) l out i j l (l.length : Int) i (rd_T41 l i).f0 (rd_T41 l i).f1.f0 (rd_T41 l i).f1.f1 (rd_T41 l i).f1.f2 (rd_T41 l i).f2.f0 (rd_T41 l i).f2.f1 (rd_T41 l i).f3.f0 (rd_T41 l i).f3.f1 (rd_T41 l i).f4 (rd_T41 l i).f5 (rd_T41 l i).f6 (rd_T41 l i).f7 = impl_Contacts.l0 k l (out ++ ctJ l i d j) l (l.length : Int) (i + 1) := by
  intro d
  induction d with
  | zero =>
    intro k j out hk hj hd ho
    rw [show 2 * 0 + 1 + k = k + 1 by omega]
    simp only [impl_Contacts.l1, ctJ, List.append_nil]
    rw [if_neg (by omega), wrap_id (by omega) (by omega)]
  | succ d ih =>
    intro k j out hk hj hd ho
    rw [show 2 * (d + 1) + 1 + k = (2 * d + 1 + k) + 1 + 1 by omega]
    have e1 : wrap64 (j + 1) = j + 1 := wrap_id (by omega) (by omega)
    have nx := fun o ho' => ih k (j + 1) o hk (by omega) (by omega) ho'
    have inner : ∀ b : Bool, (b = true → (rd_T41 l i).f4 = 0 ∧ (rd_T41 l j).f4 = 0) → (b = false → ¬ ((rd_T41 l i).f4 = 0 ∧ (rd_T41 l j).f4 = 0)) →
        impl_Contacts.j2 (2 * d + 1 + k + 1) l out i j l (l.length : Int) i b (rd_T41 l i).f0 (rd_T41 l i).f1.f0 (rd_T41 l i).f1.f1 (rd_T41 l i).f1.f2 (rd_T41 l i).f2.f0 (rd_T41 l i).f2.f1 (rd_T41 l i).f3.f0 (rd_T41 l i).f3.f1 (rd_T41 l i).f4 (rd_T41 l i).f5 (rd_T41 l i).f6 (rd_T41 l i).f7 = impl_Contacts.l0 k l (out ++ ctJ l i (d + 1) j) l (l.length : Int) (i + 1) := by
      intro b hb1 hb0
      simp only [impl_Contacts.j2, ctJ]
      cases b
      · rw [if_neg (by simp), if_pos hj, if_pos (by omega)]
        unfold impl_Body_touch.f
        rw [impl_Touch_eq (by omega), tok_ok (hb i h0 h1) (hb j hj (by omega))]
        simp only [Option.bind_some]
        unfold ct
        rw [if_neg (hb0 rfl)]
        split
        · rw [if_pos (by omega), e1, nx _ (by simp; omega)]
          simp
        · rw [e1, nx _ (by omega)]
          simp
      · rw [if_pos rfl, e1, nx _ (by omega)]
        unfold ct
        rw [if_pos (hb1 rfl)]
        simp
    simp only [impl_Contacts.l1, impl_Body_fixed.f, Option.bind_some]
    rw [if_pos (by omega)]
    by_cases hf : (rd_T41 l i).f4 = 0
    · rw [if_pos (by simp [hf]), if_pos hj]
      exact inner _ (fun hb => ⟨hf, by simpa using hb⟩) (fun hb hn => by simp [hn.2] at hb)
    · rw [if_neg (by simp [hf])]
      exact inner _ (fun hb => by cases hb) (fun _ hn => hf hn.1)
theorem impl_Contacts_out (l : List S41) (hm : l.length ≤ 12) (hb : ∀ j : Int, 0 ≤ j → j < l.length → bok (rd_T41 l j) = true) : ∀ (d k : Nat) (i : Int) (out : List S37), 70 < k → 0 ≤ i → (l.length : Int) - i = d → out.length + d * 1000 < 3518437208883 →
    impl_Contacts.l0 (gas d + k) l out l (l.length : Int) i = some (out ++ ctI l d i) := by
  intro d
  induction d with
  | zero =>
    intro k i out hk h0 hd ho
    rw [show gas 0 + k = k + 1 by simp [gas]; omega]
    simp only [impl_Contacts.l0, ctI, List.append_nil]
    rw [if_neg (by omega)]
  | succ d ih =>
    intro k i out hk h0 hd ho
    rw [show gas (d + 1) + k = (2 * d + 1 + (gas d + k)) + 1 by simp [gas]; omega]
    simp only [impl_Contacts.l0, ctI]
    have := ctJ_len l i d (i + 1)
    rw [if_pos (by omega), if_pos h0, if_pos (by omega), wrap_id (by omega) (by omega), impl_Contacts_in l hm hb i h0 (by omega) d _ (i + 1) out (by omega) (by omega) (by omega) (by omega), ih k (i + 1) _ hk (by omega) (by omega) (by rw [List.length_append]; omega)]
    simp
theorem impl_Contacts_eq {l : List S41} (hm : l.length ≤ 9223372036854775807) {k : Nat} (hk : gas l.length + l.length + 70 < k) : impl_Contacts.f k l = some (if bodiesOk l = true then cts l else []) := by
  unfold impl_Contacts.f
  rw [impl_BodiesOk_eq hm (by omega)]
  simp only [Option.bind_some]
  by_cases h : bodiesOk l = true
  · obtain ⟨h1, h2⟩ := bodiesOk_get h
    obtain ⟨m, rfl⟩ : ∃ m, k = gas l.length + m := ⟨k - gas l.length, by omega⟩
    rw [if_pos h, if_pos h, impl_Contacts_out l h1 h2 l.length m 0 _ (by omega) (by omega) (by omega) (by simp; omega)]
    simp [cts]
  · rw [if_neg h, if_neg h]

theorem markBodyS_loop : ∀ (d k : Nat) (i x : Int) (l : List S41), l.length ≤ 1048576 → d < k → 0 ≤ i → (l.length : Int) - i = d → 0 ≤ x → x ≤ 12 * i + 1 → ∃ l' m, laws_markBodyS.l0 k l x i = some (m, l') ∧ 0 ≤ m := by
  intro d
  induction d with
  | zero =>
    intro k i x l hm hk h0 hd hx hx2
    obtain ⟨k, rfl⟩ : ∃ m, k = m + 1 := ⟨k - 1, by omega⟩
    simp only [laws_markBodyS.l0]
    rw [if_neg (by omega)]
    exact ⟨_, _, rfl, hx⟩
  | succ d ih =>
    intro k i x l hm hk h0 hd hx hx2
    obtain ⟨k, rfl⟩ : ∃ m, k = m + 1 := ⟨k - 1, by omega⟩
    simp only [laws_markBodyS.l0]
    rw [if_pos (by omega), if_pos h0, wrap_id (n := i + 1) (by omega) (by omega)]
    have e : wrap64 (wrap64 (wrap64 (wrap64 (wrap64 (wrap64 (wrap64 (wrap64 (wrap64 (wrap64 (wrap64 (wrap64 (x + 1) + 1) + 1) + 1) + 1) + 1) + 1) + 1) + 1) + 1) + 1) + 1) = x + 12 := by
      rw [wrap_id (n := x + 1) (by omega) (by omega), wrap_id (n := x + 1 + 1) (by omega) (by omega), wrap_id (n := x + 1 + 1 + 1) (by omega) (by omega), wrap_id (n := x + 1 + 1 + 1 + 1) (by omega) (by omega), wrap_id (n := x + 1 + 1 + 1 + 1 + 1) (by omega) (by omega), wrap_id (n := x + 1 + 1 + 1 + 1 + 1 + 1) (by omega) (by omega), wrap_id (n := x + 1 + 1 + 1 + 1 + 1 + 1 + 1) (by omega) (by omega), wrap_id (n := x + 1 + 1 + 1 + 1 + 1 + 1 + 1 + 1) (by omega) (by omega), wrap_id (n := x + 1 + 1 + 1 + 1 + 1 + 1 + 1 + 1 + 1) (by omega) (by omega), wrap_id (n := x + 1 + 1 + 1 + 1 + 1 + 1 + 1 + 1 + 1 + 1) (by omega) (by omega), wrap_id (n := x + 1 + 1 + 1 + 1 + 1 + 1 + 1 + 1 + 1 + 1 + 1) (by omega) (by omega), wrap_id (n := x + 1 + 1 + 1 + 1 + 1 + 1 + 1 + 1 + 1 + 1 + 1 + 1) (by omega) (by omega)]
      omega
    exact ih k (i + 1) _ _ (by simpa using hm) (by omega) (by omega) (by rw [List.length_set]; omega) (by rw [e]; omega) (by rw [e]; omega)
theorem markBodyS_eq {k : Nat} {l : List S41} (hm : l.length ≤ 1048576) (hk : l.length < k) : ∃ l' m, laws_markBodyS.f k l 1 = some (m, l') ∧ 0 ≤ m :=
  markBodyS_loop l.length k 0 1 l hm hk (by omega) (by omega) (by omega) (by omega)

/-- A round of marking, and all rounds from i on: what is marked below i stays. -/
theorem markContactS_loop : ∀ (d k : Nat) (i x : Int) (l : List S37), l.length ≤ 1048576 → d < k → 0 ≤ i → (l.length : Int) - i = d → x = 5 * i + 1 →
    ∃ l', laws_markContactS.l0 k l x i = some (5 * (l.length : Int) + 1, l') ∧ l'.length = l.length ∧ (∀ j : Nat, (j : Int) < i → l'[j]? = l[j]?) ∧ ∀ j : Nat, i ≤ (j : Int) → (j : Int) < l.length → l'[j]? = some (laws_markContactS.mk (5 * j + 1)) := by
  intro d
  induction d with
  | zero =>
    intro k i x l hm hk h0 hd hx
    obtain ⟨k, rfl⟩ : ∃ m, k = m + 1 := ⟨k - 1, by omega⟩
    simp only [laws_markContactS.l0]
    rw [if_neg (by omega)]
    exact ⟨l, by rw [hx, show i = l.length by omega], rfl, fun _ _ => rfl, fun j h1 h2 => by omega⟩
  | succ d ih =>
    intro k i x l hm hk h0 hd hx
    obtain ⟨k, rfl⟩ : ∃ m, k = m + 1 := ⟨k - 1, by omega⟩
    simp only [laws_markContactS.l0]
    rw [if_pos (by omega), if_pos h0, wrap_id (n := i + 1) (by omega) (by omega)]
    have e : wrap64 (wrap64 (wrap64 (wrap64 (wrap64 (x + 1) + 1) + 1) + 1) + 1) = x + 5 := by
      rw [wrap_id (n := x + 1) (by omega) (by omega), wrap_id (n := x + 1 + 1) (by omega) (by omega), wrap_id (n := x + 1 + 1 + 1) (by omega) (by omega), wrap_id (n := x + 1 + 1 + 1 + 1) (by omega) (by omega), wrap_id (n := x + 1 + 1 + 1 + 1 + 1) (by omega) (by omega)]
      omega
    rw [e]
    obtain ⟨l', hl, hn, hlo, hhi⟩ := ih k (i + 1) (x + 5) (l.set i.toNat (laws_markContactS.mk x)) (by simpa using hm) (by omega) (by omega) (by rw [List.length_set]; omega) (by omega)
    rw [List.length_set] at hl hn hhi
    refine ⟨l', hl, hn, fun j hj => ?_, fun j h1 h2 => ?_⟩
    · rw [hlo j (by omega), List.getElem?_set, if_neg (by omega)]
    · by_cases hj : (j : Int) = i
      · rw [hlo j (by omega), List.getElem?_set, if_pos (by omega), if_pos (by omega), hx, hj]
      · exact hhi j (by omega) h2
theorem heldContactS_loop (l : List S37) (hm : l.length ≤ 1048576) (hl : ∀ j : Nat, (j : Int) < l.length → l[j]? = some (laws_markContactS.mk (5 * j + 1))) : ∀ (d k : Nat) (i x : Int), d < k → 0 ≤ i → (l.length : Int) - i = d → x = 5 * i + 1 →
    laws_heldContactS.l0 k l x i = some (5 * (l.length : Int) + 1) := by
  intro d
  induction d with
  | zero =>
    intro k i x hk h0 hd hx
    obtain ⟨k, rfl⟩ : ∃ m, k = m + 1 := ⟨k - 1, by omega⟩
    simp only [laws_heldContactS.l0]
    rw [if_neg (by omega), hx, show i = l.length by omega]
  | succ d ih =>
    intro k i x hk h0 hd hx
    obtain ⟨k, rfl⟩ : ∃ m, k = m + 1 := ⟨k - 1, by omega⟩
    have hr : rd_T37 l i = laws_markContactS.mk x := by
      unfold rd_T37
      rw [List.getD_eq_getElem?_getD, hl i.toNat (by omega), hx, show ((i.toNat : Nat) : Int) = i by omega]
      rfl
    have e : wrap64 (wrap64 (wrap64 (wrap64 (wrap64 (x + 1) + 1) + 1) + 1) + 1) = x + 5 := by
      rw [wrap_id (n := x + 1) (by omega) (by omega), wrap_id (n := x + 1 + 1) (by omega) (by omega), wrap_id (n := x + 1 + 1 + 1) (by omega) (by omega), wrap_id (n := x + 1 + 1 + 1 + 1) (by omega) (by omega), wrap_id (n := x + 1 + 1 + 1 + 1 + 1) (by omega) (by omega)]
      omega
    simp only [laws_heldContactS.l0]
    rw [hr, if_pos (by omega), if_pos h0, if_pos (show (laws_markContactS.mk x).f0 = x from rfl), if_pos (show (laws_markContactS.mk x).f1 = wrap64 (x + 1) from rfl), if_pos (show (laws_markContactS.mk x).f2.f0.f0 = wrap64 (wrap64 (x + 1) + 1) from rfl), if_pos (show (laws_markContactS.mk x).f2.f0.f1 = wrap64 (wrap64 (wrap64 (x + 1) + 1) + 1) from rfl), if_pos (show (laws_markContactS.mk x).f2.f1 = wrap64 (wrap64 (wrap64 (wrap64 (x + 1) + 1) + 1) + 1) from rfl), e, wrap_id (n := i + 1) (by omega) (by omega)]
    exact ih k (i + 1) (x + 5) (by omega) (by omega) (by omega) (by omega)
theorem heldContactS_eq {k : Nat} {l : List S37} (hm : l.length ≤ 1048576) (hk : l.length < k) : ∃ l', laws_markContactS.f k l 1 = some (5 * (l.length : Int) + 1, l') ∧ laws_heldContactS.f k l' 1 = some (5 * (l.length : Int) + 1) := by
  obtain ⟨l', h1, h2, _, h3⟩ := markContactS_loop l.length k 0 1 l hm hk (by omega) (by omega) (by omega)
  refine ⟨l', h1, ?_⟩
  rw [← h2]
  exact heldContactS_loop l' (by omega) (fun j hj => h3 j (by omega) (by omega)) l'.length k 0 1 (by omega) (by omega) (by omega) (by omega)

theorem laws_eqVec_eq (a b c d : Int) : laws_eqVec.f a b c d = some (decide (a = c) && decide (b = d)) := by
  unfold laws_eqVec.f
  split <;> (try split) <;> simp_all

theorem eqContact_self (a b c d e : Int) : laws_eqContact.f a b c d e a b c d e = some true := by
  unfold laws_eqContact.f laws_eqHit.f
  simp [laws_eqVec_eq]
theorem eqContactS_loop (l : List S37) (hm : l.length ≤ 9223372036854775807) : ∀ (d k : Nat) (i : Int), d < k → 0 ≤ i → (l.length : Int) - i = d → laws_eqContactS.l0 k l l i = some true := by
  intro d
  induction d with
  | zero =>
    intro k i hk h0 hd
    obtain ⟨k, rfl⟩ : ∃ m, k = m + 1 := ⟨k - 1, by omega⟩
    simp only [laws_eqContactS.l0]
    rw [if_neg (by omega)]
  | succ d ih =>
    intro k i hk h0 hd
    obtain ⟨k, rfl⟩ : ∃ m, k = m + 1 := ⟨k - 1, by omega⟩
    have e1 : wrap64 (i + 1) = i + 1 := wrap_id (by omega) (by omega)
    simp only [laws_eqContactS.l0]
    rw [if_pos (by omega), if_pos h0, if_pos (by omega), eqContact_self]
    simp only [Option.bind_some, if_true]
    rw [e1]
    exact ih k (i + 1) (by omega) (by omega) (by omega)
theorem eqContactS_self {k : Nat} {l : List S37} (hm : l.length ≤ 9223372036854775807) (hk : l.length < k) : laws_eqContactS.f k l l = some true := by
  unfold laws_eqContactS.f
  rw [if_pos rfl]
  exact eqContactS_loop l hm l.length k 0 hk (by omega) (by omega)

theorem ctI_len (l : List S41) : ∀ (d : Nat) (i : Int), (ctI l d i).length ≤ d * d := by
  intro d
  induction d with
  | zero => intro i; simp [ctI]
  | succ d ih =>
    intro i
    have := ctJ_len l i d (i + 1)
    have := ih (i + 1)
    simp only [ctI, List.length_append]
    have : (d + 1) * (d + 1) = d * d + 2 * d + 1 := by rw [Nat.add_mul, Nat.mul_add]; omega
    omega
theorem cts_len {l : List S41} (h : l.length ≤ 12) : (cts l).length ≤ 144 := by
  have := ctI_len l l.length 0
  have : l.length * l.length ≤ 12 * 12 := Nat.mul_le_mul h h
  unfold cts
  omega

theorem laws_toBody_eq (i sk sw sh ax ay dx dy m bo ru q : Int) : laws_toBody.f i sk sw sh ax ay dx dy m bo ru q = some (i, sk, sw, sh, ax, ay, dx, dy, m, bo, ru, q) := rfl

/-- The body that a body of the statement stands for. -/
def cv (x : S76) : S41 := ⟨x.f0, ⟨x.f1.f0, x.f1.f1, x.f1.f2⟩, ⟨x.f2.f0, x.f2.f1⟩, ⟨x.f3.f0, x.f3.f1⟩, x.f4, x.f5, x.f6, x.f7⟩
theorem toBodyS_loop (l : List S76) (hm : l.length ≤ 1048576) : ∀ (d k : Nat) (i : Int) (out : List S41), d < k → 0 ≤ i → (l.length : Int) - i = d → out.length = l.length → (∀ j : Nat, (j : Int) < i → out[j]? = (l.map cv)[j]?) →
    laws_toBodyS.l0 k l out i = some (l.map cv) := by
  intro d
  induction d with
  | zero =>
    intro k i out hk h0 hd hl ho
    obtain ⟨k, rfl⟩ : ∃ m, k = m + 1 := ⟨k - 1, by omega⟩
    simp only [laws_toBodyS.l0]
    rw [if_neg (by omega)]
    congr 1
    refine List.ext_getElem? fun j => ?_
    rcases Nat.lt_or_ge j l.length with hj | hj
    · exact ho j (by omega)
    · rw [List.getElem?_eq_none (by omega), List.getElem?_eq_none (by rw [List.length_map]; omega)]
  | succ d ih =>
    intro k i out hk h0 hd hl ho
    obtain ⟨k, rfl⟩ : ∃ m, k = m + 1 := ⟨k - 1, by omega⟩
    have e1 : wrap64 (i + 1) = i + 1 := wrap_id (by omega) (by omega)
    simp only [laws_toBodyS.l0]
    rw [if_pos (by omega), if_pos h0, laws_toBody_eq]
    simp only [Option.bind_some]
    rw [if_pos (by omega), e1]
    refine ih k (i + 1) _ (by omega) (by omega) (by omega) (by rw [List.length_set]; exact hl) fun j hj => ?_
    rw [List.getElem?_set]
    by_cases hji : i.toNat = j
    · subst hji
      rw [if_pos rfl, if_pos (by omega), List.getElem?_map]
      unfold rd_T76
      rw [List.getD_eq_getElem?_getD, List.getElem?_eq_getElem (show i.toNat < l.length by omega)]
      rfl
    · rw [if_neg hji]
      exact ho j (by omega)
theorem toBodyS_eq {k : Nat} {l : List S76} (hm : l.length ≤ 1048576) (hk : l.length < k) : laws_toBodyS.f k l = some (l.map cv) := by
  unfold laws_toBodyS.f
  rw [if_pos (by omega), if_pos (by omega)]
  exact toBodyS_loop l hm l.length k 0 _ hk (by omega) (by omega) (by simp) (fun j hj => by omega)
theorem szBodyS_eq {l : List S76} (hm : l.length ≤ 9223372036854775807) : laws_szBodyS.f l 1048576 = some (if (1048576 : Int) - (l.length : Int) < 0 then (-1 : Int) else (1048576 : Int) - (l.length : Int)) := by
  unfold laws_szBodyS.f
  rw [wrap_id (by omega) (by omega)]
  split <;> rfl

theorem eqBody_self (a b c d e f g h i j k l : Int) : laws_eqBody.f a b c d e f g h i j k l a b c d e f g h i j k l = some true := by
  unfold laws_eqBody.f laws_eqShape.f
  simp [laws_eqVec_eq]
theorem eqBodyS_loop (l : List S41) (hm : l.length ≤ 9223372036854775807) : ∀ (d k : Nat) (i : Int), d < k → 0 ≤ i → (l.length : Int) - i = d → laws_eqBodyS.l0 k l l i = some true := by
  intro d
  induction d with
  | zero =>
    intro k i hk h0 hd
    obtain ⟨k, rfl⟩ : ∃ m, k = m + 1 := ⟨k - 1, by omega⟩
    simp only [laws_eqBodyS.l0]
    rw [if_neg (by omega)]
  | succ d ih =>
    intro k i hk h0 hd
    obtain ⟨k, rfl⟩ : ∃ m, k = m + 1 := ⟨k - 1, by omega⟩
    have e1 : wrap64 (i + 1) = i + 1 := wrap_id (by omega) (by omega)
    simp only [laws_eqBodyS.l0]
    rw [if_pos (by omega), if_pos h0, if_pos (by omega), eqBody_self]
    simp only [Option.bind_some, if_true]
    rw [e1]
    exact ih k (i + 1) (by omega) (by omega) (by omega)
theorem eqBodyS_self {k : Nat} {l : List S41} (hm : l.length ≤ 9223372036854775807) (hk : l.length < k) : laws_eqBodyS.f k l l = some true := by
  unfold laws_eqBodyS.f
  rw [if_pos rfl]
  exact eqBodyS_loop l hm l.length k 0 hk (by omega) (by omega)

theorem FnExactContacts : laws_FnExactContacts.Pure := by
  intro l hm _
  unfold laws_FnExactContacts.f
  rw [szBodyS_eq hm]
  simp only [Option.bind_some]
  by_cases h : (1048576 : Int) - l.length < 0
  · exact ⟨0, by rw [if_pos h, if_pos (by omega)]⟩
  · refine ⟨(gas l.length + l.length + 1000) + 1, ?_⟩
    rw [if_neg h, if_neg (by omega)]
    have hc : (if bodiesOk (l.map cv) = true then cts (l.map cv) else []).length ≤ 144 := by
      split
      · rename_i hb; exact cts_len (bodiesOk_get hb).1
      · simp
    have hn : (l.map cv).length = l.length := List.length_map ..
    have hg : gas (l.map cv).length = gas l.length := by rw [hn]
    generalize hq : gas l.length + l.length + 1000 = q
    rw [toBodyS_eq (by omega) (by omega)]
    simp only [Option.bind_some]
    rw [spec_Contacts_eq (by omega) (by omega), impl_Contacts_eq (by omega) (by omega)]
    simp only [Option.bind_some]
    rw [eqContactS_self (by omega) (by omega), eqBodyS_self (by omega) (by omega)]
    obtain ⟨l1, m, h1, h2⟩ := markBodyS_eq (k := q + 1) (l := l.map cv) (by omega) (by omega)
    simp only [Option.bind_some, if_true]
    rw [h1]
    simp only [Option.bind_some]
    rw [if_neg (by omega)]
    simp only [laws_FnExactContacts.j0]
    obtain ⟨l2, h3, h4⟩ := heldContactS_eq (k := q) (l := if bodiesOk (l.map cv) = true then cts (l.map cv) else []) (by omega) (by omega)
    rw [h3]
    simp only [Option.bind_some]
    rw [h4, toBodyS_eq (k := q) (by omega) (by omega)]
    simp only [Option.bind_some]
    rw [impl_Contacts_eq (k := q) (by omega) (by omega)]
    simp only [Option.bind_some]
    rw [eqContactS_self (k := q) (by omega) (by omega)]
    simp only [Option.bind_some]
    rw [if_neg (by decide)]
    have hp : ¬ 5 * ((if bodiesOk (l.map cv) = true then cts (l.map cv) else []).length : Int) + 1 < 0 := by omega
    simp only [if_neg hp, if_true]

end Go.Proofs.Ytdngjedhbnoaoaa.Pure
