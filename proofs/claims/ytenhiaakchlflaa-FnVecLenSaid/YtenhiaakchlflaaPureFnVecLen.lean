/- FnVecLen: what the program computes is what the reference computes, or has the law's properties, at all whole numbers and lists that the statement lets in; no further condition. -/
import Derived.Test.YtenhiaakchlflaaPFnVecLenx3
import Derived.Test.YtenhiaakchlflaaMath
namespace Go.Proofs.Ytenhiaakchlflaa.Pure
open Go.RowKit Go.Proofs.Ytenhiaakchlflaa.PFnVecLen Go.Proofs.YtenhiaakchlflaaW.PrintWords Go.Proofs.YtenhiaakchlflaaW.PrintLast Go.Proofs.YtenhiaakchlflaaW.PrintMore Go.Proofs.Ytenhiaakchlflaa.Math
set_option linter.unusedVariables false
set_option linter.unusedSimpArgs false

/-- A code of bytes, of at most 2000. -/
def Code (s : List Int) : Prop := (∀ x ∈ s, 0 ≤ x ∧ x ≤ 255) ∧ s.length ≤ 2000
theorem u8_of {x : Int} (h : (Lit.int .u8 x).wf = true) : 0 ≤ x ∧ x ≤ 255 := by
  simp [Lit.wf, IntKind.min, IntKind.max, IntKind.signed, IntKind.bits] at h
  omega
theorem code_rd {s : List Int} (h : Code s) (i : Int) : 0 ≤ rd s i ∧ rd s i ≤ 255 := by
  unfold rd
  rw [List.getD_eq_getElem?_getD]
  rcases Nat.lt_or_ge i.toNat s.length with hl | hl
  · rw [List.getElem?_eq_getElem hl]
    exact h.1 _ (List.getElem_mem hl)
  · rw [List.getElem?_eq_none hl]
    exact ⟨by simp, by simp⟩
theorem xor_ge {a b : Int} (ha : 0 ≤ a) (ha' : a < 9223372036854775808) (hb : 0 ≤ b) (hb' : b < 9223372036854775808) : 0 ≤ Go.bits .xor .i64 a b := by
  obtain ⟨x, rfl⟩ := Int.eq_ofNat_of_zero_le ha
  obtain ⟨y, rfl⟩ := Int.eq_ofNat_of_zero_le hb
  have hx : x ^^^ y < 2 ^ 63 := Nat.xor_lt_two_pow (by omega) (by omega)
  have h1 : (BitVec.ofInt 64 (x : Int)).toNat = x := by rw [BitVec.toNat_ofInt]; omega
  have h2 : (BitVec.ofInt 64 (y : Int)).toNat = y := by rw [BitVec.toNat_ofInt]; omega
  have e : (BitVec.ofInt 64 (x : Int) ^^^ BitVec.ofInt 64 (y : Int)).toNat = x ^^^ y := by rw [BitVec.toNat_xor, h1, h2]
  have hb : Go.bits .xor .i64 (x : Int) (y : Int) = IntKind.wrap .i64 ((x ^^^ y : Nat) : Int) := by rw [← e]; rfl
  rw [hb]
  generalize x ^^^ y = z at hx
  have hz : ((z : Nat) : Int) % 18446744073709551616 = z := Int.emod_eq_of_lt (by omega) (by omega)
  show 0 ≤ (if (true && decide ((z : Int) % 18446744073709551616 ≥ 9223372036854775808)) = true then (z : Int) % 18446744073709551616 - 18446744073709551616 else (z : Int) % 18446744073709551616)
  rw [hz]
  split
  · rename_i hh
    simp at hh
    omega
  · omega
theorem tmod_in {a n : Int} (ha : 0 ≤ a) (hn : 0 < n) : 0 ≤ Int.tmod a n ∧ Int.tmod a n < n := ⟨Int.tmod_nonneg _ ha, Int.tmod_lt_of_pos _ hn⟩

theorem spec_l1Open_eq {l : List Int} (h : ∀ x ∈ l, (Lit.int .u8 x).wf = true) : ∃ s, spec_l1Open.f l = some (s, 0) ∧ Code s := by
  unfold spec_l1Open.f
  by_cases hl : (l.length : Int) > 2000
  · rw [if_pos hl, if_pos (by omega)]
    exact ⟨_, rfl, fun x hx => u8_of (h x (List.mem_of_mem_take hx)), by rw [List.length_take]; omega⟩
  · rw [if_neg hl]
    exact ⟨_, rfl, fun x hx => u8_of (h x hx), by omega⟩

theorem pick_eq {s : List Int} (hs : Code s) {k : Nat} {p n : Int} (hk : 0 < k) (h0 : 0 ≤ p) (h1 : p ≤ 1000000) :
    ∃ v, spec_l1Rd_pick.f k s p n = some (v, p + 1) ∧ 0 ≤ v ∧ (0 < n → v < n) ∧ (n ≤ 0 → v = 0) := by
  obtain ⟨k, rfl⟩ : ∃ m, k = m + 1 := ⟨k - 1, by omega⟩
  have e0 : wrap64 (p + 1) = p + 1 := wrap_id (by omega) (by omega)
  unfold spec_l1Rd_pick.f
  simp only [spec_l1Rd_pick.j0, e0]
  by_cases hn : n < 1
  · rw [if_pos hn]
    exact ⟨0, by simp, by omega, by omega, by omega⟩
  rw [if_neg hn]
  by_cases hz : (s.length : Int) = 0
  · exact ⟨0, by simp [hz], by omega, by omega, by omega⟩
  have hl : 0 < (s.length : Int) := by omega
  have hl2 := hs.2
  have e1 : wrap64 (p + 1 - 1) = p := by rw [wrap_id (by omega) (by omega)]; omega
  rw [if_neg (by simp only [beq_iff_eq]; exact hz), e1]
  by_cases hp : p < (s.length : Int)
  · have hr := code_rd hs p
    rw [if_pos hp, if_pos h0, if_neg (by omega), wrap_id (n := rd s p) (by omega) (by omega)]
    obtain ⟨g1, g2⟩ := tmod_in hr.1 (show 0 < n by omega)
    exact ⟨_, rfl, g1, fun _ => g2, by omega⟩
  · have e2 : wrap64 (wrap64 (p * 7) + 3) = p * 7 + 3 := by rw [wrap_id (n := p * 7) (by omega) (by omega), wrap_id (by omega) (by omega)]
    obtain ⟨a1, a2⟩ := tmod_in (a := p) h0 hl
    obtain ⟨b1, b2⟩ := tmod_in (a := p * 7 + 3) (by omega) hl
    rw [if_neg hp, if_neg hz, e2, if_pos a1, if_pos a2, if_pos b1, if_pos b2, if_neg (by omega)]
    have c1 := code_rd hs (Int.tmod p s.length)
    have c2 := code_rd hs (Int.tmod (p * 7 + 3) s.length)
    generalize rd s (Int.tmod p s.length) = x at c1 ⊢
    generalize rd s (Int.tmod (p * 7 + 3) s.length) = y at c2 ⊢
    obtain ⟨d1, d2, _⟩ := td_pos hl h0
    have d3 := td_bd (a := p) (m := p) (by omega) (by omega) s.length hl
    generalize Int.tdiv p s.length = z at d1 d2 d3 ⊢
    have ex : wrap64 (wrap64 (wrap64 (wrap64 (wrap64 x * 131) + wrap64 (wrap64 y * 1117)) + wrap64 (p * 29)) + wrap64 (wrap64 z * 53)) = x * 131 + y * 1117 + p * 29 + z * 53 := by
      rw [wrap_id (n := x) (by omega) (by omega), wrap_id (n := y) (by omega) (by omega), wrap_id (n := z) (by omega) (by omega), wrap_id (n := x * 131) (by omega) (by omega), wrap_id (n := y * 1117) (by omega) (by omega),
        wrap_id (n := p * 29) (by omega) (by omega), wrap_id (n := z * 53) (by omega) (by omega), wrap_id (n := x * 131 + y * 1117) (by omega) (by omega), wrap_id (n := x * 131 + y * 1117 + p * 29) (by omega) (by omega), wrap_id (by omega) (by omega)]
    rw [ex]
    have hX : 0 ≤ x * 131 + y * 1117 + p * 29 + z * 53 ∧ x * 131 + y * 1117 + p * 29 + z * 53 ≤ 100000000 := by omega
    generalize x * 131 + y * 1117 + p * 29 + z * 53 = X at hX ⊢
    obtain ⟨f1, f2, _⟩ := td_pos (a := X) (d := 64) (by omega) hX.1
    have hx := xor_ge (a := X) (b := wrap64 (Int.tdiv X 64)) hX.1 (by omega) (by rw [wrap_id (by omega) (by omega)]; omega) (by rw [wrap_id (by omega) (by omega)]; omega)
    obtain ⟨g1, g2⟩ := tmod_in hx (show 0 < n by omega)
    exact ⟨_, rfl, g1, fun _ => g2, by omega⟩

theorem one_eq {s : List Int} (hs : Code s) {k : Nat} {p : Int} {xs : List Int} {P : Int → Prop} (hP : ∀ x ∈ xs, P x) (hk : 0 < k) (h0 : 0 ≤ p) (h1 : p ≤ 1000000) (hx : 0 < xs.length) :
    ∃ v, spec_l1Rd_one.f k s p xs = some (v, p + 1) ∧ P v := by
  obtain ⟨v, e, g0, g1, _⟩ := pick_eq hs (n := (xs.length : Int)) hk h0 h1
  have g1 := g1 (by omega)
  unfold spec_l1Rd_one.f
  rw [e]
  simp only [Option.bind_some]
  rw [if_pos g0, if_pos g1]
  refine ⟨_, rfl, hP _ ?_⟩
  unfold rd
  rw [List.getD_eq_getElem?_getD, List.getElem?_eq_getElem (show v.toNat < xs.length by omega)]
  exact List.getElem_mem _

theorem big_eq {s : List Int} (hs : Code s) {k : Nat} {p n : Int} (hk : 0 < k) (h0 : 0 ≤ p) (h1 : p ≤ 900000) (hn : 0 < n) :
    ∃ v, spec_l1Rd_big.f k s p n = some (v, p + 3) ∧ 0 ≤ v ∧ v < n := by
  obtain ⟨a, ea, a0, a1, _⟩ := pick_eq hs (n := 256) hk h0 (by omega)
  obtain ⟨b, eb, b0, b1, _⟩ := pick_eq hs (p := p + 1) (n := 256) hk (by omega) (by omega)
  obtain ⟨c, ec, c0, c1, _⟩ := pick_eq hs (p := p + 1 + 1) (n := 256) hk (by omega) (by omega)
  have a1 := a1 (by omega)
  have b1 := b1 (by omega)
  have c1 := c1 (by omega)
  unfold spec_l1Rd_big.f
  rw [ea]; simp only [Option.bind_some]
  rw [eb]; simp only [Option.bind_some]
  rw [ec]; simp only [Option.bind_some]
  rw [if_neg (by omega), wrap_id (n := a * 65536) (by omega) (by omega), wrap_id (n := b * 256) (by omega) (by omega), wrap_id (n := a * 65536 + b * 256) (by omega) (by omega), wrap_id (by omega) (by omega)]
  obtain ⟨g1, g2⟩ := tmod_in (a := a * 65536 + b * 256 + c) (by omega) hn
  exact ⟨_, by rw [show p + 1 + 1 + 1 = p + 3 by omega], g1, g2⟩

theorem num_eq {s : List Int} (hs : Code s) {k : Nat} {p : Int} (hk : 0 < k) (h0 : 0 ≤ p) (h1 : p ≤ 800000) :
    ∃ v, spec_l11Num.f k s p = some (v, p + 9) ∧ -1099511627776 ≤ v ∧ v ≤ 1099511627776 := by
  obtain ⟨a, ea, a0, a1, _⟩ := pick_eq hs (p := p) (n := 256) hk h0 (by omega)
  have a1 := a1 (by omega)
  obtain ⟨b, eb, b0, b1⟩ := big_eq hs (p := p + 1) (n := 100000) hk (by omega) (by omega) (by omega)
  obtain ⟨c, ec, c0, c1⟩ := big_eq hs (p := p + 1 + 3) (n := 16777216) hk (by omega) (by omega) (by omega)
  obtain ⟨d, ed, d0, d1⟩ := one_eq hs (p := p + 1 + 3 + 3) (xs := [a, b, c, 1000000000, 0, 256, 1000000001, 1099511627776]) (P := fun v => 0 ≤ v ∧ v ≤ 1099511627776) (by simp; omega) hk (by omega) (by omega) (by simp)
  obtain ⟨f, ef, f0, f1, _⟩ := pick_eq hs (p := p + 1 + 3 + 3 + 1) (n := 3) hk (by omega) (by omega)
  unfold spec_l11Num.f
  rw [ea]; simp only [Option.bind_some]
  rw [eb]; simp only [Option.bind_some]
  rw [ec]; simp only [Option.bind_some]
  rw [ed]; simp only [Option.bind_some]
  rw [ef]; simp only [Option.bind_some]
  have e9 : p + 1 + 3 + 3 + 1 + 1 = p + 9 := by omega
  rw [e9]
  by_cases hf : f = 0
  · rw [if_pos hf, wrap_id (by omega) (by omega)]
    exact ⟨_, rfl, by omega, by omega⟩
  · rw [if_neg hf]
    exact ⟨_, rfl, by omega, by omega⟩

theorem vec_eq {s : List Int} (hs : Code s) {k : Nat} {p : Int} (hk : 0 < k) (h0 : 0 ≤ p) (h1 : p ≤ 700000) :
    ∃ x y q, spec_l11Vec.f k s p = some (x, y, q) ∧ p ≤ q ∧ q ≤ p + 100 ∧ (-1099511627776 ≤ x ∧ x ≤ 1099511627776) ∧ (-1099511627776 ≤ y ∧ y ≤ 1099511627776) := by
  obtain ⟨a, ea, a0, a1, _⟩ := pick_eq hs (p := p) (n := 3) hk h0 (by omega)
  unfold spec_l11Vec.f
  rw [ea]; simp only [Option.bind_some]
  by_cases ha : a = 0
  · obtain ⟨x, ex, hx⟩ := num_eq hs (p := p + 1) hk (by omega) (by omega)
    obtain ⟨y, ey, hy⟩ := num_eq hs (p := p + 1 + 9) hk (by omega) (by omega)
    rw [if_pos ha, ex]; simp only [Option.bind_some]
    rw [ey]; simp only [Option.bind_some]
    exact ⟨_, _, _, rfl, by omega, by omega, hx, hy⟩
  · obtain ⟨x, ex, x0, x1, _⟩ := pick_eq hs (p := p + 1) (n := 256) hk (by omega) (by omega)
    obtain ⟨f, ef, hf⟩ := one_eq hs (p := p + 1 + 1) (xs := [1, 10, 100]) (P := fun v => v = 1 ∨ v = 10 ∨ v = 100) (by simp) hk (by omega) (by omega) (by simp)
    obtain ⟨y, ey, y0, y1, _⟩ := pick_eq hs (p := p + 1 + 1 + 1) (n := 256) hk (by omega) (by omega)
    obtain ⟨g, eg, hg⟩ := one_eq hs (p := p + 1 + 1 + 1 + 1) (xs := [1, 10, 100]) (P := fun v => v = 1 ∨ v = 10 ∨ v = 100) (by simp) hk (by omega) (by omega) (by simp)
    have x1 := x1 (by omega)
    have y1 := y1 (by omega)
    rw [if_neg ha, ex]; simp only [Option.bind_some]
    rw [ef]; simp only [Option.bind_some]
    rw [ey]; simp only [Option.bind_some]
    rw [eg]; simp only [Option.bind_some]
    have hxf : 0 ≤ x * f ∧ x * f ≤ 25500 := by rcases hf with rfl | rfl | rfl <;> omega
    have hyg : 0 ≤ y * g ∧ y * g ≤ 25500 := by rcases hg with rfl | rfl | rfl <;> omega
    rw [wrap_id (n := x * f) (by omega) (by omega), wrap_id (n := y * g) (by omega) (by omega), wrap_id (by omega) (by omega), wrap_id (by omega) (by omega)]
    exact ⟨_, _, _, rfl, by omega, by omega, by omega, by omega⟩

theorem spec_DrawVecLen_eq {l : List Int} (h : ∀ x ∈ l, (Lit.int .u8 x).wf = true) {k : Nat} (hk : 0 < k) : ∃ a b, spec_DrawVecLen.f k l = some (a, b) := by
  obtain ⟨s, es, hs⟩ := spec_l1Open_eq h
  obtain ⟨a, b, q, ea, _⟩ := vec_eq hs (p := 0) hk (by omega) (by omega)
  refine ⟨a, b, ?_⟩
  unfold spec_DrawVecLen.f
  rw [es]; simp only [Option.bind_some]
  rw [ea]; simp only [Option.bind_some]

theorem spec_FixClamp_eq (a : Int) : spec_FixClamp.f a = some (cl a) := by
  unfold spec_FixClamp.f cl
  split
  · rfl
  · split <;> rfl

theorem spec_l2Clamp_eq (a b : Int) : spec_l2Clamp.f a b = some (cl a, cl b) := by
  unfold spec_l2Clamp.f
  simp only [spec_FixClamp_eq, Option.bind_some]

theorem spec_l2Square_cl (a b : Int) : spec_l2Square.f (cl a) (cl b) = some (vsq a b) := by
  have ha := cl_bd a
  have hb := cl_bd b
  have := vsq_bd a b
  unfold spec_l2Square.f vsq at *
  rw [wrap_mul ha.1 ha.2 ha.1 ha.2, wrap_mul hb.1 hb.2 hb.1 hb.2, wrap_id (by omega) (by omega)]

theorem spec_l1Root_loop {n : Int} (hn : 0 ≤ n) : ∀ (d k : Nat) (a b : Int), d < k → 0 ≤ a → a < b → b ≤ 3000000000 → b - a ≤ 2 ^ d → a * a ≤ n → n < b * b →
    ∃ r, spec_l1Root.l1 k n a b = some r ∧ IsRoot n r := by
  intro d
  induction d with
  | zero =>
    intro k a b hk ha hab hb hd h1 h2
    obtain ⟨k, rfl⟩ : ∃ m, k = m + 1 := ⟨k - 1, by omega⟩
    obtain rfl : b = a + 1 := by simp at hd; omega
    exact ⟨a, by simp only [spec_l1Root.l1]; rw [wrap_id (by omega) (by omega), if_neg (by omega)], ha, h1, h2⟩
  | succ d ih =>
    intro k a b hk ha hab hb hd h1 h2
    obtain ⟨k, rfl⟩ : ∃ m, k = m + 1 := ⟨k - 1, by omega⟩
    by_cases hc : b - a > 1
    · have e : wrap64 (Int.tdiv (wrap64 (a + b)) 2) = (a + b) / 2 := by
        rw [wrap_id (n := a + b) (by omega) (by omega), Int.tdiv_eq_ediv_of_nonneg (by omega), wrap_id (by omega) (by omega)]
      have hp : (2 : Int) ^ (d + 1) = 2 * 2 ^ d := by rw [Int.pow_succ, Int.mul_comm]
      rw [hp] at hd
      obtain ⟨m, hm⟩ : ∃ m, m = (a + b) / 2 := ⟨_, rfl⟩
      rw [← hm] at e
      have hq : m * m ≤ 3000000000 * 3000000000 := mul_le_sq (by omega) (by omega)
      have hq0 := sq_nonneg m
      by_cases hle : m * m ≤ n
      · obtain ⟨r, hr, h⟩ := ih k m b (by omega) (by omega) (by omega) hb (by omega) hle h2
        refine ⟨r, ?_, h⟩
        simp only [spec_l1Root.l1]
        rw [wrap_id (n := b - a) (by omega) (by omega), if_pos hc, e, wrap_id (n := m * m) (by omega) (by omega), if_pos hle]
        exact hr
      · obtain ⟨r, hr, h⟩ := ih k a m (by omega) ha (by omega) (by omega) (by omega) h1 (by omega)
        refine ⟨r, ?_, h⟩
        simp only [spec_l1Root.l1]
        rw [wrap_id (n := b - a) (by omega) (by omega), if_pos hc, e, wrap_id (n := m * m) (by omega) (by omega), if_neg hle]
        exact hr
    · obtain rfl : b = a + 1 := by omega
      exact ⟨a, by simp only [spec_l1Root.l1]; rw [wrap_id (by omega) (by omega), if_neg (by omega)], ha, h1, h2⟩
theorem spec_l1Root_up {n : Int} (hn : 0 ≤ n) (hn' : n ≤ 2000000000000000000) : ∀ (d k : Nat) (h : Int), d + 34 < k → 1 ≤ h → h ≤ 2828427124 → 2147483648 ≤ h * 2 ^ d →
    ∃ r, spec_l1Root.l0 k n 0 h = some r ∧ IsRoot n r := by
  intro d
  have out : ∀ (k : Nat) (h : Int), 34 < k → 1 ≤ h → h ≤ 2828427124 → n < h * h → ∃ r, spec_l1Root.l0 k n 0 h = some r ∧ IsRoot n r := by
    intro k h hk h1 h2 h3
    obtain ⟨k, rfl⟩ : ∃ m, k = m + 1 := ⟨k - 1, by omega⟩
    obtain ⟨r, hr, hi⟩ := spec_l1Root_loop hn 32 k 0 h (by omega) (by omega) (by omega) (by omega) (by omega) (by omega) h3
    refine ⟨r, ?_, hi⟩
    have := mul_le_sq (a := h) (b := 2828427124) (by omega) h2
    have := sq_nonneg h
    simp only [spec_l1Root.l0]
    rw [wrap_id (by omega) (by omega), if_neg (by omega)]
    exact hr
  induction d with
  | zero =>
    intro k h hk h1 h2 h3
    have : 2147483648 * 2147483648 ≤ h * h := mul_le_sq (by omega) (by omega)
    exact out k h (by omega) h1 h2 (by omega)
  | succ d ih =>
    intro k h hk h1 h2 h3
    rcases Int.lt_or_le n (h * h) with hlt | hle
    · exact out k h (by omega) h1 h2 hlt
    · have hb : h ≤ 1414213562 := by
        rcases Int.lt_or_le 1414213562 h with hb | hb
        · have : 1414213563 * 1414213563 ≤ h * h := mul_le_sq (by omega) (by omega)
          omega
        · exact hb
      obtain ⟨k, rfl⟩ : ∃ m, k = m + 1 := ⟨k - 1, by omega⟩
      have hp : (2 : Int) ^ (d + 1) = 2 * 2 ^ d := by rw [Int.pow_succ, Int.mul_comm]
      rw [hp] at h3
      obtain ⟨r, hr, hi⟩ := ih k (2 * h) (by omega) (by omega) (by omega) (by rw [Int.mul_assoc, Int.mul_left_comm]; exact h3)
      refine ⟨r, ?_, hi⟩
      have := mul_le_sq (a := h) (b := 2828427124) (by omega) h2
      have := sq_nonneg h
      simp only [spec_l1Root.l0]
      rw [wrap_id (n := h * h) (by omega) (by omega), if_pos hle, wrap_id (by omega) (by omega)]
      exact hr
theorem spec_l1Root_eq {k : Nat} (hk : 65 < k) {n : Int} (hn : 0 ≤ n) (hn' : n ≤ 2000000000000000000) : spec_l1Root.f k n = some (rt n) := by
  obtain ⟨r, hr, h⟩ := spec_l1Root_up hn hn' 31 k 1 (by omega) (by omega) (by omega) (by decide)
  unfold spec_l1Root.f
  rw [hr, rt_eq h]

theorem spec_VecLen_eq {k : Nat} (hk : 65 < k) (a b : Int) : spec_VecLen.f k a b = some (vlen a b) := by
  have := vsq_bd a b
  unfold spec_VecLen.f vlen
  simp only [spec_l2Clamp_eq, spec_l2Square_cl, Option.bind_some]
  rw [spec_l1Root_eq hk (by omega) (by omega)]
  simp only [spec_FixClamp_eq, Option.bind_some]

theorem impl_within_eq {a m : Int} (h0 : 0 ≤ m) (h1 : m ≤ 1000000000000) : impl_within.f a m = some (wi a m) := by
  unfold impl_within.f wi
  rw [wrap_id (by omega) (by omega), mx_eq, mn_eq]

theorem impl_Vec_clamped_eq {a b m : Int} (h0 : 0 ≤ m) (h1 : m ≤ 1000000000000) : impl_Vec_clamped.f a b m = some (wi a m, wi b m) := by
  unfold impl_Vec_clamped.f
  simp only [impl_within_eq h0 h1, Option.bind_some]
theorem impl_Vec_clamped_cl (a b : Int) : impl_Vec_clamped.f a b 1000000000 = some (cl a, cl b) := by
  rw [impl_Vec_clamped_eq (by omega) (by omega), wi_cl, wi_cl]

theorem impl_Vec_square_cl (a b : Int) : impl_Vec_square.f (cl a) (cl b) = some (vsq a b) := by
  have ha := cl_bd a
  have hb := cl_bd b
  have := vsq_bd a b
  unfold impl_Vec_square.f vsq at *
  rw [wrap_mul ha.1 ha.2 ha.1 ha.2, wrap_mul hb.1 hb.2 hb.1 hb.2, wrap_id (by omega) (by omega)]

theorem impl_root_loop {n : Int} (hn : 0 ≤ n) : ∀ (d k : Nat) (a b : Int), d < k → 0 ≤ a → a < b → b ≤ 3000000000 → b - a ≤ 2 ^ d → a * a ≤ n → n < b * b →
    ∃ r, impl_root.l0 k n a b = some r ∧ IsRoot n r := by
  intro d
  induction d with
  | zero =>
    intro k a b hk ha hab hb hd h1 h2
    obtain ⟨k, rfl⟩ : ∃ m, k = m + 1 := ⟨k - 1, by omega⟩
    obtain rfl : b = a + 1 := by simp at hd; omega
    exact ⟨a, by simp only [impl_root.l0]; rw [wrap_id (by omega) (by omega), if_neg (by omega)], ha, h1, h2⟩
  | succ d ih =>
    intro k a b hk ha hab hb hd h1 h2
    obtain ⟨k, rfl⟩ : ∃ m, k = m + 1 := ⟨k - 1, by omega⟩
    by_cases hc : b - a > 1
    · have e : wrap64 (Int.tdiv (wrap64 (a + b)) 2) = (a + b) / 2 := by
        rw [wrap_id (n := a + b) (by omega) (by omega), Int.tdiv_eq_ediv_of_nonneg (by omega), wrap_id (by omega) (by omega)]
      have hp : (2 : Int) ^ (d + 1) = 2 * 2 ^ d := by rw [Int.pow_succ, Int.mul_comm]
      rw [hp] at hd
      obtain ⟨m, hm⟩ : ∃ m, m = (a + b) / 2 := ⟨_, rfl⟩
      rw [← hm] at e
      have hq : m * m ≤ 3000000000 * 3000000000 := mul_le_sq (by omega) (by omega)
      have hq0 := sq_nonneg m
      by_cases hle : m * m ≤ n
      · obtain ⟨r, hr, h⟩ := ih k m b (by omega) (by omega) (by omega) hb (by omega) hle h2
        refine ⟨r, ?_, h⟩
        simp only [impl_root.l0]
        rw [wrap_id (n := b - a) (by omega) (by omega), if_pos hc, e, wrap_id (n := m * m) (by omega) (by omega), if_pos hle]
        exact hr
      · obtain ⟨r, hr, h⟩ := ih k a m (by omega) ha (by omega) (by omega) (by omega) h1 (by omega)
        refine ⟨r, ?_, h⟩
        simp only [impl_root.l0]
        rw [wrap_id (n := b - a) (by omega) (by omega), if_pos hc, e, wrap_id (n := m * m) (by omega) (by omega), if_neg hle]
        exact hr
    · obtain rfl : b = a + 1 := by omega
      exact ⟨a, by simp only [impl_root.l0]; rw [wrap_id (by omega) (by omega), if_neg (by omega)], ha, h1, h2⟩
theorem impl_root_eq {k : Nat} (hk : 32 < k) {n : Int} (hn : 0 ≤ n) (hn' : n ≤ 2000000000000000000) : impl_root.f k n = some (rt n) := by
  obtain ⟨r, hr, h⟩ := impl_root_loop hn 32 k 0 2147483648 hk (by omega) (by omega) (by omega) (by decide) (by omega) (by omega)
  unfold impl_root.f
  rw [hr, rt_eq h]

theorem impl_FixClamp_eq (a : Int) : impl_FixClamp.f a = some (cl a) := by
  unfold impl_FixClamp.f
  rw [impl_within_eq (by omega) (by omega), wi_cl]; rfl

theorem impl_VecLen_eq {k : Nat} (hk : 65 < k) (a b : Int) : impl_VecLen.f k a b = some (vlen a b) := by
  have := vsq_bd a b
  unfold impl_VecLen.f vlen
  simp only [impl_Vec_clamped_cl, impl_Vec_square_cl, Option.bind_some]
  rw [impl_root_eq (by omega) (by omega) (by omega)]
  simp only [impl_FixClamp_eq, Option.bind_some]

theorem spec_l1In_eq (a l h : Int) : spec_l1In.f a l h = some (inB a l h) := by
  unfold spec_l1In.f inB
  split <;> simp <;> omega

theorem spec_VecOk_eq (a b : Int) : spec_VecOk.f a b = some (vecOk a b) := by
  unfold spec_VecOk.f vecOk
  simp only [spec_l1In_eq, Option.bind_some]
  cases inB a (-1000000000) 1000000000 <;> simp

theorem impl_Vec_plus_eq (a b c d : Int) : impl_Vec_plus.f a b c d = some (wrap64 (a + c), wrap64 (b + d)) := rfl

theorem impl_VecAdd_eq (a b c d : Int) : impl_VecAdd.f a b c d = some (cl (cl a + cl c), cl (cl b + cl d)) := by
  unfold impl_VecAdd.f
  have := cl_bd a; have := cl_bd b; have := cl_bd c; have := cl_bd d
  simp only [impl_Vec_clamped_cl, impl_Vec_plus_eq, Option.bind_some]
  rw [wrap_id (by omega) (by omega), wrap_id (by omega) (by omega)]

theorem vlen_root {a b : Int} (h : vlen a b < 1000000000) : IsRoot (cl a * cl a + cl b * cl b) (vlen a b) := by
  have hr := rt_is (vsq_bd a b).1
  have hb := rt_vsq_bd a b
  have : vlen a b = rt (vsq a b) := by
    unfold vlen at h ⊢
    unfold cl at h ⊢
    split at h
    · omega
    · rename_i h1
      rw [if_neg h1, if_neg (by omega)]
  rw [this]
  exact hr

theorem FnVecLen : laws_FnVecLen.Pure := by
  intro l l' _ _ hw _ _ hw'
  refine ⟨99 + 1 + 1 + 1, ?_⟩
  unfold laws_FnVecLen.f
  obtain ⟨a, b, ea⟩ := spec_DrawVecLen_eq hw (k := 99 + 1 + 1) (by omega)
  obtain ⟨c, d, eb⟩ := spec_DrawVecLen_eq hw' (k := 99 + 1 + 1) (by omega)
  have hn := vlen_bd a b
  have hm := vlen_bd c d
  have hs := vlen_bd (cl (cl a + cl c)) (cl (cl b + cl d))
  simp only [laws_FnVecLen.j0, laws_FnVecLen.j1, laws_FnVecLen.j2, ea, eb, Option.bind_some, impl_VecLen_eq (show 65 < 99 + 1 + 1 by omega), spec_VecLen_eq (show 65 < 99 + 1 + 1 by omega), impl_VecLen_eq (show 65 < 99 + 1 by omega), spec_VecLen_eq (show 65 < 99 + 1 by omega), impl_VecLen_eq (show 65 < 99 by omega), spec_VecOk_eq, impl_VecAdd_eq, if_true]
  rw [if_neg (show ¬ vlen a b < 0 by omega), wrap_id (n := vlen a b + vlen c d) (by omega) (by omega), wrap_id (n := vlen a b + vlen c d + 2) (by omega) (by omega)]
  have htri : vlen (cl (cl a + cl c)) (cl (cl b + cl d)) ≤ vlen a b + vlen c d + 2 := by
    by_cases h1 : vlen a b < 1000000000
    · by_cases h2 : vlen c d < 1000000000
      · have r1 := vlen_root h1
        have r2 := vlen_root h2
        have hr := rt_is (vsq_bd (cl (cl a + cl c)) (cl (cl b + cl d))).1
        have g1 := vsq_sum a b c d
        have g2 := vlen_rt (cl (cl a + cl c)) (cl (cl b + cl d))
        have := root_tri r1 r2 hr.1 (by have := hr.2.1; omega)
        omega
      · omega
    · omega
  have fin : (decide (vlen (cl (cl a + cl c)) (cl (cl b + cl d)) ≤ vlen a b + vlen c d + 2)) = true := by simpa using htri
  have hge : decide (vlen a b ≥ 0) = true := by simpa using hn.1
  rw [fin, hge]
  by_cases hl : (l.length : Int) > 1048576
  · simp [hl]
  by_cases hl' : (l'.length : Int) > 1048576
  · simp [hl']
  simp only [hl, hl', if_false, decide_false, Bool.false_eq_true]
  cases h1 : vecOk a b
  · simp
  cases h2 : vecOk c d
  · simp
  by_cases h3 : vlen a b < 1000000000
  · have r1 := vlen_root h3
    have q3 : (-1000000000 ≤ a ∧ a ≤ 1000000000) ∧ -1000000000 ≤ b ∧ b ≤ 1000000000 := by simpa [vecOk, inB] using h1
    have g := vsq_bd a b
    unfold vsq at g
    rw [cl_in (a := a) (by omega) (by omega), cl_in (a := b) (by omega) (by omega)] at r1 g
    have m1 := sq_nonneg a
    have m2 := sq_nonneg b
    have m3 := sq_le_of (a := vlen a b + 1) (m := 1000000001) (by omega) (by omega)
    have m4 := sq_nonneg (vlen a b)
    have m5 := sq_nonneg (vlen a b + 1)
    obtain ⟨_, s1, s2⟩ := r1
    rw [wrap_id (n := vlen a b * vlen a b) (by omega) (by omega), wrap_id (n := a * a) (by omega) (by omega), wrap_id (n := b * b) (by omega) (by omega), wrap_id (n := a * a + b * b) (by omega) (by omega), wrap_id (n := vlen a b + 1) (by omega) (by omega), wrap_id (n := (vlen a b + 1) * (vlen a b + 1)) (by omega) (by omega)]
    simp [h3, show ¬ vlen a b * vlen a b > a * a + b * b by omega, show ¬ (vlen a b + 1) * (vlen a b + 1) ≤ a * a + b * b by omega]
  · simp [h3]

end Go.Proofs.Ytenhiaakchlflaa.Pure
