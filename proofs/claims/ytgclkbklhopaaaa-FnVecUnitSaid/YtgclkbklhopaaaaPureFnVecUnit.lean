/- FnVecUnit: what the program computes is what the reference computes, or has the law's properties, at all whole numbers and lists that the statement lets in; no further condition. -/
import Derived.Test.YtgclkbklhopaaaaPFnVecUnitx4
import Derived.Test.YtgclkbklhopaaaaMath
namespace Go.Proofs.Ytgclkbklhopaaaa.Pure
open Go.RowKit Go.Proofs.Ytgclkbklhopaaaa.PFnVecUnit Go.Proofs.YtgclkbklhopaaaaW.PrintWords Go.Proofs.YtgclkbklhopaaaaW.PrintLast Go.Proofs.YtgclkbklhopaaaaW.PrintMore Go.Proofs.Ytgclkbklhopaaaa.Math
set_option linter.unusedVariables false
set_option linter.unusedSimpArgs false

/-- A code of bytes, of at most 2000. -/
def Code (s : List Int) : Prop := (∀ x ∈ s, 0 ≤ x ∧ x ≤ 255) ∧ s.length ≤ 2000
theorem u8_of {x : Int} (h : (Lit.int .u8 x).wf = true) : 0 ≤ x ∧ x ≤ 255 := by
  simp [Lit.wf, IntKind.min, IntKind.max, IntKind.signed, IntKind.bits] at h
  omega
theorem code_rd {s : List Int} (h : Code s) (i : Int) : 0 ≤ rd s i ∧ rd s i ≤ 255 := by
  unfold rd
  rw [List.getD_eq_getElem?_getD]
  rcases Nat.lt_or_ge i.toNat s.length with hl | hl
  · rw [List.getElem?_eq_getElem hl]
    exact h.1 _ (List.getElem_mem hl)
  · rw [List.getElem?_eq_none hl]
    exact ⟨by simp, by simp⟩
theorem xor_ge {a b : Int} (ha : 0 ≤ a) (ha' : a < 9223372036854775808) (hb : 0 ≤ b) (hb' : b < 9223372036854775808) : 0 ≤ Go.bits .xor .i64 a b := by
  obtain ⟨x, rfl⟩ := Int.eq_ofNat_of_zero_le ha
  obtain ⟨y, rfl⟩ := Int.eq_ofNat_of_zero_le hb
  have hx : x ^^^ y < 2 ^ 63 := Nat.xor_lt_two_pow (by omega) (by omega)
  have h1 : (BitVec.ofInt 64 (x : Int)).toNat = x := by rw [BitVec.toNat_ofInt]; omega
  have h2 : (BitVec.ofInt 64 (y : Int)).toNat = y := by rw [BitVec.toNat_ofInt]; omega
  have e : (BitVec.ofInt 64 (x : Int) ^^^ BitVec.ofInt 64 (y : Int)).toNat = x ^^^ y := by rw [BitVec.toNat_xor, h1, h2]
  have hb : Go.bits .xor .i64 (x : Int) (y : Int) = IntKind.wrap .i64 ((x ^^^ y : Nat) : Int) := by rw [← e]; rfl
  rw [hb]
  generalize x ^^^ y = z at hx
  have hz : ((z : Nat) : Int) % 18446744073709551616 = z := Int.emod_eq_of_lt (by omega) (by omega)
  show 0 ≤ (if (true && decide ((z : Int) % 18446744073709551616 ≥ 9223372036854775808)) = true then (z : Int) % 18446744073709551616 - 18446744073709551616 else (z : Int) % 18446744073709551616)
  rw [hz]
  split
  · rename_i hh
    simp at hh
    omega
  · omega
theorem tmod_in {a n : Int} (ha : 0 ≤ a) (hn : 0 < n) : 0 ≤ Int.tmod a n ∧ Int.tmod a n < n := ⟨Int.tmod_nonneg _ ha, Int.tmod_lt_of_pos _ hn⟩

theorem spec_l1Open_eq {l : List Int} (h : ∀ x ∈ l, (Lit.int .u8 x).wf = true) : ∃ s, spec_l1Open.f l = some (s, 0) ∧ Code s := by
  unfold spec_l1Open.f
  by_cases hl : (l.length : Int) > 2000
  · rw [if_pos hl, if_pos (by omega)]
    exact ⟨_, rfl, fun x hx => u8_of (h x (List.mem_of_mem_take hx)), by rw [List.length_take]; omega⟩
  · rw [if_neg hl]
    exact ⟨_, rfl, fun x hx => u8_of (h x hx), by omega⟩

theorem pick_eq {s : List Int} (hs : Code s) {k : Nat} {p n : Int} (hk : 0 < k) (h0 : 0 ≤ p) (h1 : p ≤ 1000000) :
    ∃ v, spec_l1Rd_pick.f k s p n = some (v, p + 1) ∧ 0 ≤ v ∧ (0 < n → v < n) ∧ (n ≤ 0 → v = 0) := by
  obtain ⟨k, rfl⟩ : ∃ m, k = m + 1 := ⟨k - 1, by omega⟩
  have e0 : wrap64 (p + 1) = p + 1 := wrap_id (by omega) (by omega)
  unfold spec_l1Rd_pick.f
  simp only [spec_l1Rd_pick.j0, e0]
  by_cases hn : n < 1
  · rw [if_pos hn]
    exact ⟨0, by simp, by omega, by omega, by omega⟩
  rw [if_neg hn]
  by_cases hz : (s.length : Int) = 0
  · exact ⟨0, by simp [hz], by omega, by omega, by omega⟩
  have hl : 0 < (s.length : Int) := by omega
  have hl2 := hs.2
  have e1 : wrap64 (p + 1 - 1) = p := by rw [wrap_id (by omega) (by omega)]; omega
  rw [if_neg (by simp only [beq_iff_eq]; exact hz), e1]
  by_cases hp : p < (s.length : Int)
  · have hr := code_rd hs p
    rw [if_pos hp, if_pos h0, if_neg (by omega), wrap_id (n := rd s p) (by omega) (by omega)]
    obtain ⟨g1, g2⟩ := tmod_in hr.1 (show 0 < n by omega)
    exact ⟨_, rfl, g1, fun _ => g2, by omega⟩
  · have e2 : wrap64 (wrap64 (p * 7) + 3) = p * 7 + 3 := by rw [wrap_id (n := p * 7) (by omega) (by omega), wrap_id (by omega) (by omega)]
    obtain ⟨a1, a2⟩ := tmod_in (a := p) h0 hl
    obtain ⟨b1, b2⟩ := tmod_in (a := p * 7 + 3) (by omega) hl
    rw [if_neg hp, if_neg hz, e2, if_pos a1, if_pos a2, if_pos b1, if_pos b2, if_neg (by omega)]
    have c1 := code_rd hs (Int.tmod p s.length)
    have c2 := code_rd hs (Int.tmod (p * 7 + 3) s.length)
    generalize rd s (Int.tmod p s.length) = x at c1 ⊢
    generalize rd s (Int.tmod (p * 7 + 3) s.length) = y at c2 ⊢
    obtain ⟨d1, d2, _⟩ := td_pos hl h0
    have d3 := td_bd (a := p) (m := p) (by omega) (by omega) s.length hl
    generalize Int.tdiv p s.length = z at d1 d2 d3 ⊢
    have ex : wrap64 (wrap64 (wrap64 (wrap64 (wrap64 x * 131) + wrap64 (wrap64 y * 1117)) + wrap64 (p * 29)) + wrap64 (wrap64 z * 53)) = x * 131 + y * 1117 + p * 29 + z * 53 := by
      rw [wrap_id (n := x) (by omega) (by omega), wrap_id (n := y) (by omega) (by omega), wrap_id (n := z) (by omega) (by omega), wrap_id (n := x * 131) (by omega) (by omega), wrap_id (n := y * 1117) (by omega) (by omega),
        wrap_id (n := p * 29) (by omega) (by omega), wrap_id (n := z * 53) (by omega) (by omega), wrap_id (n := x * 131 + y * 1117) (by omega) (by omega), wrap_id (n := x * 131 + y * 1117 + p * 29) (by omega) (by omega), wrap_id (by omega) (by omega)]
    rw [ex]
    have hX : 0 ≤ x * 131 + y * 1117 + p * 29 + z * 53 ∧ x * 131 + y * 1117 + p * 29 + z * 53 ≤ 100000000 := by omega
    generalize x * 131 + y * 1117 + p * 29 + z * 53 = X at hX ⊢
    obtain ⟨f1, f2, _⟩ := td_pos (a := X) (d := 64) (by omega) hX.1
    have hx := xor_ge (a := X) (b := wrap64 (Int.tdiv X 64)) hX.1 (by omega) (by rw [wrap_id (by omega) (by omega)]; omega) (by rw [wrap_id (by omega) (by omega)]; omega)
    obtain ⟨g1, g2⟩ := tmod_in hx (show 0 < n by omega)
    exact ⟨_, rfl, g1, fun _ => g2, by omega⟩

theorem one_eq {s : List Int} (hs : Code s) {k : Nat} {p : Int} {xs : List Int} {P : Int → Prop} (hP : ∀ x ∈ xs, P x) (hk : 0 < k) (h0 : 0 ≤ p) (h1 : p ≤ 1000000) (hx : 0 < xs.length) :
    ∃ v, spec_l1Rd_one.f k s p xs = some (v, p + 1) ∧ P v := by
  obtain ⟨v, e, g0, g1, _⟩ := pick_eq hs (n := (xs.length : Int)) hk h0 h1
  have g1 := g1 (by omega)
  unfold spec_l1Rd_one.f
  rw [e]
  simp only [Option.bind_some]
  rw [if_pos g0, if_pos g1]
  refine ⟨_, rfl, hP _ ?_⟩
  unfold rd
  rw [List.getD_eq_getElem?_getD, List.getElem?_eq_getElem (show v.toNat < xs.length by omega)]
  exact List.getElem_mem _

theorem big_eq {s : List Int} (hs : Code s) {k : Nat} {p n : Int} (hk : 0 < k) (h0 : 0 ≤ p) (h1 : p ≤ 900000) (hn : 0 < n) :
    ∃ v, spec_l1Rd_big.f k s p n = some (v, p + 3) ∧ 0 ≤ v ∧ v < n := by
  obtain ⟨a, ea, a0, a1, _⟩ := pick_eq hs (n := 256) hk h0 (by omega)
  obtain ⟨b, eb, b0, b1, _⟩ := pick_eq hs (p := p + 1) (n := 256) hk (by omega) (by omega)
  obtain ⟨c, ec, c0, c1, _⟩ := pick_eq hs (p := p + 1 + 1) (n := 256) hk (by omega) (by omega)
  have a1 := a1 (by omega)
  have b1 := b1 (by omega)
  have c1 := c1 (by omega)
  unfold spec_l1Rd_big.f
  rw [ea]; simp only [Option.bind_some]
  rw [eb]; simp only [Option.bind_some]
  rw [ec]; simp only [Option.bind_some]
  rw [if_neg (by omega), wrap_id (n := a * 65536) (by omega) (by omega), wrap_id (n := b * 256) (by omega) (by omega), wrap_id (n := a * 65536 + b * 256) (by omega) (by omega), wrap_id (by omega) (by omega)]
  obtain ⟨g1, g2⟩ := tmod_in (a := a * 65536 + b * 256 + c) (by omega) hn
  exact ⟨_, by rw [show p + 1 + 1 + 1 = p + 3 by omega], g1, g2⟩

theorem num_eq {s : List Int} (hs : Code s) {k : Nat} {p : Int} (hk : 0 < k) (h0 : 0 ≤ p) (h1 : p ≤ 800000) :
    ∃ v, spec_l11Num.f k s p = some (v, p + 9) ∧ -1099511627776 ≤ v ∧ v ≤ 1099511627776 := by
  obtain ⟨a, ea, a0, a1, _⟩ := pick_eq hs (p := p) (n := 256) hk h0 (by omega)
  have a1 := a1 (by omega)
  obtain ⟨b, eb, b0, b1⟩ := big_eq hs (p := p + 1) (n := 100000) hk (by omega) (by omega) (by omega)
  obtain ⟨c, ec, c0, c1⟩ := big_eq hs (p := p + 1 + 3) (n := 16777216) hk (by omega) (by omega) (by omega)
  obtain ⟨d, ed, d0, d1⟩ := one_eq hs (p := p + 1 + 3 + 3) (xs := [a, b, c, 1000000000, 0, 256, 1000000001, 1099511627776]) (P := fun v => 0 ≤ v ∧ v ≤ 1099511627776) (by simp; omega) hk (by omega) (by omega) (by simp)
  obtain ⟨f, ef, f0, f1, _⟩ := pick_eq hs (p := p + 1 + 3 + 3 + 1) (n := 3) hk (by omega) (by omega)
  unfold spec_l11Num.f
  rw [ea]; simp only [Option.bind_some]
  rw [eb]; simp only [Option.bind_some]
  rw [ec]; simp only [Option.bind_some]
  rw [ed]; simp only [Option.bind_some]
  rw [ef]; simp only [Option.bind_some]
  have e9 : p + 1 + 3 + 3 + 1 + 1 = p + 9 := by omega
  rw [e9]
  by_cases hf : f = 0
  · rw [if_pos hf, wrap_id (by omega) (by omega)]
    exact ⟨_, rfl, by omega, by omega⟩
  · rw [if_neg hf]
    exact ⟨_, rfl, by omega, by omega⟩

theorem vec_eq {s : List Int} (hs : Code s) {k : Nat} {p : Int} (hk : 0 < k) (h0 : 0 ≤ p) (h1 : p ≤ 700000) :
    ∃ x y q, spec_l11Vec.f k s p = some (x, y, q) ∧ p ≤ q ∧ q ≤ p + 100 ∧ (-1099511627776 ≤ x ∧ x ≤ 1099511627776) ∧ (-1099511627776 ≤ y ∧ y ≤ 1099511627776) := by
  obtain ⟨a, ea, a0, a1, _⟩ := pick_eq hs (p := p) (n := 3) hk h0 (by omega)
  unfold spec_l11Vec.f
  rw [ea]; simp only [Option.bind_some]
  by_cases ha : a = 0
  · obtain ⟨x, ex, hx⟩ := num_eq hs (p := p + 1) hk (by omega) (by omega)
    obtain ⟨y, ey, hy⟩ := num_eq hs (p := p + 1 + 9) hk (by omega) (by omega)
    rw [if_pos ha, ex]; simp only [Option.bind_some]
    rw [ey]; simp only [Option.bind_some]
    exact ⟨_, _, _, rfl, by omega, by omega, hx, hy⟩
  · obtain ⟨x, ex, x0, x1, _⟩ := pick_eq hs (p := p + 1) (n := 256) hk (by omega) (by omega)
    obtain ⟨f, ef, hf⟩ := one_eq hs (p := p + 1 + 1) (xs := [1, 10, 100]) (P := fun v => v = 1 ∨ v = 10 ∨ v = 100) (by simp) hk (by omega) (by omega) (by simp)
    obtain ⟨y, ey, y0, y1, _⟩ := pick_eq hs (p := p + 1 + 1 + 1) (n := 256) hk (by omega) (by omega)
    obtain ⟨g, eg, hg⟩ := one_eq hs (p := p + 1 + 1 + 1 + 1) (xs := [1, 10, 100]) (P := fun v => v = 1 ∨ v = 10 ∨ v = 100) (by simp) hk (by omega) (by omega) (by simp)
    have x1 := x1 (by omega)
    have y1 := y1 (by omega)
    rw [if_neg ha, ex]; simp only [Option.bind_some]
    rw [ef]; simp only [Option.bind_some]
    rw [ey]; simp only [Option.bind_some]
    rw [eg]; simp only [Option.bind_some]
    have hxf : 0 ≤ x * f ∧ x * f ≤ 25500 := by rcases hf with rfl | rfl | rfl <;> omega
    have hyg : 0 ≤ y * g ∧ y * g ≤ 25500 := by rcases hg with rfl | rfl | rfl <;> omega
    rw [wrap_id (n := x * f) (by omega) (by omega), wrap_id (n := y * g) (by omega) (by omega), wrap_id (by omega) (by omega), wrap_id (by omega) (by omega)]
    exact ⟨_, _, _, rfl, by omega, by omega, by omega, by omega⟩

/-- It draws something, and goes on by at most c. -/
def Dr {α : Type} (o : Option α) (g : α → Int) (p c : Int) : Prop := ∃ r, o = some r ∧ p ≤ g r ∧ g r ≤ p + c
theorem dr_bind {α β : Type} {o : Option α} {f : α → Option β} {g : α → Int} {g' : β → Int} {p c P C : Int} (h : Dr o g p c) (k : ∀ r, p ≤ g r → g r ≤ p + c → Dr (f r) g' P C) : Dr (o.bind f) g' P C := by
  obtain ⟨r, e, h1, h2⟩ := h
  rw [e]
  exact k r h1 h2
theorem dr_ite {α : Type} {q : Prop} [Decidable q] {a b : Option α} {g : α → Int} {p c : Int} (h : Dr a g p c) (k : Dr b g p c) : Dr (if q then a else b) g p c := by
  split
  · exact h
  · exact k
theorem pick_dr {s : List Int} (hs : Code s) {k : Nat} {p n : Int} (hk : 0 < k) (h0 : 0 ≤ p) (h1 : p ≤ 1000000) : Dr (spec_l1Rd_pick.f k s p n) (fun r => r.2) p 1 := by
  obtain ⟨v, e, _⟩ := pick_eq hs (n := n) hk h0 h1
  exact ⟨_, e, by dsimp only; omega, by dsimp only; omega⟩
theorem one_dr {s : List Int} (hs : Code s) {k : Nat} {p : Int} {xs : List Int} (hk : 0 < k) (h0 : 0 ≤ p) (h1 : p ≤ 1000000) (hx : 0 < xs.length) : Dr (spec_l1Rd_one.f k s p xs) (fun r => r.2) p 1 := by
  obtain ⟨v, e, _⟩ := one_eq hs (xs := xs) (P := fun _ => True) (by simp) hk h0 h1 hx
  exact ⟨_, e, by dsimp only; omega, by dsimp only; omega⟩

theorem vec_dr {s : List Int} (hs : Code s) {k : Nat} {p : Int} (hk : 0 < k) (h0 : 0 ≤ p) (h1 : p ≤ 700000) : Dr (spec_l11Vec.f k s p) (fun r => r.2.2) p 100 := by
  obtain ⟨x, y, q, e, h1, h2, _⟩ := vec_eq hs hk h0 h1
  exact ⟨_, e, h1, h2⟩

theorem spec_DrawVecUnit_some {l : List Int} (h : ∀ x ∈ l, (Lit.int .u8 x).wf = true) {k : Nat} (hk : 0 < k) : ∃ a b, spec_DrawVecUnit.f k l = some (a, b) ∧ (-1099511627776 ≤ a ∧ a ≤ 1099511627776) ∧ (-1099511627776 ≤ b ∧ b ≤ 1099511627776) := by
  obtain ⟨s, es, hs⟩ := spec_l1Open_eq h
  obtain ⟨v, e, v0, v1, _⟩ := pick_eq hs (p := 0) (n := 8) hk (by omega) (by omega)
  unfold spec_DrawVecUnit.f
  rw [es]; simp only [Option.bind_some]
  rw [e]; simp only [Option.bind_some]
  by_cases hv : v = 0
  · obtain ⟨x, ex, x0, x1, _⟩ := pick_eq hs (p := 0 + 1) (n := 3) hk (by omega) (by omega)
    obtain ⟨y, ey, y0, y1, _⟩ := pick_eq hs (p := 0 + 1 + 1) (n := 3) hk (by omega) (by omega)
    have x1 := x1 (by omega)
    have y1 := y1 (by omega)
    rw [if_pos hv, ex]; simp only [Option.bind_some]
    rw [ey]; simp only [Option.bind_some]
    rw [wrap_id (by omega) (by omega), wrap_id (by omega) (by omega)]
    exact ⟨_, _, rfl, by omega, by omega⟩
  · obtain ⟨x, y, q, ex, _, _, hx, hy⟩ := vec_eq hs (p := 0 + 1) hk (by omega) (by omega)
    rw [if_neg hv, ex]; simp only [Option.bind_some]
    exact ⟨_, _, rfl, hx, hy⟩

theorem spec_FixClamp_eq (a : Int) : spec_FixClamp.f a = some (cl a) := by
  unfold spec_FixClamp.f cl
  split
  · rfl
  · split <;> rfl

theorem spec_l2Clamp_eq (a b : Int) : spec_l2Clamp.f a b = some (cl a, cl b) := by
  unfold spec_l2Clamp.f
  simp only [spec_FixClamp_eq, Option.bind_some]

theorem spec_l2Square_cl (a b : Int) : spec_l2Square.f (cl a) (cl b) = some (vsq a b) := by
  have ha := cl_bd a
  have hb := cl_bd b
  have := vsq_bd a b
  unfold spec_l2Square.f vsq at *
  rw [wrap_mul ha.1 ha.2 ha.1 ha.2, wrap_mul hb.1 hb.2 hb.1 hb.2, wrap_id (by omega) (by omega)]

theorem spec_l1Root_loop {n : Int} (hn : 0 ≤ n) : ∀ (d k : Nat) (a b : Int), d < k → 0 ≤ a → a < b → b ≤ 3000000000 → b - a ≤ 2 ^ d → a * a ≤ n → n < b * b →
    ∃ r, spec_l1Root.l1 k n a b = some r ∧ IsRoot n r := by
  intro d
  induction d with
  | zero =>
    intro k a b hk ha hab hb hd h1 h2
    obtain ⟨k, rfl⟩ : ∃ m, k = m + 1 := ⟨k - 1, by omega⟩
    obtain rfl : b = a + 1 := by simp at hd; omega
    exact ⟨a, by simp only [spec_l1Root.l1]; rw [wrap_id (by omega) (by omega), if_neg (by omega)], ha, h1, h2⟩
  | succ d ih =>
    intro k a b hk ha hab hb hd h1 h2
    obtain ⟨k, rfl⟩ : ∃ m, k = m + 1 := ⟨k - 1, by omega⟩
    by_cases hc : b - a > 1
    · have e : wrap64 (Int.tdiv (wrap64 (a + b)) 2) = (a + b) / 2 := by
        rw [wrap_id (n := a + b) (by omega) (by omega), Int.tdiv_eq_ediv_of_nonneg (by omega), wrap_id (by omega) (by omega)]
      have hp : (2 : Int) ^ (d + 1) = 2 * 2 ^ d := by rw [Int.pow_succ, Int.mul_comm]
      rw [hp] at hd
      obtain ⟨m, hm⟩ : ∃ m, m = (a + b) / 2 := ⟨_, rfl⟩
      rw [← hm] at e
      have hq : m * m ≤ 3000000000 * 3000000000 := mul_le_sq (by omega) (by omega)
      have hq0 := sq_nonneg m
      by_cases hle : m * m ≤ n
      · obtain ⟨r, hr, h⟩ := ih k m b (by omega) (by omega) (by omega) hb (by omega) hle h2
        refine ⟨r, ?_, h⟩
        simp only [spec_l1Root.l1]
        rw [wrap_id (n := b - a) (by omega) (by omega), if_pos hc, e, wrap_id (n := m * m) (by omega) (by omega), if_pos hle]
        exact hr
      · obtain ⟨r, hr, h⟩ := ih k a m (by omega) ha (by omega) (by omega) (by omega) h1 (by omega)
        refine ⟨r, ?_, h⟩
        simp only [spec_l1Root.l1]
        rw [wrap_id (n := b - a) (by omega) (by omega), if_pos hc, e, wrap_id (n := m * m) (by omega) (by omega), if_neg hle]
        exact hr
    · obtain rfl : b = a + 1 := by omega
      exact ⟨a, by simp only [spec_l1Root.l1]; rw [wrap_id (by omega) (by omega), if_neg (by omega)], ha, h1, h2⟩
theorem spec_l1Root_up {n : Int} (hn : 0 ≤ n) (hn' : n ≤ 2000000000000000000) : ∀ (d k : Nat) (h : Int), d + 34 < k → 1 ≤ h → h ≤ 2828427124 → 2147483648 ≤ h * 2 ^ d →
    ∃ r, spec_l1Root.l0 k n 0 h = some r ∧ IsRoot n r := by
  intro d
  have out : ∀ (k : Nat) (h : Int), 34 < k → 1 ≤ h → h ≤ 2828427124 → n < h * h → ∃ r, spec_l1Root.l0 k n 0 h = some r ∧ IsRoot n r := by
    intro k h hk h1 h2 h3
    obtain ⟨k, rfl⟩ : ∃ m, k = m + 1 := ⟨k - 1, by omega⟩
    obtain ⟨r, hr, hi⟩ := spec_l1Root_loop hn 32 k 0 h (by omega) (by omega) (by omega) (by omega) (by omega) (by omega) h3
    refine ⟨r, ?_, hi⟩
    have := mul_le_sq (a := h) (b := 2828427124) (by omega) h2
    have := sq_nonneg h
    simp only [spec_l1Root.l0]
    rw [wrap_id (by omega) (by omega), if_neg (by omega)]
    exact hr
  induction d with
  | zero =>
    intro k h hk h1 h2 h3
    have : 2147483648 * 2147483648 ≤ h * h := mul_le_sq (by omega) (by omega)
    exact out k h (by omega) h1 h2 (by omega)
  | succ d ih =>
    intro k h hk h1 h2 h3
    rcases Int.lt_or_le n (h * h) with hlt | hle
    · exact out k h (by omega) h1 h2 hlt
    · have hb : h ≤ 1414213562 := by
        rcases Int.lt_or_le 1414213562 h with hb | hb
        · have : 1414213563 * 1414213563 ≤ h * h := mul_le_sq (by omega) (by omega)
          omega
        · exact hb
      obtain ⟨k, rfl⟩ : ∃ m, k = m + 1 := ⟨k - 1, by omega⟩
      have hp : (2 : Int) ^ (d + 1) = 2 * 2 ^ d := by rw [Int.pow_succ, Int.mul_comm]
      rw [hp] at h3
      obtain ⟨r, hr, hi⟩ := ih k (2 * h) (by omega) (by omega) (by omega) (by rw [Int.mul_assoc, Int.mul_left_comm]; exact h3)
      refine ⟨r, ?_, hi⟩
      have := mul_le_sq (a := h) (b := 2828427124) (by omega) h2
      have := sq_nonneg h
      simp only [spec_l1Root.l0]
      rw [wrap_id (n := h * h) (by omega) (by omega), if_pos hle, wrap_id (by omega) (by omega)]
      exact hr
theorem spec_l1Root_eq {k : Nat} (hk : 65 < k) {n : Int} (hn : 0 ≤ n) (hn' : n ≤ 2000000000000000000) : spec_l1Root.f k n = some (rt n) := by
  obtain ⟨r, hr, h⟩ := spec_l1Root_up hn hn' 31 k 1 (by omega) (by omega) (by omega) (by decide)
  unfold spec_l1Root.f
  rw [hr, rt_eq h]

theorem spec_VecLen_eq {k : Nat} (hk : 65 < k) (a b : Int) : spec_VecLen.f k a b = some (vlen a b) := by
  have := vsq_bd a b
  unfold spec_VecLen.f vlen
  simp only [spec_l2Clamp_eq, spec_l2Square_cl, Option.bind_some]
  rw [spec_l1Root_eq hk (by omega) (by omega)]
  simp only [spec_FixClamp_eq, Option.bind_some]

theorem vlen_cl (a b : Int) : vlen (cl a) (cl b) = vlen a b := by unfold vlen vsq; rw [cl_cl, cl_cl]
theorem vlen_neg (a b : Int) : vlen (-a) (-b) = vlen a b := by unfold vlen vsq; rw [cl_neg, cl_neg, Int.neg_mul_neg, Int.neg_mul_neg]
/-- A way of the length 1. -/
def vunit (a b : Int) : Int × Int := if vlen a b = 0 then (0, 256) else (Int.tdiv (cl a * 256) (vlen a b), Int.tdiv (cl b * 256) (vlen a b))
theorem vunit_wrap (a b : Int) (h : vlen a b ≠ 0) : wrap64 (Int.tdiv (wrap64 (cl a * 256)) (vlen a b)) = Int.tdiv (cl a * 256) (vlen a b) := by
  have := cl_bd a
  have := vlen_bd a b
  have := td_bd (a := cl a * 256) (m := 256000000000) (by omega) (by omega) (vlen a b) (by omega)
  rw [wrap_id (n := cl a * 256) (by omega) (by omega), wrap_id (by omega) (by omega)]
theorem vunit_wrap' (a b : Int) (h : vlen a b ≠ 0) : wrap64 (Int.tdiv (wrap64 (cl b * 256)) (vlen a b)) = Int.tdiv (cl b * 256) (vlen a b) := by
  have := cl_bd b
  have := vlen_bd a b
  have := td_bd (a := cl b * 256) (m := 256000000000) (by omega) (by omega) (vlen a b) (by omega)
  rw [wrap_id (n := cl b * 256) (by omega) (by omega), wrap_id (by omega) (by omega)]

theorem spec_VecUnit_eq {k : Nat} (hk : 65 < k) (a b : Int) : spec_VecUnit.f k a b = some (vunit a b) := by
  unfold spec_VecUnit.f vunit
  simp only [spec_l2Clamp_eq, Option.bind_some, spec_VecLen_eq hk, vlen_cl]
  split
  · rfl
  · rename_i h
    rw [vunit_wrap a b h, vunit_wrap' a b h]

theorem impl_within_eq {a m : Int} (h0 : 0 ≤ m) (h1 : m ≤ 1000000000000) : impl_within.f a m = some (wi a m) := by
  unfold impl_within.f wi
  rw [wrap_id (by omega) (by omega), mx_eq, mn_eq]

theorem impl_Vec_clamped_eq {a b m : Int} (h0 : 0 ≤ m) (h1 : m ≤ 1000000000000) : impl_Vec_clamped.f a b m = some (wi a m, wi b m) := by
  unfold impl_Vec_clamped.f
  simp only [impl_within_eq h0 h1, Option.bind_some]
theorem impl_Vec_clamped_cl (a b : Int) : impl_Vec_clamped.f a b 1000000000 = some (cl a, cl b) := by
  rw [impl_Vec_clamped_eq (by omega) (by omega), wi_cl, wi_cl]

theorem impl_Vec_square_cl (a b : Int) : impl_Vec_square.f (cl a) (cl b) = some (vsq a b) := by
  have ha := cl_bd a
  have hb := cl_bd b
  have := vsq_bd a b
  unfold impl_Vec_square.f vsq at *
  rw [wrap_mul ha.1 ha.2 ha.1 ha.2, wrap_mul hb.1 hb.2 hb.1 hb.2, wrap_id (by omega) (by omega)]

theorem impl_root_loop {n : Int} (hn : 0 ≤ n) : ∀ (d k : Nat) (a b : Int), d < k → 0 ≤ a → a < b → b ≤ 3000000000 → b - a ≤ 2 ^ d → a * a ≤ n → n < b * b →
    ∃ r, impl_root.l0 k n a b = some r ∧ IsRoot n r := by
  intro d
  induction d with
  | zero =>
    intro k a b hk ha hab hb hd h1 h2
    obtain ⟨k, rfl⟩ : ∃ m, k = m + 1 := ⟨k - 1, by omega⟩
    obtain rfl : b = a + 1 := by simp at hd; omega
    exact ⟨a, by simp only [impl_root.l0]; rw [wrap_id (by omega) (by omega), if_neg (by omega)], ha, h1, h2⟩
  | succ d ih =>
    intro k a b hk ha hab hb hd h1 h2
    obtain ⟨k, rfl⟩ : ∃ m, k = m + 1 := ⟨k - 1, by omega⟩
    by_cases hc : b - a > 1
    · have e : wrap64 (Int.tdiv (wrap64 (a + b)) 2) = (a + b) / 2 := by
        rw [wrap_id (n := a + b) (by omega) (by omega), Int.tdiv_eq_ediv_of_nonneg (by omega), wrap_id (by omega) (by omega)]
      have hp : (2 : Int) ^ (d + 1) = 2 * 2 ^ d := by rw [Int.pow_succ, Int.mul_comm]
      rw [hp] at hd
      obtain ⟨m, hm⟩ : ∃ m, m = (a + b) / 2 := ⟨_, rfl⟩
      rw [← hm] at e
      have hq : m * m ≤ 3000000000 * 3000000000 := mul_le_sq (by omega) (by omega)
      have hq0 := sq_nonneg m
      by_cases hle : m * m ≤ n
      · obtain ⟨r, hr, h⟩ := ih k m b (by omega) (by omega) (by omega) hb (by omega) hle h2
        refine ⟨r, ?_, h⟩
        simp only [impl_root.l0]
        rw [wrap_id (n := b - a) (by omega) (by omega), if_pos hc, e, wrap_id (n := m * m) (by omega) (by omega), if_pos hle]
        exact hr
      · obtain ⟨r, hr, h⟩ := ih k a m (by omega) ha (by omega) (by omega) (by omega) h1 (by omega)
        refine ⟨r, ?_, h⟩
        simp only [impl_root.l0]
        rw [wrap_id (n := b - a) (by omega) (by omega), if_pos hc, e, wrap_id (n := m * m) (by omega) (by omega), if_neg hle]
        exact hr
    · obtain rfl : b = a + 1 := by omega
      exact ⟨a, by simp only [impl_root.l0]; rw [wrap_id (by omega) (by omega), if_neg (by omega)], ha, h1, h2⟩
theorem impl_root_eq {k : Nat} (hk : 32 < k) {n : Int} (hn : 0 ≤ n) (hn' : n ≤ 2000000000000000000) : impl_root.f k n = some (rt n) := by
  obtain ⟨r, hr, h⟩ := impl_root_loop hn 32 k 0 2147483648 hk (by omega) (by omega) (by omega) (by decide) (by omega) (by omega)
  unfold impl_root.f
  rw [hr, rt_eq h]

theorem impl_FixClamp_eq (a : Int) : impl_FixClamp.f a = some (cl a) := by
  unfold impl_FixClamp.f
  rw [impl_within_eq (by omega) (by omega), wi_cl]; rfl

theorem impl_VecLen_eq {k : Nat} (hk : 65 < k) (a b : Int) : impl_VecLen.f k a b = some (vlen a b) := by
  have := vsq_bd a b
  unfold impl_VecLen.f vlen
  simp only [impl_Vec_clamped_cl, impl_Vec_square_cl, Option.bind_some]
  rw [impl_root_eq (by omega) (by omega) (by omega)]
  simp only [impl_FixClamp_eq, Option.bind_some]

theorem impl_VecUnit_eq {k : Nat} (hk : 65 < k) (a b : Int) : impl_VecUnit.f k a b = some (vunit a b) := by
  unfold impl_VecUnit.f vunit
  simp only [impl_Vec_clamped_cl, Option.bind_some, impl_VecLen_eq hk, vlen_cl]
  split
  · rfl
  · rename_i h
    rw [vunit_wrap a b h, vunit_wrap' a b h]

theorem spec_l1In_eq (a l h : Int) : spec_l1In.f a l h = some (inB a l h) := by
  unfold spec_l1In.f inB
  split <;> simp <;> omega

theorem spec_VecOk_eq (a b : Int) : spec_VecOk.f a b = some (vecOk a b) := by
  unfold spec_VecOk.f vecOk
  simp only [spec_l1In_eq, Option.bind_some]
  cases inB a (-1000000000) 1000000000 <;> simp

theorem vlen_root {a b : Int} (h : vlen a b < 1000000000) : IsRoot (cl a * cl a + cl b * cl b) (vlen a b) := by
  have hr := rt_is (vsq_bd a b).1
  have hb := rt_vsq_bd a b
  have : vlen a b = rt (vsq a b) := by
    unfold vlen at h ⊢
    unfold cl at h ⊢
    split at h
    · omega
    · rename_i h1
      rw [if_neg h1, if_neg (by omega)]
  rw [this]
  exact hr

/-- How two round shapes touch. -/
def rnds (a b c d w : Int) : Int × Int × Int × Bool :=
  if wrap64 (wrap64 (wrap64 (c - a) * wrap64 (c - a)) + wrap64 (wrap64 (d - b) * wrap64 (d - b))) > wrap64 (w * w) then (0, 0, 0, false)
  else ((vunit (wrap64 (c - a)) (wrap64 (d - b))).1, (vunit (wrap64 (c - a)) (wrap64 (d - b))).2, wrap64 (w - vlen (wrap64 (c - a)) (wrap64 (d - b))), true)

theorem rnds_small {a b c d w : Int} (ha : -3000000 ≤ a ∧ a ≤ 3000000) (hb : -3000000 ≤ b ∧ b ≤ 3000000) (hc : -3000000 ≤ c ∧ c ≤ 3000000) (hd : -3000000 ≤ d ∧ d ≤ 3000000) (hw : 0 ≤ w ∧ w ≤ 100000) :
    ((c - a) * (c - a) + (d - b) * (d - b) > w * w ∧ rnds a b c d w = (0, 0, 0, false)) ∨
    ((c - a) * (c - a) + (d - b) * (d - b) ≤ w * w ∧ ∃ L, IsRoot ((c - a) * (c - a) + (d - b) * (d - b)) L ∧ L ≤ w ∧ rnds a b c d w = (if L = 0 then 0 else Int.tdiv ((c - a) * 256) L, if L = 0 then 256 else Int.tdiv ((d - b) * 256) L, w - L, true)) := by
  have e1 : wrap64 (c - a) = c - a := wrap_id (by omega) (by omega)
  have e2 : wrap64 (d - b) = d - b := wrap_id (by omega) (by omega)
  have c1 : cl (c - a) = c - a := cl_in (by omega) (by omega)
  have c2 : cl (d - b) = d - b := cl_in (by omega) (by omega)
  unfold rnds
  rw [e1, e2]
  obtain ⟨x, hx⟩ : ∃ x, x = c - a := ⟨_, rfl⟩
  obtain ⟨y, hy⟩ : ∃ y, y = d - b := ⟨_, rfl⟩
  rw [← hx] at c1
  rw [← hy] at c2
  rw [← hx, ← hy]
  have s1 := sq_le_of (a := x) (m := 6000000) (by omega) (by omega)
  have s2 := sq_le_of (a := y) (m := 6000000) (by omega) (by omega)
  have s3 := sq_le_of (a := w) (m := 100000) (by omega) (by omega)
  have s4 := sq_nonneg x
  have s5 := sq_nonneg y
  have s6 := sq_nonneg w
  rw [wrap_id (n := x * x) (by omega) (by omega), wrap_id (n := y * y) (by omega) (by omega), wrap_id (n := w * w) (by omega) (by omega), wrap_id (n := x * x + y * y) (by omega) (by omega)]
  by_cases hgt : x * x + y * y > w * w
  · exact .inl ⟨hgt, by rw [if_pos hgt]⟩
  · right
    refine ⟨by omega, ?_⟩
    have hv : vsq x y = x * x + y * y := by unfold vsq; rw [c1, c2]
    have hr := rt_is (n := x * x + y * y) (by omega)
    have hl : rt (x * x + y * y) ≤ w := by
      have := hr.2.1
      rcases Int.lt_or_le w (rt (x * x + y * y)) with hlt | hle
      · have g := mul_le_sq (show 0 ≤ w + 1 by omega) (show w + 1 ≤ rt (x * x + y * y) by omega)
        have e : (w + 1) * (w + 1) = w * w + 2 * w + 1 := by grind
        omega
      · exact hle
    have hvl : vlen x y = rt (x * x + y * y) := by
      unfold vlen
      rw [hv]
      exact cl_in (by have := hr.1; omega) (by omega)
    refine ⟨rt (x * x + y * y), hr, hl, ?_⟩
    rw [if_neg hgt]
    unfold vunit
    rw [hvl, c1, c2]
    have h0 := hr.1
    rw [wrap_id (n := w - rt (x * x + y * y)) (by omega) (by omega)]
    split <;> rfl
/-- A way made as long as 1, in its numbers without signs. -/
theorem tdiv_abs {x L : Int} (hL : 0 < L) : ∃ p : Int, 0 ≤ p ∧ (∃ X : Int, 0 ≤ X ∧ X * X = x * x ∧ p * L ≤ X * 256 ∧ X * 256 < p * L + L) ∧ Int.tdiv (x * 256) L * Int.tdiv (x * 256) L = p * p := by
  rcases Int.le_total 0 x with h | h
  · obtain ⟨h0, h1, h2⟩ := td_pos hL (a := x * 256) (by omega)
    exact ⟨_, h0, ⟨x, h, rfl, h1, h2⟩, rfl⟩
  · obtain ⟨h0, h1, h2⟩ := td_pos hL (a := -x * 256) (by omega)
    refine ⟨_, h0, ⟨-x, by omega, Int.neg_mul_neg x x, h1, h2⟩, ?_⟩
    rw [Int.neg_mul, Int.neg_tdiv, Int.neg_mul_neg]
theorem rnds_way {x y L : Int} (hr : IsRoot (x * x + y * y) L) :
    64009 ≤ (if L = 0 then 0 else Int.tdiv (x * 256) L) * (if L = 0 then 0 else Int.tdiv (x * 256) L) + (if L = 0 then 256 else Int.tdiv (y * 256) L) * (if L = 0 then 256 else Int.tdiv (y * 256) L) ∧
    (if L = 0 then 0 else Int.tdiv (x * 256) L) * (if L = 0 then 0 else Int.tdiv (x * 256) L) + (if L = 0 then 256 else Int.tdiv (y * 256) L) * (if L = 0 then 256 else Int.tdiv (y * 256) L) ≤ 131072 := by
  by_cases h0 : L = 0
  · simp [h0]
  · simp only [if_neg h0]
    have hL : 1 ≤ L := by have := hr.1; omega
    obtain ⟨p, hp, ⟨X, hX, eX, p1, p2⟩, ep⟩ := tdiv_abs (x := x) (L := L) (by omega)
    obtain ⟨q, hq, ⟨Y, hY, eY, q1, q2⟩, eq⟩ := tdiv_abs (x := y) (L := L) (by omega)
    rw [ep, eq]
    rw [← eX, ← eY] at hr
    exact unit_sq1 hL hr hX hY p1 p2 q1 q2 hp hq

theorem FnVecUnit : laws_FnVecUnit.Pure := by
  intro l _ _ hw
  refine ⟨99 + 1, ?_⟩
  unfold laws_FnVecUnit.f
  by_cases hl : (l.length : Int) > 1048576
  · rw [if_pos hl]
  rw [if_neg hl]
  obtain ⟨a, b, ea, ha, hb⟩ := spec_DrawVecUnit_some hw (k := 99 + 1) (by omega)
  rw [ea]
  have u0 : vunit 0 0 = (0, 256) := by decide
  have e1 : wrap64 (-a) = -a := wrap_id (by omega) (by omega)
  have e2 : wrap64 (-b) = -b := wrap_id (by omega) (by omega)
  simp only [Option.bind_some, impl_VecUnit_eq (show 65 < 99 + 1 by omega), spec_VecUnit_eq (show 65 < 99 + 1 by omega), u0, beq_self_eq_true, Bool.not_true, Bool.or_false, Bool.false_eq_true, if_false, laws_FnVecUnit.j0, impl_VecLen_eq (show 65 < 99 by omega), impl_VecUnit_eq (show 65 < 99 by omega), spec_VecOk_eq, e1, e2]
  cases hv : vecOk a b
  · simp
  have q3 : (-1000000000 ≤ a ∧ a ≤ 1000000000) ∧ -1000000000 ≤ b ∧ b ≤ 1000000000 := by simpa [vecOk, inB] using hv
  by_cases h0 : (a == 0 && (b == 0)) = true
  · simp [h0]
  by_cases h1 : vlen a b ≥ 1000000000
  · simp [h0, h1]
  by_cases h2 : vlen a b < 256
  · simp [h0, h1, h2]
  have hr := vlen_root (show vlen a b < 1000000000 by omega)
  have ca : cl a = a := cl_in (by omega) (by omega)
  have cb : cl b = b := cl_in (by omega) (by omega)
  rw [ca, cb] at hr
  have eu : vunit a b = (Int.tdiv (a * 256) (vlen a b), Int.tdiv (b * 256) (vlen a b)) := by
    unfold vunit
    rw [if_neg (by omega), ca, cb]
  have en : vunit (-a) (-b) = (-Int.tdiv (a * 256) (vlen a b), -Int.tdiv (b * 256) (vlen a b)) := by
    unfold vunit
    rw [vlen_neg, if_neg (by omega), cl_neg, cl_neg, ca, cb, Int.neg_mul, Int.neg_mul, Int.neg_tdiv, Int.neg_tdiv]
  rw [eu, en]
  obtain ⟨n, hn⟩ : ∃ n, n = vlen a b := ⟨_, rfl⟩
  rw [← hn] at hr h1 h2 ⊢
  obtain ⟨p, hp, ⟨X, hX, eX, p1, p2⟩, ep⟩ := tdiv_abs (x := a) (L := n) (by omega)
  obtain ⟨q, hq, ⟨Y, hY, eY, q1, q2⟩, eq⟩ := tdiv_abs (x := b) (L := n) (by omega)
  rw [← eX, ← eY] at hr
  have hs := unit_sq (by omega) hr hX hY p1 p2 q1 q2 hp hq
  have sgn : ∀ z : Int, 0 ≤ z * Int.tdiv (z * 256) n := by
    intro z
    rcases Int.le_total 0 z with h | h
    · exact Int.mul_nonneg h (td_pos (a := z * 256) (d := n) (by omega) (by omega)).1
    · have := (td_neg (a := z * 256) (d := n) (by omega) (by omega)).1
      have := Int.mul_nonneg (show 0 ≤ -z by omega) (show 0 ≤ -Int.tdiv (z * 256) n by omega)
      rw [Int.neg_mul_neg] at this
      exact this
  have sa := sgn a
  have sb := sgn b
  obtain ⟨u, hu⟩ : ∃ u, u = Int.tdiv (a * 256) n := ⟨_, rfl⟩
  obtain ⟨v, hv'⟩ : ∃ v, v = Int.tdiv (b * 256) n := ⟨_, rfl⟩
  rw [← hu] at ep sa ⊢
  rw [← hv'] at eq sb ⊢
  have su := sq_nonneg u
  have sv := sq_nonneg v
  have bd : ∀ z : Int, z * z ≤ 66049 → -257 ≤ z ∧ z ≤ 257 := by
    intro z hz
    constructor
    · rcases Int.lt_or_le z (-257) with h | h
      · have := mul_le_sq (show (0 : Int) ≤ 258 by omega) (show 258 ≤ -z by omega)
        rw [Int.neg_mul_neg] at this
        omega
      · exact h
    · rcases Int.lt_or_le 257 z with h | h
      · have := mul_le_sq (show (0 : Int) ≤ 258 by omega) (show 258 ≤ z by omega)
        omega
      · exact h
  have bu := bd u (by omega)
  have bv := bd v (by omega)
  have mu := mul_bound q3.1.1 q3.1.2 bu.1 bu.2
  have mv := mul_bound q3.2.1 q3.2.2 bv.1 bv.2
  simp only [h0, if_neg h1, if_neg h2, Bool.false_eq_true, if_false, if_true]
  rw [wrap_id (n := u * u) (by omega) (by omega), wrap_id (n := v * v) (by omega) (by omega), wrap_id (n := u * u + v * v) (by omega) (by omega), if_pos (by omega), if_pos (by omega),
    wrap_id (n := a * u) (by omega) (by omega), wrap_id (n := b * v) (by omega) (by omega), if_pos sa, if_pos sb, wrap_id (n := -u) (by omega) (by omega), wrap_id (n := -v) (by omega) (by omega)]
  simp

end Go.Proofs.Ytgclkbklhopaaaa.Pure
