/- FnFixDiv: what the program computes is what the reference computes, or has the law's properties, at all whole numbers and lists that the statement lets in; no further condition. -/
import Derived.Test.YtenhiaakchlflaaPFnFixDivx2
import Derived.Test.YtenhiaakchlflaaMath
namespace Go.Proofs.Ytenhiaakchlflaa.Pure
open Go.RowKit Go.Proofs.Ytenhiaakchlflaa.PFnFixDiv Go.Proofs.YtenhiaakchlflaaW.PrintWords Go.Proofs.YtenhiaakchlflaaW.PrintLast Go.Proofs.YtenhiaakchlflaaW.PrintMore Go.Proofs.Ytenhiaakchlflaa.Math
set_option linter.unusedVariables false
set_option linter.unusedSimpArgs false

/-- A code of bytes, of at most 2000. -/
def Code (s : List Int) : Prop := (∀ x ∈ s, 0 ≤ x ∧ x ≤ 255) ∧ s.length ≤ 2000
theorem u8_of {x : Int} (h : (Lit.int .u8 x).wf = true) : 0 ≤ x ∧ x ≤ 255 := by
  simp [Lit.wf, IntKind.min, IntKind.max, IntKind.signed, IntKind.bits] at h
  omega
theorem code_rd {s : List Int} (h : Code s) (i : Int) : 0 ≤ rd s i ∧ rd s i ≤ 255 := by
  unfold rd
  rw [List.getD_eq_getElem?_getD]
  rcases Nat.lt_or_ge i.toNat s.length with hl | hl
  · rw [List.getElem?_eq_getElem hl]
    exact h.1 _ (List.getElem_mem hl)
  · rw [List.getElem?_eq_none hl]
    exact ⟨by simp, by simp⟩
theorem xor_ge {a b : Int} (ha : 0 ≤ a) (ha' : a < 9223372036854775808) (hb : 0 ≤ b) (hb' : b < 9223372036854775808) : 0 ≤ Go.bits .xor .i64 a b := by
  obtain ⟨x, rfl⟩ := Int.eq_ofNat_of_zero_le ha
  obtain ⟨y, rfl⟩ := Int.eq_ofNat_of_zero_le hb
  have hx : x ^^^ y < 2 ^ 63 := Nat.xor_lt_two_pow (by omega) (by omega)
  have h1 : (BitVec.ofInt 64 (x : Int)).toNat = x := by rw [BitVec.toNat_ofInt]; omega
  have h2 : (BitVec.ofInt 64 (y : Int)).toNat = y := by rw [BitVec.toNat_ofInt]; omega
  have e : (BitVec.ofInt 64 (x : Int) ^^^ BitVec.ofInt 64 (y : Int)).toNat = x ^^^ y := by rw [BitVec.toNat_xor, h1, h2]
  have hb : Go.bits .xor .i64 (x : Int) (y : Int) = IntKind.wrap .i64 ((x ^^^ y : Nat) : Int) := by rw [← e]; rfl
  rw [hb]
  generalize x ^^^ y = z at hx
  have hz : ((z : Nat) : Int) % 18446744073709551616 = z := Int.emod_eq_of_lt (by omega) (by omega)
  show 0 ≤ (if (true && decide ((z : Int) % 18446744073709551616 ≥ 9223372036854775808)) = true then (z : Int) % 18446744073709551616 - 18446744073709551616 else (z : Int) % 18446744073709551616)
  rw [hz]
  split
  · rename_i hh
    simp at hh
    omega
  · omega
theorem tmod_in {a n : Int} (ha : 0 ≤ a) (hn : 0 < n) : 0 ≤ Int.tmod a n ∧ Int.tmod a n < n := ⟨Int.tmod_nonneg _ ha, Int.tmod_lt_of_pos _ hn⟩

theorem spec_l1Open_eq {l : List Int} (h : ∀ x ∈ l, (Lit.int .u8 x).wf = true) : ∃ s, spec_l1Open.f l = some (s, 0) ∧ Code s := by
  unfold spec_l1Open.f
  by_cases hl : (l.length : Int) > 2000
  · rw [if_pos hl, if_pos (by omega)]
    exact ⟨_, rfl, fun x hx => u8_of (h x (List.mem_of_mem_take hx)), by rw [List.length_take]; omega⟩
  · rw [if_neg hl]
    exact ⟨_, rfl, fun x hx => u8_of (h x hx), by omega⟩

theorem pick_eq {s : List Int} (hs : Code s) {k : Nat} {p n : Int} (hk : 0 < k) (h0 : 0 ≤ p) (h1 : p ≤ 1000000) :
    ∃ v, spec_l1Rd_pick.f k s p n = some (v, p + 1) ∧ 0 ≤ v ∧ (0 < n → v < n) ∧ (n ≤ 0 → v = 0) := by
  obtain ⟨k, rfl⟩ : ∃ m, k = m + 1 := ⟨k - 1, by omega⟩
  have e0 : wrap64 (p + 1) = p + 1 := wrap_id (by omega) (by omega)
  unfold spec_l1Rd_pick.f
  simp only [spec_l1Rd_pick.j0, e0]
  by_cases hn : n < 1
  · rw [if_pos hn]
    exact ⟨0, by simp, by omega, by omega, by omega⟩
  rw [if_neg hn]
  by_cases hz : (s.length : Int) = 0
  · exact ⟨0, by simp [hz], by omega, by omega, by omega⟩
  have hl : 0 < (s.length : Int) := by omega
  have hl2 := hs.2
  have e1 : wrap64 (p + 1 - 1) = p := by rw [wrap_id (by omega) (by omega)]; omega
  rw [if_neg (by simp only [beq_iff_eq]; exact hz), e1]
  by_cases hp : p < (s.length : Int)
  · have hr := code_rd hs p
    rw [if_pos hp, if_pos h0, if_neg (by omega), wrap_id (n := rd s p) (by omega) (by omega)]
    obtain ⟨g1, g2⟩ := tmod_in hr.1 (show 0 < n by omega)
    exact ⟨_, rfl, g1, fun _ => g2, by omega⟩
  · have e2 : wrap64 (wrap64 (p * 7) + 3) = p * 7 + 3 := by rw [wrap_id (n := p * 7) (by omega) (by omega), wrap_id (by omega) (by omega)]
    obtain ⟨a1, a2⟩ := tmod_in (a := p) h0 hl
    obtain ⟨b1, b2⟩ := tmod_in (a := p * 7 + 3) (by omega) hl
    rw [if_neg hp, if_neg hz, e2, if_pos a1, if_pos a2, if_pos b1, if_pos b2, if_neg (by omega)]
    have c1 := code_rd hs (Int.tmod p s.length)
    have c2 := code_rd hs (Int.tmod (p * 7 + 3) s.length)
    generalize rd s (Int.tmod p s.length) = x at c1 ⊢
    generalize rd s (Int.tmod (p * 7 + 3) s.length) = y at c2 ⊢
    obtain ⟨d1, d2, _⟩ := td_pos hl h0
    have d3 := td_bd (a := p) (m := p) (by omega) (by omega) s.length hl
    generalize Int.tdiv p s.length = z at d1 d2 d3 ⊢
    have ex : wrap64 (wrap64 (wrap64 (wrap64 (wrap64 x * 131) + wrap64 (wrap64 y * 1117)) + wrap64 (p * 29)) + wrap64 (wrap64 z * 53)) = x * 131 + y * 1117 + p * 29 + z * 53 := by
      rw [wrap_id (n := x) (by omega) (by omega), wrap_id (n := y) (by omega) (by omega), wrap_id (n := z) (by omega) (by omega), wrap_id (n := x * 131) (by omega) (by omega), wrap_id (n := y * 1117) (by omega) (by omega),
        wrap_id (n := p * 29) (by omega) (by omega), wrap_id (n := z * 53) (by omega) (by omega), wrap_id (n := x * 131 + y * 1117) (by omega) (by omega), wrap_id (n := x * 131 + y * 1117 + p * 29) (by omega) (by omega), wrap_id (by omega) (by omega)]
    rw [ex]
    have hX : 0 ≤ x * 131 + y * 1117 + p * 29 + z * 53 ∧ x * 131 + y * 1117 + p * 29 + z * 53 ≤ 100000000 := by omega
    generalize x * 131 + y * 1117 + p * 29 + z * 53 = X at hX ⊢
    obtain ⟨f1, f2, _⟩ := td_pos (a := X) (d := 64) (by omega) hX.1
    have hx := xor_ge (a := X) (b := wrap64 (Int.tdiv X 64)) hX.1 (by omega) (by rw [wrap_id (by omega) (by omega)]; omega) (by rw [wrap_id (by omega) (by omega)]; omega)
    obtain ⟨g1, g2⟩ := tmod_in hx (show 0 < n by omega)
    exact ⟨_, rfl, g1, fun _ => g2, by omega⟩

theorem one_eq {s : List Int} (hs : Code s) {k : Nat} {p : Int} {xs : List Int} {P : Int → Prop} (hP : ∀ x ∈ xs, P x) (hk : 0 < k) (h0 : 0 ≤ p) (h1 : p ≤ 1000000) (hx : 0 < xs.length) :
    ∃ v, spec_l1Rd_one.f k s p xs = some (v, p + 1) ∧ P v := by
  obtain ⟨v, e, g0, g1, _⟩ := pick_eq hs (n := (xs.length : Int)) hk h0 h1
  have g1 := g1 (by omega)
  unfold spec_l1Rd_one.f
  rw [e]
  simp only [Option.bind_some]
  rw [if_pos g0, if_pos g1]
  refine ⟨_, rfl, hP _ ?_⟩
  unfold rd
  rw [List.getD_eq_getElem?_getD, List.getElem?_eq_getElem (show v.toNat < xs.length by omega)]
  exact List.getElem_mem _

theorem big_eq {s : List Int} (hs : Code s) {k : Nat} {p n : Int} (hk : 0 < k) (h0 : 0 ≤ p) (h1 : p ≤ 900000) (hn : 0 < n) :
    ∃ v, spec_l1Rd_big.f k s p n = some (v, p + 3) ∧ 0 ≤ v ∧ v < n := by
  obtain ⟨a, ea, a0, a1, _⟩ := pick_eq hs (n := 256) hk h0 (by omega)
  obtain ⟨b, eb, b0, b1, _⟩ := pick_eq hs (p := p + 1) (n := 256) hk (by omega) (by omega)
  obtain ⟨c, ec, c0, c1, _⟩ := pick_eq hs (p := p + 1 + 1) (n := 256) hk (by omega) (by omega)
  have a1 := a1 (by omega)
  have b1 := b1 (by omega)
  have c1 := c1 (by omega)
  unfold spec_l1Rd_big.f
  rw [ea]; simp only [Option.bind_some]
  rw [eb]; simp only [Option.bind_some]
  rw [ec]; simp only [Option.bind_some]
  rw [if_neg (by omega), wrap_id (n := a * 65536) (by omega) (by omega), wrap_id (n := b * 256) (by omega) (by omega), wrap_id (n := a * 65536 + b * 256) (by omega) (by omega), wrap_id (by omega) (by omega)]
  obtain ⟨g1, g2⟩ := tmod_in (a := a * 65536 + b * 256 + c) (by omega) hn
  exact ⟨_, by rw [show p + 1 + 1 + 1 = p + 3 by omega], g1, g2⟩

theorem num_eq {s : List Int} (hs : Code s) {k : Nat} {p : Int} (hk : 0 < k) (h0 : 0 ≤ p) (h1 : p ≤ 800000) :
    ∃ v, spec_l11Num.f k s p = some (v, p + 9) ∧ -1099511627776 ≤ v ∧ v ≤ 1099511627776 := by
  obtain ⟨a, ea, a0, a1, _⟩ := pick_eq hs (p := p) (n := 256) hk h0 (by omega)
  have a1 := a1 (by omega)
  obtain ⟨b, eb, b0, b1⟩ := big_eq hs (p := p + 1) (n := 100000) hk (by omega) (by omega) (by omega)
  obtain ⟨c, ec, c0, c1⟩ := big_eq hs (p := p + 1 + 3) (n := 16777216) hk (by omega) (by omega) (by omega)
  obtain ⟨d, ed, d0, d1⟩ := one_eq hs (p := p + 1 + 3 + 3) (xs := [a, b, c, 1000000000, 0, 256, 1000000001, 1099511627776]) (P := fun v => 0 ≤ v ∧ v ≤ 1099511627776) (by simp; omega) hk (by omega) (by omega) (by simp)
  obtain ⟨f, ef, f0, f1, _⟩ := pick_eq hs (p := p + 1 + 3 + 3 + 1) (n := 3) hk (by omega) (by omega)
  unfold spec_l11Num.f
  rw [ea]; simp only [Option.bind_some]
  rw [eb]; simp only [Option.bind_some]
  rw [ec]; simp only [Option.bind_some]
  rw [ed]; simp only [Option.bind_some]
  rw [ef]; simp only [Option.bind_some]
  have e9 : p + 1 + 3 + 3 + 1 + 1 = p + 9 := by omega
  rw [e9]
  by_cases hf : f = 0
  · rw [if_pos hf, wrap_id (by omega) (by omega)]
    exact ⟨_, rfl, by omega, by omega⟩
  · rw [if_neg hf]
    exact ⟨_, rfl, by omega, by omega⟩

theorem spec_DrawFixMul_eq {l : List Int} (h : ∀ x ∈ l, (Lit.int .u8 x).wf = true) {k : Nat} (hk : 0 < k) : ∃ a b, spec_DrawFixMul.f k l = some (a, b) ∧ (-1099511627776 ≤ a ∧ a ≤ 1099511627776) ∧ (-1099511627776 ≤ b ∧ b ≤ 1099511627776) := by
  obtain ⟨s, es, hs⟩ := spec_l1Open_eq h
  obtain ⟨a, ea, ha⟩ := num_eq hs (p := 0) hk (by omega) (by omega)
  obtain ⟨b, eb, hb⟩ := num_eq hs (p := 0 + 9) hk (by omega) (by omega)
  refine ⟨a, b, ?_, ha, hb⟩
  unfold spec_DrawFixMul.f
  rw [es]; simp only [Option.bind_some]
  rw [ea]; simp only [Option.bind_some]
  rw [eb]; simp only [Option.bind_some]

theorem spec_DrawFixDiv_eq {l : List Int} (h : ∀ x ∈ l, (Lit.int .u8 x).wf = true) {k : Nat} (hk : 0 < k) : ∃ a b, spec_DrawFixDiv.f k l = some (a, b) := by
  obtain ⟨a, b, e, _⟩ := spec_DrawFixMul_eq h hk
  refine ⟨a, b, ?_⟩
  unfold spec_DrawFixDiv.f
  rw [e]; rfl

theorem spec_FixClamp_eq (a : Int) : spec_FixClamp.f a = some (cl a) := by
  unfold spec_FixClamp.f cl
  split
  · rfl
  · split <;> rfl

theorem spec_FixDiv_eq (a b : Int) : spec_FixDiv.f a b = some (fixDiv a b) := by
  unfold spec_FixDiv.f fixDiv
  simp only [spec_FixClamp_eq, Option.bind_some]
  have ha := cl_bd a
  by_cases h : cl b = 0
  · rw [if_pos h, if_pos h, wrap_id (by omega) (by omega)]
    unfold cl at *
    split <;> (try split) <;> (try split) <;> (try split) <;> simp_all <;> omega
  · rw [if_neg h, if_neg h]

theorem impl_within_eq {a m : Int} (h0 : 0 ≤ m) (h1 : m ≤ 1000000000000) : impl_within.f a m = some (wi a m) := by
  unfold impl_within.f wi
  rw [wrap_id (by omega) (by omega), mx_eq, mn_eq]

theorem impl_FixClamp_eq (a : Int) : impl_FixClamp.f a = some (cl a) := by
  unfold impl_FixClamp.f
  rw [impl_within_eq (by omega) (by omega), wi_cl]; rfl

theorem impl_FixDiv_eq (a b : Int) : impl_FixDiv.f a b = some (fixDiv a b) := by
  unfold impl_FixDiv.f fixDiv
  simp only [impl_FixClamp_eq, Option.bind_some]
  split
  · split
    · rfl
    · split <;> rfl
  · rfl

theorem laws_pqAbs_eq {a : Int} (h : -9223372036854775808 < a) (h' : a < 9223372036854775808) : laws_pqAbs.f a = some (if a < 0 then -a else a) := by
  unfold laws_pqAbs.f
  split
  · rw [wrap_id (by omega) (by omega)]
  · rfl

theorem FnFixDiv : laws_FnFixDiv.Pure := by
  intro l _ _ hw
  refine ⟨99 + 1, ?_⟩
  unfold laws_FnFixDiv.f
  by_cases hl : (l.length : Int) > 1048576
  · rw [if_pos hl]
  rw [if_neg hl]
  obtain ⟨a0, b0, ea⟩ := spec_DrawFixDiv_eq hw (k := 99 + 1) (by omega)
  rw [ea]
  simp only [Option.bind_some, impl_FixDiv_eq, spec_FixDiv_eq, impl_FixClamp_eq, if_true]
  have hq : ∀ x y, fixDiv (cl x) y = fixDiv x y := fun x y => by unfold fixDiv; rw [cl_cl]
  have e256 : fixDiv a0 256 = cl a0 := by
    have := cl_bd a0
    unfold fixDiv
    rw [cl_in (a := 256) (by omega) (by omega), if_neg (by omega), wrap_id (n := cl a0 * 256) (by omega) (by omega), Int.mul_tdiv_cancel _ (by omega), wrap_id (by omega) (by omega), cl_cl]
  rw [hq, e256]
  have ha := cl_bd a0
  have hb := cl_bd b0
  have hu : fixDiv a0 b0 = if cl b0 = 0 then (if cl a0 > 0 then 1000000000 else if cl a0 < 0 then -1000000000 else 0) else cl (Int.tdiv (cl a0 * 256) (cl b0)) := by
    unfold fixDiv
    by_cases h0 : cl b0 = 0
    · rw [if_pos h0, if_pos h0]
    · rw [if_neg h0, if_neg h0, wrap_id (n := cl a0 * 256) (by omega) (by omega)]
      have : -256000000000 ≤ Int.tdiv (cl a0 * 256) (cl b0) ∧ Int.tdiv (cl a0 * 256) (cl b0) ≤ 256000000000 := by
        rcases Int.lt_or_le 0 (cl b0) with hp | hn
        · exact td_bd (m := 256000000000) (by omega) (by omega) (cl b0) hp
        · have := td_bd (a := cl a0 * 256) (m := 256000000000) (by omega) (by omega) (-cl b0) (by omega)
          rw [Int.tdiv_neg] at this
          omega
      rw [wrap_id (n := Int.tdiv (cl a0 * 256) (cl b0)) (by omega) (by omega)]
  obtain ⟨q, hqe⟩ : ∃ q, q = fixDiv a0 b0 := ⟨_, rfl⟩
  rw [← hqe] at hu ⊢
  obtain ⟨a, hae⟩ : ∃ a, a = cl a0 := ⟨_, rfl⟩
  obtain ⟨b, hbe⟩ : ∃ b, b = cl b0 := ⟨_, rfl⟩
  rw [← hae] at ha hu ⊢
  rw [← hbe] at hb hu ⊢
  by_cases h0 : b = 0
  · rw [if_pos h0] at hu ⊢
    by_cases h1 : a > 0
    · rw [if_pos h1] at hu
      rw [if_neg (by omega), if_pos h1, if_pos hu]
    · rw [if_neg h1] at hu
      by_cases h2 : a < 0
      · rw [if_pos h2] at hu
        rw [if_neg (by omega), if_neg h1, if_pos h2, hu]
        rfl
      · rw [if_neg h2] at hu
        rw [if_pos (by omega), if_pos hu]
  · rw [if_neg h0] at hu ⊢
    -- the quotient without limits
    obtain ⟨t, ht⟩ : ∃ t, t = Int.tdiv (a * 256) b := ⟨_, rfl⟩
    rw [← ht] at hu
    have hqb := cl_bd t
    rw [← hu] at hqb
    -- what the quotient is, without signs
    have key : ∃ B : Int, 0 < B ∧ (B = b ∨ B = -b) ∧ (if b < 0 then -b else b) = B := by
      rcases Int.lt_or_le b 0 with hn | hp
      · exact ⟨-b, by omega, .inr rfl, by rw [if_pos hn]⟩
      · exact ⟨b, by omega, .inl rfl, by rw [if_neg (by omega)]⟩
    obtain ⟨B, hB, hBb, hBa⟩ := key
    have keyA : ∃ A : Int, 0 ≤ A ∧ (A = a ∨ A = -a) ∧ (if a < 0 then -a else a) = A ∧ (a < 0 → A = -a) ∧ (0 ≤ a → A = a) := by
      rcases Int.lt_or_le a 0 with hn | hp
      · exact ⟨-a, by omega, .inr rfl, by rw [if_pos hn], fun _ => rfl, fun h => by omega⟩
      · exact ⟨a, by omega, .inl rfl, by rw [if_neg (by omega)], fun h => by omega, fun _ => rfl⟩
    obtain ⟨A, hA, hAa, hAe, hAn, hAp⟩ := keyA
    obtain ⟨T, hT⟩ : ∃ T, T = Int.tdiv (A * 256) B := ⟨_, rfl⟩
    obtain ⟨T0, T1, T2⟩ := td_pos hB (a := A * 256) (by omega)
    rw [← hT] at T0 T1 T2
    have htT : (t = T ∧ t * b = (if a < 0 then -(T * B) else T * B)) ∨ (t = -T ∧ t * b = (if a < 0 then -(T * B) else T * B)) := by
      rw [ht, hT]
      rcases Int.lt_or_le a 0 with hn | hp
      · rw [if_pos hn, hAn hn]
        rcases hBb with rfl | rfl
        · right
          rw [Int.neg_mul, Int.neg_tdiv, Int.neg_neg, Int.neg_mul, Int.neg_neg]
          exact ⟨rfl, rfl⟩
        · left
          rw [Int.neg_mul, Int.neg_tdiv, Int.tdiv_neg, Int.neg_neg, Int.mul_neg, Int.neg_neg]
          exact ⟨rfl, rfl⟩
      · rw [if_neg (by omega), hAp hp]
        rcases hBb with rfl | rfl
        · left
          exact ⟨rfl, rfl⟩
        · right
          rw [Int.tdiv_neg, Int.neg_neg]
          refine ⟨rfl, ?_⟩
          rw [Int.neg_mul, Int.mul_neg]
          omega
    rw [laws_pqAbs_eq (a := q) (by omega) (by omega), laws_pqAbs_eq (a := a) (by omega) (by omega), laws_pqAbs_eq (a := b) (by omega) (by omega)]
    simp only [Option.bind_some]
    rw [hBa, hAe]
    by_cases hM : (if q < 0 then -q else q) = 1000000000
    · rw [if_pos hM, wrap_id (n := A * 256) (by omega) (by omega), wrap_id (n := B * 999999999) (by omega) (by omega)]
      have hTM : 1000000000 ≤ T := by
        have : 1000000000 ≤ t ∨ t ≤ -1000000000 := by
          unfold cl at hu
          split at hu
          · omega
          · split at hu
            · omega
            · split at hM <;> omega
        rcases htT with ⟨h, _⟩ | ⟨h, _⟩ <;> omega
      have := Int.mul_le_mul_of_nonneg_right hTM (show 0 ≤ B by omega)
      simp
      omega
    · rw [if_neg hM]
      have hqt : q = t := by
        unfold cl at hu
        split at hu
        · rw [hu] at hM; simp at hM
        · split at hu
          · rw [hu] at hM; simp at hM
          · exact hu
      rw [hqt]
      have htb : -(256000000000) ≤ t * b ∧ t * b ≤ 256000000000 := by
        rcases htT with ⟨_, h⟩ | ⟨_, h⟩ <;> rw [h] <;> split <;> omega
      rw [wrap_id (n := a * 256) (by omega) (by omega), wrap_id (n := t * b) (by omega) (by omega), wrap_id (n := a * 256 - t * b) (by omega) (by omega), laws_pqAbs_eq (by omega) (by omega)]
      simp only [Option.bind_some]
      have htb2 : t * b = if a < 0 then -(T * B) else T * B := by rcases htT with ⟨_, h⟩ | ⟨_, h⟩ <;> exact h
      rw [htb2]
      by_cases hn : a < 0
      · have := hAn hn
        simp only [if_pos hn]
        rw [if_pos (by split <;> omega)]
        by_cases hz : a * 256 - -(T * B) = 0
        · rw [if_pos hz]; simp
        · rw [if_neg hz, if_pos (by simp [hn]; omega)]; simp
      · have := hAp (by omega)
        simp only [if_neg hn]
        rw [if_pos (by split <;> omega)]
        by_cases hz : a * 256 - T * B = 0
        · rw [if_pos hz]; simp
        · rw [if_neg hz, if_pos (by simp [hn]; omega)]; simp

end Go.Proofs.Ytenhiaakchlflaa.Pure
