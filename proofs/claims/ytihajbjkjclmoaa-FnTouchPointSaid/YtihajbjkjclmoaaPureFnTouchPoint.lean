/- FnTouchPoint: what the program computes is what the reference computes, or has the law's properties, at all whole numbers and lists that the statement lets in; no further condition. -/
import Derived.Test.YtihajbjkjclmoaaPBigx936
import Derived.Test.YtihajbjkjclmoaaMath
namespace Go.Proofs.Ytihajbjkjclmoaa.Pure
open Go.RowKit Go.Proofs.Ytihajbjkjclmoaa.PBig Go.Proofs.YtihajbjkjclmoaaW.PrintWords Go.Proofs.YtihajbjkjclmoaaW.PrintLast Go.Proofs.YtihajbjkjclmoaaW.PrintMore Go.Proofs.Ytihajbjkjclmoaa.Math
set_option linter.unusedVariables false
set_option linter.unusedSimpArgs false

/-- A code of bytes, of at most 2000. -/
def Code (s : List Int) : Prop := (∀ x ∈ s, 0 ≤ x ∧ x ≤ 255) ∧ s.length ≤ 2000
theorem u8_of {x : Int} (h : (Lit.int .u8 x).wf = true) : 0 ≤ x ∧ x ≤ 255 := by
  simp [Lit.wf, IntKind.min, IntKind.max, IntKind.signed, IntKind.bits] at h
  omega
theorem code_rd {s : List Int} (h : Code s) (i : Int) : 0 ≤ rd s i ∧ rd s i ≤ 255 := by
  unfold rd
  rw [List.getD_eq_getElem?_getD]
  rcases Nat.lt_or_ge i.toNat s.length with hl | hl
  · rw [List.getElem?_eq_getElem hl]
    exact h.1 _ (List.getElem_mem hl)
  · rw [List.getElem?_eq_none hl]
    exact ⟨by simp, by simp⟩
theorem xor_ge {a b : Int} (ha : 0 ≤ a) (ha' : a < 9223372036854775808) (hb : 0 ≤ b) (hb' : b < 9223372036854775808) : 0 ≤ Go.bits .xor .i64 a b := by
  obtain ⟨x, rfl⟩ := Int.eq_ofNat_of_zero_le ha
  obtain ⟨y, rfl⟩ := Int.eq_ofNat_of_zero_le hb
  have hx : x ^^^ y < 2 ^ 63 := Nat.xor_lt_two_pow (by omega) (by omega)
  have h1 : (BitVec.ofInt 64 (x : Int)).toNat = x := by rw [BitVec.toNat_ofInt]; omega
  have h2 : (BitVec.ofInt 64 (y : Int)).toNat = y := by rw [BitVec.toNat_ofInt]; omega
  have e : (BitVec.ofInt 64 (x : Int) ^^^ BitVec.ofInt 64 (y : Int)).toNat = x ^^^ y := by rw [BitVec.toNat_xor, h1, h2]
  have hb : Go.bits .xor .i64 (x : Int) (y : Int) = IntKind.wrap .i64 ((x ^^^ y : Nat) : Int) := by rw [← e]; rfl
  rw [hb]
  generalize x ^^^ y = z at hx
  have hz : ((z : Nat) : Int) % 18446744073709551616 = z := Int.emod_eq_of_lt (by omega) (by omega)
  show 0 ≤ (if (true && decide ((z : Int) % 18446744073709551616 ≥ 9223372036854775808)) = true then (z : Int) % 18446744073709551616 - 18446744073709551616 else (z : Int) % 18446744073709551616)
  rw [hz]
  split
  · rename_i hh
    simp at hh
    omega
  · omega
theorem tmod_in {a n : Int} (ha : 0 ≤ a) (hn : 0 < n) : 0 ≤ Int.tmod a n ∧ Int.tmod a n < n := ⟨Int.tmod_nonneg _ ha, Int.tmod_lt_of_pos _ hn⟩

theorem spec_l1Open_eq {l : List Int} (h : ∀ x ∈ l, (Lit.int .u8 x).wf = true) : ∃ s, spec_l1Open.f l = some (s, 0) ∧ Code s := by
  unfold spec_l1Open.f
  by_cases hl : (l.length : Int) > 2000
  · rw [if_pos hl, if_pos (by omega)]
    exact ⟨_, rfl, fun x hx => u8_of (h x (List.mem_of_mem_take hx)), by rw [List.length_take]; omega⟩
  · rw [if_neg hl]
    exact ⟨_, rfl, fun x hx => u8_of (h x hx), by omega⟩

theorem pick_eq {s : List Int} (hs : Code s) {k : Nat} {p n : Int} (hk : 0 < k) (h0 : 0 ≤ p) (h1 : p ≤ 1000000) :
    ∃ v, spec_l1Rd_pick.f k s p n = some (v, p + 1) ∧ 0 ≤ v ∧ (0 < n → v < n) ∧ (n ≤ 0 → v = 0) := by
  obtain ⟨k, rfl⟩ : ∃ m, k = m + 1 := ⟨k - 1, by omega⟩
  have e0 : wrap64 (p + 1) = p + 1 := wrap_id (by omega) (by omega)
  unfold spec_l1Rd_pick.f
  simp only [spec_l1Rd_pick.j0, e0]
  by_cases hn : n < 1
  · rw [if_pos hn]
    exact ⟨0, by simp, by omega, by omega, by omega⟩
  rw [if_neg hn]
  by_cases hz : (s.length : Int) = 0
  · exact ⟨0, by simp [hz], by omega, by omega, by omega⟩
  have hl : 0 < (s.length : Int) := by omega
  have hl2 := hs.2
  have e1 : wrap64 (p + 1 - 1) = p := by rw [wrap_id (by omega) (by omega)]; omega
  rw [if_neg (by simp only [beq_iff_eq]; exact hz), e1]
  by_cases hp : p < (s.length : Int)
  · have hr := code_rd hs p
    rw [if_pos hp, if_pos h0, if_neg (by omega), wrap_id (n := rd s p) (by omega) (by omega)]
    obtain ⟨g1, g2⟩ := tmod_in hr.1 (show 0 < n by omega)
    exact ⟨_, rfl, g1, fun _ => g2, by omega⟩
  · have e2 : wrap64 (wrap64 (p * 7) + 3) = p * 7 + 3 := by rw [wrap_id (n := p * 7) (by omega) (by omega), wrap_id (by omega) (by omega)]
    obtain ⟨a1, a2⟩ := tmod_in (a := p) h0 hl
    obtain ⟨b1, b2⟩ := tmod_in (a := p * 7 + 3) (by omega) hl
    rw [if_neg hp, if_neg hz, e2, if_pos a1, if_pos a2, if_pos b1, if_pos b2, if_neg (by omega)]
    have c1 := code_rd hs (Int.tmod p s.length)
    have c2 := code_rd hs (Int.tmod (p * 7 + 3) s.length)
    generalize rd s (Int.tmod p s.length) = x at c1 ⊢
    generalize rd s (Int.tmod (p * 7 + 3) s.length) = y at c2 ⊢
    obtain ⟨d1, d2, _⟩ := td_pos hl h0
    have d3 := td_bd (a := p) (m := p) (by omega) (by omega) s.length hl
    generalize Int.tdiv p s.length = z at d1 d2 d3 ⊢
    have ex : wrap64 (wrap64 (wrap64 (wrap64 (wrap64 x * 131) + wrap64 (wrap64 y * 1117)) + wrap64 (p * 29)) + wrap64 (wrap64 z * 53)) = x * 131 + y * 1117 + p * 29 + z * 53 := by
      rw [wrap_id (n := x) (by omega) (by omega), wrap_id (n := y) (by omega) (by omega), wrap_id (n := z) (by omega) (by omega), wrap_id (n := x * 131) (by omega) (by omega), wrap_id (n := y * 1117) (by omega) (by omega),
        wrap_id (n := p * 29) (by omega) (by omega), wrap_id (n := z * 53) (by omega) (by omega), wrap_id (n := x * 131 + y * 1117) (by omega) (by omega), wrap_id (n := x * 131 + y * 1117 + p * 29) (by omega) (by omega), wrap_id (by omega) (by omega)]
    rw [ex]
    have hX : 0 ≤ x * 131 + y * 1117 + p * 29 + z * 53 ∧ x * 131 + y * 1117 + p * 29 + z * 53 ≤ 100000000 := by omega
    generalize x * 131 + y * 1117 + p * 29 + z * 53 = X at hX ⊢
    obtain ⟨f1, f2, _⟩ := td_pos (a := X) (d := 64) (by omega) hX.1
    have hx := xor_ge (a := X) (b := wrap64 (Int.tdiv X 64)) hX.1 (by omega) (by rw [wrap_id (by omega) (by omega)]; omega) (by rw [wrap_id (by omega) (by omega)]; omega)
    obtain ⟨g1, g2⟩ := tmod_in hx (show 0 < n by omega)
    exact ⟨_, rfl, g1, fun _ => g2, by omega⟩

theorem one_eq {s : List Int} (hs : Code s) {k : Nat} {p : Int} {xs : List Int} {P : Int → Prop} (hP : ∀ x ∈ xs, P x) (hk : 0 < k) (h0 : 0 ≤ p) (h1 : p ≤ 1000000) (hx : 0 < xs.length) :
    ∃ v, spec_l1Rd_one.f k s p xs = some (v, p + 1) ∧ P v := by
  obtain ⟨v, e, g0, g1, _⟩ := pick_eq hs (n := (xs.length : Int)) hk h0 h1
  have g1 := g1 (by omega)
  unfold spec_l1Rd_one.f
  rw [e]
  simp only [Option.bind_some]
  rw [if_pos g0, if_pos g1]
  refine ⟨_, rfl, hP _ ?_⟩
  unfold rd
  rw [List.getD_eq_getElem?_getD, List.getElem?_eq_getElem (show v.toNat < xs.length by omega)]
  exact List.getElem_mem _

/-- It draws something, and goes on by at most c. -/
def Dr {α : Type} (o : Option α) (g : α → Int) (p c : Int) : Prop := ∃ r, o = some r ∧ p ≤ g r ∧ g r ≤ p + c
theorem dr_bind {α β : Type} {o : Option α} {f : α → Option β} {g : α → Int} {g' : β → Int} {p c P C : Int} (h : Dr o g p c) (k : ∀ r, p ≤ g r → g r ≤ p + c → Dr (f r) g' P C) : Dr (o.bind f) g' P C := by
  obtain ⟨r, e, h1, h2⟩ := h
  rw [e]
  exact k r h1 h2
theorem dr_ite {α : Type} {q : Prop} [Decidable q] {a b : Option α} {g : α → Int} {p c : Int} (h : Dr a g p c) (k : Dr b g p c) : Dr (if q then a else b) g p c := by
  split
  · exact h
  · exact k
theorem pick_dr {s : List Int} (hs : Code s) {k : Nat} {p n : Int} (hk : 0 < k) (h0 : 0 ≤ p) (h1 : p ≤ 1000000) : Dr (spec_l1Rd_pick.f k s p n) (fun r => r.2) p 1 := by
  obtain ⟨v, e, _⟩ := pick_eq hs (n := n) hk h0 h1
  exact ⟨_, e, by dsimp only; omega, by dsimp only; omega⟩
theorem one_dr {s : List Int} (hs : Code s) {k : Nat} {p : Int} {xs : List Int} (hk : 0 < k) (h0 : 0 ≤ p) (h1 : p ≤ 1000000) (hx : 0 < xs.length) : Dr (spec_l1Rd_one.f k s p xs) (fun r => r.2) p 1 := by
  obtain ⟨v, e, _⟩ := one_eq hs (xs := xs) (P := fun _ => True) (by simp) hk h0 h1 hx
  exact ⟨_, e, by dsimp only; omega, by dsimp only; omega⟩

theorem shape_dr {s : List Int} (hs : Code s) {k : Nat} {p : Int} (hk : 0 < k) (h0 : 0 ≤ p) (h1 : p ≤ 900000) : Dr (spec_l11Shape.f k s p) (fun r => r.2.2.2) p 5 := by
  unfold spec_l11Shape.f
  refine dr_bind (pick_dr hs hk (by omega) (by omega)) fun a ha ha' => ?_
  refine dr_bind (one_dr hs hk (by omega) (by omega) (by simp)) fun b hb hb' => ?_
  refine dr_bind (pick_dr hs hk (by omega) (by omega)) fun c hc hc' => ?_
  refine dr_ite ?_ ?_
  · exact ⟨_, rfl, by dsimp only; omega, by dsimp only; omega⟩
  · refine dr_bind (pick_dr hs hk (by omega) (by omega)) fun d hd hd' => ?_
    refine dr_bind (one_dr hs hk (by omega) (by omega) (by simp)) fun e he he' => ?_
    exact ⟨_, rfl, by dsimp only; omega, by dsimp only; omega⟩

theorem anyshape_dr {s : List Int} (hs : Code s) {k : Nat} {p : Int} (hk : 0 < k) (h0 : 0 ≤ p) (h1 : p ≤ 800000) : Dr (spec_l11AnyShape.f k s p) (fun r => r.2.2.2) p 7 := by
  unfold spec_l11AnyShape.f
  refine dr_bind (shape_dr hs hk (by omega) (by omega)) fun a ha ha' => ?_
  refine dr_bind (pick_dr hs hk (by omega) (by omega)) fun b hb hb' => ?_
  refine dr_ite ?_ (dr_ite ?_ (dr_ite ?_ ?_))
  · refine dr_bind (one_dr hs hk (by omega) (by omega) (by simp)) fun c hc hc' => ?_
    exact ⟨_, rfl, by dsimp only; omega, by dsimp only; omega⟩
  · refine dr_bind (one_dr hs hk (by omega) (by omega) (by simp)) fun c hc hc' => ?_
    exact ⟨_, rfl, by dsimp only; omega, by dsimp only; omega⟩
  · refine dr_bind (one_dr hs hk (by omega) (by omega) (by simp)) fun c hc hc' => ?_
    exact ⟨_, rfl, by dsimp only; omega, by dsimp only; omega⟩
  · exact ⟨_, rfl, by dsimp only; omega, by dsimp only; omega⟩

theorem place_dr {s : List Int} (hs : Code s) {k : Nat} {p : Int} (hk : 0 < k) (h0 : 0 ≤ p) (h1 : p ≤ 900000) : Dr (spec_l11Place.f k s p) (fun r => r.2.2) p 2 := by
  unfold spec_l11Place.f
  refine dr_bind (pick_dr hs hk (by omega) (by omega)) fun a ha ha' => ?_
  refine dr_bind (pick_dr hs hk (by omega) (by omega)) fun b hb hb' => ?_
  exact ⟨_, rfl, by dsimp only; omega, by dsimp only; omega⟩

theorem anyplace_dr {s : List Int} (hs : Code s) {k : Nat} {p : Int} (hk : 0 < k) (h0 : 0 ≤ p) (h1 : p ≤ 800000) : Dr (spec_l11AnyPlace.f k s p) (fun r => r.2.2) p 4 := by
  unfold spec_l11AnyPlace.f
  refine dr_bind (place_dr hs hk (by omega) (by omega)) fun a ha ha' => ?_
  refine dr_bind (pick_dr hs hk (by omega) (by omega)) fun b hb hb' => ?_
  refine dr_ite ?_ (dr_ite ?_ ?_)
  · refine dr_bind (one_dr hs hk (by omega) (by omega) (by simp)) fun c hc hc' => ?_
    exact ⟨_, rfl, by dsimp only; omega, by dsimp only; omega⟩
  · refine dr_bind (one_dr hs hk (by omega) (by omega) (by simp)) fun c hc hc' => ?_
    exact ⟨_, rfl, by dsimp only; omega, by dsimp only; omega⟩
  · exact ⟨_, rfl, by dsimp only; omega, by dsimp only; omega⟩

theorem drawtouch_dr {s : List Int} (hs : Code s) {k : Nat} {p q a b c d e f g h i j : Int} {t : Bool} (hk : 0 < k) (h0 : 0 ≤ p) (h1 : p ≤ 700000) : Dr (spec_DrawTouch.j0 (k + 1) q t s p a b c d e f g h i j) (fun _ => 0) 0 0 := by
  simp only [spec_DrawTouch.j0]
  refine dr_ite ?_ (dr_ite ?_ ?_)
  · refine dr_bind (pick_dr hs hk (by omega) (by omega)) fun r1 _ _ => ?_
    refine dr_bind (one_dr hs hk (by omega) (by omega) (by simp)) fun r2 _ _ => ?_
    refine dr_bind (pick_dr hs hk (by omega) (by omega)) fun r3 _ _ => ?_
    refine dr_bind (one_dr hs hk (by omega) (by omega) (by simp)) fun r4 _ _ => ?_
    exact ⟨_, rfl, by simp, by simp⟩
  · refine dr_bind (pick_dr hs hk (by omega) (by omega)) fun r1 _ _ => ?_
    refine dr_bind (pick_dr hs hk (by omega) (by omega)) fun r2 _ _ => ?_
    exact ⟨_, rfl, by simp, by simp⟩
  · exact ⟨_, rfl, by simp, by simp⟩
theorem spec_DrawTouch_some {l : List Int} (h : ∀ x ∈ l, (Lit.int .u8 x).wf = true) {k : Nat} (hk : 1 < k) : ∃ r, spec_DrawTouch.f k l = some r := by
  obtain ⟨k, rfl⟩ : ∃ m, k = m + 1 := ⟨k - 1, by omega⟩
  obtain ⟨s, es, hs⟩ := spec_l1Open_eq h
  suffices Dr (spec_DrawTouch.f (k + 1) l) (fun _ => 0) 0 0 by
    obtain ⟨r, e, _⟩ := this
    exact ⟨r, e⟩
  unfold spec_DrawTouch.f
  rw [es]
  simp only [Option.bind_some]
  refine dr_bind (anyshape_dr hs (by omega) (by omega) (by omega)) fun a ha ha' => ?_
  refine dr_bind (anyplace_dr hs (by omega) (by omega) (by omega)) fun b hb hb' => ?_
  refine dr_bind (anyshape_dr hs (by omega) (by omega) (by omega)) fun c hc hc' => ?_
  refine dr_bind (anyplace_dr hs (by omega) (by omega) (by omega)) fun d hd hd' => ?_
  refine dr_bind (pick_dr hs (by omega) (by omega) (by omega)) fun e he he' => ?_
  refine dr_ite ?_ ?_
  · exact drawtouch_dr hs (by omega) (by omega) (by omega)
  · exact drawtouch_dr hs (by omega) (by omega) (by omega)

theorem spec_l1In_eq (a l h : Int) : spec_l1In.f a l h = some (inB a l h) := by
  unfold spec_l1In.f inB
  split <;> simp <;> omega

theorem spec_ShapeOk_eq (k w h : Int) : spec_ShapeOk.f k w h = some (shapeOk k w h) := by
  unfold spec_ShapeOk.f shapeOk
  simp only [spec_l1In_eq, Option.bind_some]
  by_cases h1 : k = 1
  · rw [if_pos h1, if_pos h1]; cases inB w 1 25600 <;> simp
  · rw [if_neg h1, if_neg h1]
    by_cases h2 : k = 2
    · rw [if_pos h2, if_pos h2]; cases inB w 1 25600 <;> simp
    · rw [if_neg h2, if_neg h2]

theorem spec_l3Place_eq (a b : Int) : spec_l3Place.f a b = some (place a b) := by
  unfold spec_l3Place.f place
  simp only [spec_l1In_eq, Option.bind_some]
  cases inB a (-2560000) 2560000 <;> simp

theorem spec_FixClamp_eq (a : Int) : spec_FixClamp.f a = some (cl a) := by
  unfold spec_FixClamp.f cl
  split
  · rfl
  · split <;> rfl

theorem spec_l2Clamp_eq (a b : Int) : spec_l2Clamp.f a b = some (cl a, cl b) := by
  unfold spec_l2Clamp.f
  simp only [spec_FixClamp_eq, Option.bind_some]

theorem spec_l2Square_cl (a b : Int) : spec_l2Square.f (cl a) (cl b) = some (vsq a b) := by
  have ha := cl_bd a
  have hb := cl_bd b
  have := vsq_bd a b
  unfold spec_l2Square.f vsq at *
  rw [wrap_mul ha.1 ha.2 ha.1 ha.2, wrap_mul hb.1 hb.2 hb.1 hb.2, wrap_id (by omega) (by omega)]

theorem spec_l1Root_loop {n : Int} (hn : 0 ≤ n) : ∀ (d k : Nat) (a b : Int), d < k → 0 ≤ a → a < b → b ≤ 3000000000 → b - a ≤ 2 ^ d → a * a ≤ n → n < b * b →
    ∃ r, spec_l1Root.l1 k n a b = some r ∧ IsRoot n r := by
  intro d
  induction d with
  | zero =>
    intro k a b hk ha hab hb hd h1 h2
    obtain ⟨k, rfl⟩ : ∃ m, k = m + 1 := ⟨k - 1, by omega⟩
    obtain rfl : b = a + 1 := by simp at hd; omega
    exact ⟨a, by simp only [spec_l1Root.l1]; rw [wrap_id (by omega) (by omega), if_neg (by omega)], ha, h1, h2⟩
  | succ d ih =>
    intro k a b hk ha hab hb hd h1 h2
    obtain ⟨k, rfl⟩ : ∃ m, k = m + 1 := ⟨k - 1, by omega⟩
    by_cases hc : b - a > 1
    · have e : wrap64 (Int.tdiv (wrap64 (a + b)) 2) = (a + b) / 2 := by
        rw [wrap_id (n := a + b) (by omega) (by omega), Int.tdiv_eq_ediv_of_nonneg (by omega), wrap_id (by omega) (by omega)]
      have hp : (2 : Int) ^ (d + 1) = 2 * 2 ^ d := by rw [Int.pow_succ, Int.mul_comm]
      rw [hp] at hd
      obtain ⟨m, hm⟩ : ∃ m, m = (a + b) / 2 := ⟨_, rfl⟩
      rw [← hm] at e
      have hq : m * m ≤ 3000000000 * 3000000000 := mul_le_sq (by omega) (by omega)
      have hq0 := sq_nonneg m
      by_cases hle : m * m ≤ n
      · obtain ⟨r, hr, h⟩ := ih k m b (by omega) (by omega) (by omega) hb (by omega) hle h2
        refine ⟨r, ?_, h⟩
        simp only [spec_l1Root.l1]
        rw [wrap_id (n := b - a) (by omega) (by omega), if_pos hc, e, wrap_id (n := m * m) (by omega) (by omega), if_pos hle]
        exact hr
      · obtain ⟨r, hr, h⟩ := ih k a m (by omega) ha (by omega) (by omega) (by omega) h1 (by omega)
        refine ⟨r, ?_, h⟩
        simp only [spec_l1Root.l1]
        rw [wrap_id (n := b - a) (by omega) (by omega), if_pos hc, e, wrap_id (n := m * m) (by omega) (by omega), if_neg hle]
        exact hr
    · obtain rfl : b = a + 1 := by omega
      exact ⟨a, by simp only [spec_l1Root.l1]; rw [wrap_id (by omega) (by omega), if_neg (by omega)], ha, h1, h2⟩
theorem spec_l1Root_up {n : Int} (hn : 0 ≤ n) (hn' : n ≤ 2000000000000000000) : ∀ (d k : Nat) (h : Int), d + 34 < k → 1 ≤ h → h ≤ 2828427124 → 2147483648 ≤ h * 2 ^ d →
    ∃ r, spec_l1Root.l0 k n 0 h = some r ∧ IsRoot n r := by
  intro d
  have out : ∀ (k : Nat) (h : Int), 34 < k → 1 ≤ h → h ≤ 2828427124 → n < h * h → ∃ r, spec_l1Root.l0 k n 0 h = some r ∧ IsRoot n r := by
    intro k h hk h1 h2 h3
    obtain ⟨k, rfl⟩ : ∃ m, k = m + 1 := ⟨k - 1, by omega⟩
    obtain ⟨r, hr, hi⟩ := spec_l1Root_loop hn 32 k 0 h (by omega) (by omega) (by omega) (by omega) (by omega) (by omega) h3
    refine ⟨r, ?_, hi⟩
    have := mul_le_sq (a := h) (b := 2828427124) (by omega) h2
    have := sq_nonneg h
    simp only [spec_l1Root.l0]
    rw [wrap_id (by omega) (by omega), if_neg (by omega)]
    exact hr
  induction d with
  | zero =>
    intro k h hk h1 h2 h3
    have : 2147483648 * 2147483648 ≤ h * h := mul_le_sq (by omega) (by omega)
    exact out k h (by omega) h1 h2 (by omega)
  | succ d ih =>
    intro k h hk h1 h2 h3
    rcases Int.lt_or_le n (h * h) with hlt | hle
    · exact out k h (by omega) h1 h2 hlt
    · have hb : h ≤ 1414213562 := by
        rcases Int.lt_or_le 1414213562 h with hb | hb
        · have : 1414213563 * 1414213563 ≤ h * h := mul_le_sq (by omega) (by omega)
          omega
        · exact hb
      obtain ⟨k, rfl⟩ : ∃ m, k = m + 1 := ⟨k - 1, by omega⟩
      have hp : (2 : Int) ^ (d + 1) = 2 * 2 ^ d := by rw [Int.pow_succ, Int.mul_comm]
      rw [hp] at h3
      obtain ⟨r, hr, hi⟩ := ih k (2 * h) (by omega) (by omega) (by omega) (by rw [Int.mul_assoc, Int.mul_left_comm]; exact h3)
      refine ⟨r, ?_, hi⟩
      have := mul_le_sq (a := h) (b := 2828427124) (by omega) h2
      have := sq_nonneg h
      simp only [spec_l1Root.l0]
      rw [wrap_id (n := h * h) (by omega) (by omega), if_pos hle, wrap_id (by omega) (by omega)]
      exact hr
theorem spec_l1Root_eq {k : Nat} (hk : 65 < k) {n : Int} (hn : 0 ≤ n) (hn' : n ≤ 2000000000000000000) : spec_l1Root.f k n = some (rt n) := by
  obtain ⟨r, hr, h⟩ := spec_l1Root_up hn hn' 31 k 1 (by omega) (by omega) (by omega) (by decide)
  unfold spec_l1Root.f
  rw [hr, rt_eq h]

theorem spec_VecLen_eq {k : Nat} (hk : 65 < k) (a b : Int) : spec_VecLen.f k a b = some (vlen a b) := by
  have := vsq_bd a b
  unfold spec_VecLen.f vlen
  simp only [spec_l2Clamp_eq, spec_l2Square_cl, Option.bind_some]
  rw [spec_l1Root_eq hk (by omega) (by omega)]
  simp only [spec_FixClamp_eq, Option.bind_some]

theorem vlen_cl (a b : Int) : vlen (cl a) (cl b) = vlen a b := by unfold vlen vsq; rw [cl_cl, cl_cl]
theorem vlen_neg (a b : Int) : vlen (-a) (-b) = vlen a b := by unfold vlen vsq; rw [cl_neg, cl_neg, Int.neg_mul_neg, Int.neg_mul_neg]
/-- A way of the length 1. -/
def vunit (a b : Int) : Int × Int := if vlen a b = 0 then (0, 256) else (Int.tdiv (cl a * 256) (vlen a b), Int.tdiv (cl b * 256) (vlen a b))
theorem vunit_wrap (a b : Int) (h : vlen a b ≠ 0) : wrap64 (Int.tdiv (wrap64 (cl a * 256)) (vlen a b)) = Int.tdiv (cl a * 256) (vlen a b) := by
  have := cl_bd a
  have := vlen_bd a b
  have := td_bd (a := cl a * 256) (m := 256000000000) (by omega) (by omega) (vlen a b) (by omega)
  rw [wrap_id (n := cl a * 256) (by omega) (by omega), wrap_id (by omega) (by omega)]
theorem vunit_wrap' (a b : Int) (h : vlen a b ≠ 0) : wrap64 (Int.tdiv (wrap64 (cl b * 256)) (vlen a b)) = Int.tdiv (cl b * 256) (vlen a b) := by
  have := cl_bd b
  have := vlen_bd a b
  have := td_bd (a := cl b * 256) (m := 256000000000) (by omega) (by omega) (vlen a b) (by omega)
  rw [wrap_id (n := cl b * 256) (by omega) (by omega), wrap_id (by omega) (by omega)]

theorem spec_VecUnit_eq {k : Nat} (hk : 65 < k) (a b : Int) : spec_VecUnit.f k a b = some (vunit a b) := by
  unfold spec_VecUnit.f vunit
  simp only [spec_l2Clamp_eq, Option.bind_some, spec_VecLen_eq hk, vlen_cl]
  split
  · rfl
  · rename_i h
    rw [vunit_wrap a b h, vunit_wrap' a b h]

/-- How two round shapes touch. -/
def rnds (a b c d w : Int) : Int × Int × Int × Bool :=
  if wrap64 (wrap64 (wrap64 (c - a) * wrap64 (c - a)) + wrap64 (wrap64 (d - b) * wrap64 (d - b))) > wrap64 (w * w) then (0, 0, 0, false)
  else ((vunit (wrap64 (c - a)) (wrap64 (d - b))).1, (vunit (wrap64 (c - a)) (wrap64 (d - b))).2, wrap64 (w - vlen (wrap64 (c - a)) (wrap64 (d - b))), true)

theorem spec_l5Rounds_eq {k : Nat} (hk : 65 < k) (a b c d w : Int) : spec_l5Rounds.f k a b c d w = some (rnds a b c d w) := by
  unfold spec_l5Rounds.f rnds spec_l2Square.f
  simp only [Option.bind_some]
  split
  · rfl
  · simp only [spec_VecUnit_eq hk, spec_VecLen_eq hk, Option.bind_some]

theorem spec_l3Meets_eq (a b c d e f g h : Int) : spec_l3Meets.f a b c d e f g h = some (meets a b c d e f g h) := by
  unfold spec_l3Meets.f meets
  by_cases h1 : a ≤ g <;> by_cases h2 : e ≤ c <;> by_cases h3 : b ≤ h <;> simp [h1, h2, h3]

/-- The side on which two boxes are least in each other. -/
def least (r l u n : Int) : Int × Int × Int × Bool :=
  if l < r then (if u < l then (if n < u then (0, -256, n, true) else (0, 256, u, true)) else (if n < l then (0, -256, n, true) else (-256, 0, l, true)))
  else (if u < r then (if n < u then (0, -256, n, true) else (0, 256, u, true)) else (if n < r then (0, -256, n, true) else (256, 0, r, true)))
/-- How two boxes touch. -/
def bxs (a b c d e f g h : Int) : Int × Int × Int × Bool :=
  if meets a b c d e f g h = true then least (wrap64 (c - e)) (wrap64 (g - a)) (wrap64 (d - f)) (wrap64 (h - b)) else (0, 0, 0, false)

theorem spec_l5Boxes_eq {k : Nat} (hk : 0 < k) (a b c d e f g h : Int) : spec_l5Boxes.f k a b c d e f g h = some (bxs a b c d e f g h) := by
  obtain ⟨k, rfl⟩ : ∃ m, k = m + 1 := ⟨k - 1, by omega⟩
  unfold spec_l5Boxes.f bxs least
  simp only [spec_l3Meets_eq, Option.bind_some, spec_l5Boxes.j0]
  split
  · split
    · split
      · split <;> rfl
      · split <;> rfl
    · split
      · split <;> rfl
      · split <;> rfl
  · rfl

theorem spec_l3Point_eq (a b c d x y : Int) : spec_l3Point.f a b c d x y = some (point a b c d x y) := by
  unfold spec_l3Point.f point
  simp only [spec_l1In_eq, Option.bind_some]
  cases inB x a c <;> simp

theorem spec_l3Less_eq (a b : Int) : spec_l3Less.f a b = some (min a b) := by
  unfold spec_l3Less.f; split <;> simp <;> omega

theorem spec_l3More_eq (a b : Int) : spec_l3More.f a b = some (max a b) := by
  unfold spec_l3More.f; split <;> simp <;> omega

theorem spec_l3Near_eq (a b c d x y : Int) : spec_l3Near.f a b c d x y = some (min (max x a) c, min (max y b) d) := by
  unfold spec_l3Near.f
  simp only [spec_l3Less_eq, spec_l3More_eq, Option.bind_some]

/-- How a box and something round touch. -/
def mxd (a b c d x y w : Int) : Int × Int × Int × Bool :=
  if point a b c d x y = true then ((bxs a b c d x y x y).1, (bxs a b c d x y x y).2.1, wrap64 ((bxs a b c d x y x y).2.2.1 + w), (bxs a b c d x y x y).2.2.2)
  else rnds (min (max x a) c) (min (max y b) d) x y w

theorem spec_l5Mixed_eq {k : Nat} (hk : 65 < k) (a b c d x y w : Int) : spec_l5Mixed.f k a b c d x y w = some (mxd a b c d x y w) := by
  unfold spec_l5Mixed.f mxd
  simp only [spec_l3Point_eq, Option.bind_some, spec_l5Boxes_eq (show 0 < k by omega), spec_l3Near_eq, spec_l5Rounds_eq hk]
  split <;> rfl

/-- The bounds of a shape at a place. -/
def bnd (k w h x y : Int) : Int × Int × Int × Int := (wrap64 (x - w), wrap64 (y - (if k = 1 then w else h)), wrap64 (x + w), wrap64 (y + (if k = 1 then w else h)))

theorem spec_l3Bounds_eq (k w h x y : Int) : spec_l3Bounds.f k w h x y = some (bnd k w h x y) := by
  unfold spec_l3Bounds.f bnd
  split <;> rfl

/-- How two shapes touch. -/
def tch (k w h x y k' w' h' x' y' : Int) : Int × Int × Int × Bool :=
  if k = 1 ∧ k' = 1 then rnds x y x' y' (wrap64 (w + w'))
  else if k = 2 ∧ k' = 2 then bxs (bnd k w h x y).1 (bnd k w h x y).2.1 (bnd k w h x y).2.2.1 (bnd k w h x y).2.2.2 (bnd k' w' h' x' y').1 (bnd k' w' h' x' y').2.1 (bnd k' w' h' x' y').2.2.1 (bnd k' w' h' x' y').2.2.2
  else if k = 2 then mxd (bnd k w h x y).1 (bnd k w h x y).2.1 (bnd k w h x y).2.2.1 (bnd k w h x y).2.2.2 x' y' w'
  else if (mxd (bnd k' w' h' x' y').1 (bnd k' w' h' x' y').2.1 (bnd k' w' h' x' y').2.2.1 (bnd k' w' h' x' y').2.2.2 x y w).2.2.2 = true then
    (wrap64 (-(mxd (bnd k' w' h' x' y').1 (bnd k' w' h' x' y').2.1 (bnd k' w' h' x' y').2.2.1 (bnd k' w' h' x' y').2.2.2 x y w).1),
      wrap64 (-(mxd (bnd k' w' h' x' y').1 (bnd k' w' h' x' y').2.1 (bnd k' w' h' x' y').2.2.1 (bnd k' w' h' x' y').2.2.2 x y w).2.1),
      (mxd (bnd k' w' h' x' y').1 (bnd k' w' h' x' y').2.1 (bnd k' w' h' x' y').2.2.1 (bnd k' w' h' x' y').2.2.2 x y w).2.2.1, true)
  else (0, 0, 0, false)

theorem spec_l5Touch_eq {k : Nat} (hk : 67 < k) (s w h x y s' w' h' x' y' : Int) : spec_l5Touch.f k s w h x y s' w' h' x' y' = some (tch s w h x y s' w' h' x' y') := by
  obtain ⟨k, rfl⟩ : ∃ m, k = m + 1 + 1 := ⟨k - 2, by omega⟩
  unfold spec_l5Touch.f tch
  simp only [spec_l5Touch.j0, spec_l5Touch.j1, spec_l5Rounds_eq (show 65 < k + 1 by omega), spec_l3Bounds_eq, spec_l5Boxes_eq (show 0 < k by omega), spec_l5Mixed_eq (show 65 < k by omega), Option.bind_some, spec_l5Turn.f]
  by_cases h1 : s = 1
  · subst h1
    by_cases h2 : s' = 1
    · subst h2
      simp
    · simp [h2]
      split <;> rfl
  · by_cases h3 : s = 2
    · subst h3
      by_cases h4 : s' = 2
      · subst h4
        simp
      · simp [h4]
    · simp [h1, h3]
      split <;> rfl

/-- Touch, of what is ok. -/
def tok (s w h x y s' w' h' x' y' : Int) : Int × Int × Int × Bool :=
  if shapeOk s w h && (shapeOk s' w' h' && (place x y && place x' y')) then tch s w h x y s' w' h' x' y' else (0, 0, 0, false)

theorem spec_Touch_eq {k : Nat} (hk : 67 < k) (s w h x y s' w' h' x' y' : Int) : spec_Touch.f k s w h x y s' w' h' x' y' = some (tok s w h x y s' w' h' x' y') := by
  unfold spec_Touch.f tok
  simp only [spec_ShapeOk_eq, spec_l3Place_eq, spec_l5Touch_eq hk, Option.bind_some]
  cases h1 : shapeOk s w h <;> cases h2 : shapeOk s' w' h' <;> cases h3 : place x y <;> cases h4 : place x' y' <;> simp

theorem mxd_no {a b c d x y w : Int} (h : (mxd a b c d x y w).2.2.2 = false) : mxd a b c d x y w = (0, 0, 0, false) := by
  unfold mxd at h ⊢
  split at h
  · rename_i hp
    exfalso
    have hm : meets a b c d x y x y = true := by
      simp [point, inB, meets] at hp ⊢
      omega
    unfold bxs at h
    rw [if_pos hm] at h
    unfold least at h
    revert h
    split <;> split <;> split <;> simp
  · rename_i hp
    rw [if_neg hp]
    unfold rnds at h ⊢
    split at h
    · rename_i hc
      rw [if_pos hc]
    · cases h

theorem impl_in_eq (a l h : Int) : impl_in.f a l h = some (inB a l h) := by
  unfold impl_in.f inB
  split <;> simp <;> omega

theorem impl_ShapeOk_eq (k w h : Int) : impl_ShapeOk.f k w h = some (shapeOk k w h) := by
  unfold impl_ShapeOk.f shapeOk
  simp only [impl_in_eq, Option.bind_some]
  by_cases h1 : k = 1
  · rw [if_pos h1, if_pos h1]; cases inB w 1 25600 <;> simp
  · rw [if_neg h1, if_neg h1]
    by_cases h2 : k = 2
    · rw [if_pos h2, if_pos h2]; cases inB w 1 25600 <;> simp
    · rw [if_neg h2, if_neg h2]

theorem impl_isPlace_eq (a b : Int) : impl_isPlace.f a b = some (place a b) := by
  unfold impl_isPlace.f place
  simp only [impl_in_eq, Option.bind_some]
  cases inB a (-2560000) 2560000 <;> simp

theorem impl_Vec_minus_eq (a b c d : Int) : impl_Vec_minus.f a b c d = some (wrap64 (a - c), wrap64 (b - d)) := rfl

theorem impl_within_eq {a m : Int} (h0 : 0 ≤ m) (h1 : m ≤ 1000000000000) : impl_within.f a m = some (wi a m) := by
  unfold impl_within.f wi
  rw [wrap_id (by omega) (by omega), mx_eq, mn_eq]

theorem impl_Vec_clamped_eq {a b m : Int} (h0 : 0 ≤ m) (h1 : m ≤ 1000000000000) : impl_Vec_clamped.f a b m = some (wi a m, wi b m) := by
  unfold impl_Vec_clamped.f
  simp only [impl_within_eq h0 h1, Option.bind_some]
theorem impl_Vec_clamped_cl (a b : Int) : impl_Vec_clamped.f a b 1000000000 = some (cl a, cl b) := by
  rw [impl_Vec_clamped_eq (by omega) (by omega), wi_cl, wi_cl]

theorem impl_Vec_square_cl (a b : Int) : impl_Vec_square.f (cl a) (cl b) = some (vsq a b) := by
  have ha := cl_bd a
  have hb := cl_bd b
  have := vsq_bd a b
  unfold impl_Vec_square.f vsq at *
  rw [wrap_mul ha.1 ha.2 ha.1 ha.2, wrap_mul hb.1 hb.2 hb.1 hb.2, wrap_id (by omega) (by omega)]

theorem impl_root_loop {n : Int} (hn : 0 ≤ n) : ∀ (d k : Nat) (a b : Int), d < k → 0 ≤ a → a < b → b ≤ 3000000000 → b - a ≤ 2 ^ d → a * a ≤ n → n < b * b →
    ∃ r, impl_root.l0 k n a b = some r ∧ IsRoot n r := by
  intro d
  induction d with
  | zero =>
    intro k a b hk ha hab hb hd h1 h2
    obtain ⟨k, rfl⟩ : ∃ m, k = m + 1 := ⟨k - 1, by omega⟩
    obtain rfl : b = a + 1 := by simp at hd; omega
    exact ⟨a, by simp only [impl_root.l0]; rw [wrap_id (by omega) (by omega), if_neg (by omega)], ha, h1, h2⟩
  | succ d ih =>
    intro k a b hk ha hab hb hd h1 h2
    obtain ⟨k, rfl⟩ : ∃ m, k = m + 1 := ⟨k - 1, by omega⟩
    by_cases hc : b - a > 1
    · have e : wrap64 (Int.tdiv (wrap64 (a + b)) 2) = (a + b) / 2 := by
        rw [wrap_id (n := a + b) (by omega) (by omega), Int.tdiv_eq_ediv_of_nonneg (by omega), wrap_id (by omega) (by omega)]
      have hp : (2 : Int) ^ (d + 1) = 2 * 2 ^ d := by rw [Int.pow_succ, Int.mul_comm]
      rw [hp] at hd
      obtain ⟨m, hm⟩ : ∃ m, m = (a + b) / 2 := ⟨_, rfl⟩
      rw [← hm] at e
      have hq : m * m ≤ 3000000000 * 3000000000 := mul_le_sq (by omega) (by omega)
      have hq0 := sq_nonneg m
      by_cases hle : m * m ≤ n
      · obtain ⟨r, hr, h⟩ := ih k m b (by omega) (by omega) (by omega) hb (by omega) hle h2
        refine ⟨r, ?_, h⟩
        simp only [impl_root.l0]
        rw [wrap_id (n := b - a) (by omega) (by omega), if_pos hc, e, wrap_id (n := m * m) (by omega) (by omega), if_pos hle]
        exact hr
      · obtain ⟨r, hr, h⟩ := ih k a m (by omega) ha (by omega) (by omega) (by omega) h1 (by omega)
        refine ⟨r, ?_, h⟩
        simp only [impl_root.l0]
        rw [wrap_id (n := b - a) (by omega) (by omega), if_pos hc, e, wrap_id (n := m * m) (by omega) (by omega), if_neg hle]
        exact hr
    · obtain rfl : b = a + 1 := by omega
      exact ⟨a, by simp only [impl_root.l0]; rw [wrap_id (by omega) (by omega), if_neg (by omega)], ha, h1, h2⟩
theorem impl_root_eq {k : Nat} (hk : 32 < k) {n : Int} (hn : 0 ≤ n) (hn' : n ≤ 2000000000000000000) : impl_root.f k n = some (rt n) := by
  obtain ⟨r, hr, h⟩ := impl_root_loop hn 32 k 0 2147483648 hk (by omega) (by omega) (by omega) (by decide) (by omega) (by omega)
  unfold impl_root.f
  rw [hr, rt_eq h]

theorem impl_FixClamp_eq (a : Int) : impl_FixClamp.f a = some (cl a) := by
  unfold impl_FixClamp.f
  rw [impl_within_eq (by omega) (by omega), wi_cl]; rfl

theorem impl_VecLen_eq {k : Nat} (hk : 65 < k) (a b : Int) : impl_VecLen.f k a b = some (vlen a b) := by
  have := vsq_bd a b
  unfold impl_VecLen.f vlen
  simp only [impl_Vec_clamped_cl, impl_Vec_square_cl, Option.bind_some]
  rw [impl_root_eq (by omega) (by omega) (by omega)]
  simp only [impl_FixClamp_eq, Option.bind_some]

theorem impl_VecUnit_eq {k : Nat} (hk : 65 < k) (a b : Int) : impl_VecUnit.f k a b = some (vunit a b) := by
  unfold impl_VecUnit.f vunit
  simp only [impl_Vec_clamped_cl, Option.bind_some, impl_VecLen_eq hk, vlen_cl]
  split
  · rfl
  · rename_i h
    rw [vunit_wrap a b h, vunit_wrap' a b h]

theorem impl_rounds_eq {k : Nat} (hk : 65 < k) (a b w c d v : Int) : impl_rounds.f k a b w c d v = some (rnds a b c d (wrap64 (w + v))) := by
  unfold impl_rounds.f rnds impl_Vec_square.f
  simp only [impl_Vec_minus_eq, Option.bind_some]
  split
  · rfl
  · simp only [impl_VecUnit_eq hk, impl_VecLen_eq hk, Option.bind_some]

theorem impl_Box_meets_eq (a b c d e f g h : Int) : impl_Box_meets.f a b c d e f g h = some (meets a b c d e f g h) := by
  unfold impl_Box_meets.f meets
  by_cases h1 : a ≤ g <;> by_cases h2 : e ≤ c <;> by_cases h3 : b ≤ h <;> simp [h1, h2, h3]

theorem impl_boxes_eq {k : Nat} (hk : 3 < k) (a b c d e f g h : Int) : impl_boxes.f k a b c d e f g h = some (bxs a b c d e f g h) := by
  obtain ⟨k, rfl⟩ : ∃ m, k = m + 1 + 1 + 1 + 1 := ⟨k - 4, by omega⟩
  unfold impl_boxes.f bxs least
  simp only [impl_Box_meets_eq, Option.bind_some]
  generalize wrap64 (c - e) = r
  generalize wrap64 (g - a) = l
  generalize wrap64 (d - f) = u
  generalize wrap64 (h - b) = n
  have w1 : wrap64 1 = 1 := wrap_id (by decide) (by decide)
  have w2 : wrap64 2 = 2 := wrap_id (by decide) (by decide)
  have w3 : wrap64 3 = 3 := wrap_id (by decide) (by decide)
  by_cases hm : meets a b c d e f g h = true
  · rw [if_pos hm, if_pos hm]
    by_cases h1 : l < r
    · rw [if_pos h1]
      by_cases h2 : u < l
      · by_cases h3 : n < u <;> simp [impl_boxes.l0, rd_T56, w1, w2, w3, h1, h2, h3]
      · by_cases h3 : n < l <;> simp [impl_boxes.l0, rd_T56, w1, w2, w3, h1, h2, h3]
    · rw [if_neg h1]
      by_cases h2 : u < r
      · by_cases h3 : n < u <;> simp [impl_boxes.l0, rd_T56, w1, w2, w3, h1, h2, h3]
      · by_cases h3 : n < r <;> simp [impl_boxes.l0, rd_T56, w1, w2, w3, h1, h2, h3]
  · rw [if_neg hm, if_neg hm]

theorem impl_Box_has_eq (a b c d x y : Int) : impl_Box_has.f a b c d x y = some (point a b c d x y) := by
  unfold impl_Box_has.f point
  simp only [impl_in_eq, Option.bind_some]
  cases inB x a c <;> simp

theorem impl_Box_near_eq (a b c d x y : Int) : impl_Box_near.f a b c d x y = some (max a (min x c), max b (min y d)) := by
  unfold impl_Box_near.f
  simp only [mx_eq, mn_eq]

theorem impl_boxRound_eq {k : Nat} (hk : 65 < k) {a b c d x y w : Int} (h1 : a ≤ c) (h2 : b ≤ d) (hw : 0 ≤ w) (hw' : w ≤ 1000000000) : impl_boxRound.f k a b c d x y w = some (mxd a b c d x y w) := by
  unfold impl_boxRound.f mxd
  simp only [impl_Box_has_eq, Option.bind_some, impl_boxes_eq (show 3 < k by omega), impl_Box_near_eq, impl_rounds_eq hk]
  split
  · rfl
  · rw [wrap_id (n := 0 + w) (by omega) (by omega), Int.zero_add, show max a (min x c) = min (max x a) c by omega, show max b (min y d) = min (max y b) d by omega]

theorem impl_Vec_plus_eq (a b c d : Int) : impl_Vec_plus.f a b c d = some (wrap64 (a + c), wrap64 (b + d)) := rfl

theorem impl_Shape_bounds_eq (k w h x y : Int) : impl_Shape_bounds.f k w h x y = some (bnd k w h x y) := by
  unfold impl_Shape_bounds.f bnd
  simp only [impl_Vec_minus_eq, impl_Vec_plus_eq, Option.bind_some]
  split <;> rfl

theorem impl_Vec_opposite_eq (a b : Int) : impl_Vec_opposite.f a b = some (wrap64 (-a), wrap64 (-b)) := rfl

theorem bnd_ok {k w h x y : Int} (hs : shapeOk k w h = true) (hp : place x y = true) :
    bnd k w h x y = (x - w, y - (if k = 1 then w else h), x + w, y + (if k = 1 then w else h)) ∧ (1 ≤ w ∧ w ≤ 25600) ∧ (1 ≤ (if k = 1 then w else h) ∧ (if k = 1 then w else h) ≤ 25600) ∧ (-2560000 ≤ x ∧ x ≤ 2560000) ∧ (-2560000 ≤ y ∧ y ≤ 2560000) ∧ (k = 1 ∨ k = 2) := by
  simp only [place, Bool.and_eq_true, inB_iff] at hp
  unfold shapeOk at hs
  by_cases h1 : k = 1
  · rw [if_pos h1] at hs
    simp only [Bool.and_eq_true, inB_iff] at hs
    unfold bnd
    rw [if_pos h1, wrap_id (by omega) (by omega), wrap_id (by omega) (by omega), wrap_id (by omega) (by omega), wrap_id (by omega) (by omega)]
    exact ⟨rfl, hs.1, hs.1, hp.1, hp.2, .inl h1⟩
  · rw [if_neg h1] at hs
    by_cases h2 : k = 2
    · rw [if_pos h2] at hs
      simp only [Bool.and_eq_true, inB_iff] at hs
      unfold bnd
      rw [if_neg h1, wrap_id (by omega) (by omega), wrap_id (by omega) (by omega), wrap_id (by omega) (by omega), wrap_id (by omega) (by omega)]
      exact ⟨rfl, hs.1, hs.2, hp.1, hp.2, .inr h2⟩
    · rw [if_neg h2] at hs
      cases hs

theorem impl_Touch_eq {k : Nat} (hk : 70 < k) (s w h x y s' w' h' x' y' : Int) : impl_Touch.f k s w h x y s' w' h' x' y' = some (tok s w h x y s' w' h' x' y') := by
  obtain ⟨k, rfl⟩ : ∃ m, k = m + 1 + 1 + 1 := ⟨k - 3, by omega⟩
  unfold impl_Touch.f tok
  simp only [impl_ShapeOk_eq, impl_isPlace_eq, Option.bind_some, impl_Touch.j0]
  cases hs : shapeOk s w h
  · simp
  cases hs' : shapeOk s' w' h'
  · simp
  cases hp : place x y
  · simp
  cases hp' : place x' y'
  · simp
  obtain ⟨e1, w1, v1, _, _, k1⟩ := bnd_ok hs hp
  obtain ⟨e2, w2, v2, _, _, k2⟩ := bnd_ok hs' hp'
  simp only [Bool.not_true, Bool.and_self, if_true, Bool.false_eq_true, if_false]
  unfold tch
  simp only [impl_Touch.j1, impl_Touch.j2, impl_rounds_eq (show 65 < k + 1 by omega), impl_Shape_bounds_eq, impl_boxes_eq (show 3 < k by omega), Option.bind_some, impl_Vec_opposite_eq]
  rcases k1 with rfl | rfl
  · rcases k2 with rfl | rfl
    · simp
    · rw [e2]
      simp only [impl_boxRound_eq (show 65 < k by omega) (show x' - w' ≤ x' + w' by omega) (show y' - (if (2 : Int) = 1 then w' else h') ≤ y' + (if (2 : Int) = 1 then w' else h') by omega) (show 0 ≤ w by omega) (show w ≤ 1000000000 by omega), Option.bind_some]
      cases hm : (mxd (x' - w') (y' - (if (2 : Int) = 1 then w' else h')) (x' + w') (y' + (if (2 : Int) = 1 then w' else h')) x y w).2.2.2
      · rw [mxd_no hm]
        simp
        exact wrap_id (by omega) (by omega)
      · simp at hm ⊢
  · rcases k2 with rfl | rfl
    · rw [e1]
      simp only [impl_boxRound_eq (show 65 < k by omega) (show x - w ≤ x + w by omega) (show y - (if (2 : Int) = 1 then w else h) ≤ y + (if (2 : Int) = 1 then w else h) by omega) (show 0 ≤ w' by omega) (show w' ≤ 1000000000 by omega), Option.bind_some]
      simp
    · simp

theorem rnds_small {a b c d w : Int} (ha : -3000000 ≤ a ∧ a ≤ 3000000) (hb : -3000000 ≤ b ∧ b ≤ 3000000) (hc : -3000000 ≤ c ∧ c ≤ 3000000) (hd : -3000000 ≤ d ∧ d ≤ 3000000) (hw : 0 ≤ w ∧ w ≤ 100000) :
    ((c - a) * (c - a) + (d - b) * (d - b) > w * w ∧ rnds a b c d w = (0, 0, 0, false)) ∨
    ((c - a) * (c - a) + (d - b) * (d - b) ≤ w * w ∧ ∃ L, IsRoot ((c - a) * (c - a) + (d - b) * (d - b)) L ∧ L ≤ w ∧ rnds a b c d w = (if L = 0 then 0 else Int.tdiv ((c - a) * 256) L, if L = 0 then 256 else Int.tdiv ((d - b) * 256) L, w - L, true)) := by
  have e1 : wrap64 (c - a) = c - a := wrap_id (by omega) (by omega)
  have e2 : wrap64 (d - b) = d - b := wrap_id (by omega) (by omega)
  have c1 : cl (c - a) = c - a := cl_in (by omega) (by omega)
  have c2 : cl (d - b) = d - b := cl_in (by omega) (by omega)
  unfold rnds
  rw [e1, e2]
  obtain ⟨x, hx⟩ : ∃ x, x = c - a := ⟨_, rfl⟩
  obtain ⟨y, hy⟩ : ∃ y, y = d - b := ⟨_, rfl⟩
  rw [← hx] at c1
  rw [← hy] at c2
  rw [← hx, ← hy]
  have s1 := sq_le_of (a := x) (m := 6000000) (by omega) (by omega)
  have s2 := sq_le_of (a := y) (m := 6000000) (by omega) (by omega)
  have s3 := sq_le_of (a := w) (m := 100000) (by omega) (by omega)
  have s4 := sq_nonneg x
  have s5 := sq_nonneg y
  have s6 := sq_nonneg w
  rw [wrap_id (n := x * x) (by omega) (by omega), wrap_id (n := y * y) (by omega) (by omega), wrap_id (n := w * w) (by omega) (by omega), wrap_id (n := x * x + y * y) (by omega) (by omega)]
  by_cases hgt : x * x + y * y > w * w
  · exact .inl ⟨hgt, by rw [if_pos hgt]⟩
  · right
    refine ⟨by omega, ?_⟩
    have hv : vsq x y = x * x + y * y := by unfold vsq; rw [c1, c2]
    have hr := rt_is (n := x * x + y * y) (by omega)
    have hl : rt (x * x + y * y) ≤ w := by
      have := hr.2.1
      rcases Int.lt_or_le w (rt (x * x + y * y)) with hlt | hle
      · have g := mul_le_sq (show 0 ≤ w + 1 by omega) (show w + 1 ≤ rt (x * x + y * y) by omega)
        have e : (w + 1) * (w + 1) = w * w + 2 * w + 1 := by grind
        omega
      · exact hle
    have hvl : vlen x y = rt (x * x + y * y) := by
      unfold vlen
      rw [hv]
      exact cl_in (by have := hr.1; omega) (by omega)
    refine ⟨rt (x * x + y * y), hr, hl, ?_⟩
    rw [if_neg hgt]
    unfold vunit
    rw [hvl, c1, c2]
    have h0 := hr.1
    rw [wrap_id (n := w - rt (x * x + y * y)) (by omega) (by omega)]
    split <;> rfl
/-- A way made as long as 1, in its numbers without signs. -/
theorem tdiv_abs {x L : Int} (hL : 0 < L) : ∃ p : Int, 0 ≤ p ∧ (∃ X : Int, 0 ≤ X ∧ X * X = x * x ∧ p * L ≤ X * 256 ∧ X * 256 < p * L + L) ∧ Int.tdiv (x * 256) L * Int.tdiv (x * 256) L = p * p := by
  rcases Int.le_total 0 x with h | h
  · obtain ⟨h0, h1, h2⟩ := td_pos hL (a := x * 256) (by omega)
    exact ⟨_, h0, ⟨x, h, rfl, h1, h2⟩, rfl⟩
  · obtain ⟨h0, h1, h2⟩ := td_pos hL (a := -x * 256) (by omega)
    refine ⟨_, h0, ⟨-x, by omega, Int.neg_mul_neg x x, h1, h2⟩, ?_⟩
    rw [Int.neg_mul, Int.neg_tdiv, Int.neg_mul_neg]
theorem rnds_way {x y L : Int} (hr : IsRoot (x * x + y * y) L) :
    64009 ≤ (if L = 0 then 0 else Int.tdiv (x * 256) L) * (if L = 0 then 0 else Int.tdiv (x * 256) L) + (if L = 0 then 256 else Int.tdiv (y * 256) L) * (if L = 0 then 256 else Int.tdiv (y * 256) L) ∧
    (if L = 0 then 0 else Int.tdiv (x * 256) L) * (if L = 0 then 0 else Int.tdiv (x * 256) L) + (if L = 0 then 256 else Int.tdiv (y * 256) L) * (if L = 0 then 256 else Int.tdiv (y * 256) L) ≤ 131072 := by
  by_cases h0 : L = 0
  · simp [h0]
  · simp only [if_neg h0]
    have hL : 1 ≤ L := by have := hr.1; omega
    obtain ⟨p, hp, ⟨X, hX, eX, p1, p2⟩, ep⟩ := tdiv_abs (x := x) (L := L) (by omega)
    obtain ⟨q, hq, ⟨Y, hY, eY, q1, q2⟩, eq⟩ := tdiv_abs (x := y) (L := L) (by omega)
    rw [ep, eq]
    rw [← eX, ← eY] at hr
    exact unit_sq1 hL hr hX hY p1 p2 q1 q2 hp hq

theorem bxs_small {a b c d e f g h : Int} (ha : -3000000 ≤ a ∧ a ≤ 3000000) (hb : -3000000 ≤ b ∧ b ≤ 3000000) (hc : -3000000 ≤ c ∧ c ≤ 3000000) (hd : -3000000 ≤ d ∧ d ≤ 3000000)
    (he : -3000000 ≤ e ∧ e ≤ 3000000) (hf : -3000000 ≤ f ∧ f ≤ 3000000) (hg : -3000000 ≤ g ∧ g ≤ 3000000) (hh : -3000000 ≤ h ∧ h ≤ 3000000) :
    (¬ (a ≤ g ∧ e ≤ c ∧ b ≤ h ∧ f ≤ d) ∧ bxs a b c d e f g h = (0, 0, 0, false)) ∨
    ((a ≤ g ∧ e ≤ c ∧ b ≤ h ∧ f ≤ d) ∧ ∃ n, n ≤ c - e ∧ n ≤ g - a ∧ n ≤ d - f ∧ n ≤ h - b ∧
      ((n = c - e ∧ bxs a b c d e f g h = (256, 0, n, true)) ∨ (n = g - a ∧ bxs a b c d e f g h = (-256, 0, n, true)) ∨ (n = d - f ∧ bxs a b c d e f g h = (0, 256, n, true)) ∨ (n = h - b ∧ bxs a b c d e f g h = (0, -256, n, true)))) := by
  unfold bxs
  rw [wrap_id (n := c - e) (by omega) (by omega), wrap_id (n := g - a) (by omega) (by omega), wrap_id (n := d - f) (by omega) (by omega), wrap_id (n := h - b) (by omega) (by omega)]
  have hm : meets a b c d e f g h = true ↔ (a ≤ g ∧ e ≤ c ∧ b ≤ h ∧ f ≤ d) := by simp [meets]
  by_cases h0 : meets a b c d e f g h = true
  · right
    rw [if_pos h0]
    refine ⟨hm.1 h0, ?_⟩
    unfold least
    split
    · split
      · split
        · exact ⟨_, by omega, by omega, by omega, by omega, .inr (.inr (.inr ⟨rfl, rfl⟩))⟩
        · exact ⟨_, by omega, by omega, by omega, by omega, .inr (.inr (.inl ⟨rfl, rfl⟩))⟩
      · split
        · exact ⟨_, by omega, by omega, by omega, by omega, .inr (.inr (.inr ⟨rfl, rfl⟩))⟩
        · exact ⟨_, by omega, by omega, by omega, by omega, .inr (.inl ⟨rfl, rfl⟩)⟩
    · split
      · split
        · exact ⟨_, by omega, by omega, by omega, by omega, .inr (.inr (.inr ⟨rfl, rfl⟩))⟩
        · exact ⟨_, by omega, by omega, by omega, by omega, .inr (.inr (.inl ⟨rfl, rfl⟩))⟩
      · split
        · exact ⟨_, by omega, by omega, by omega, by omega, .inr (.inr (.inr ⟨rfl, rfl⟩))⟩
        · exact ⟨_, by omega, by omega, by omega, by omega, .inl ⟨rfl, rfl⟩⟩
  · left
    rw [if_neg h0]
    exact ⟨fun h => h0 (hm.2 h), rfl⟩
theorem bxs_way {a b c d e f g h n : Int} (hs : (n = c - e ∧ bxs a b c d e f g h = (256, 0, n, true)) ∨ (n = g - a ∧ bxs a b c d e f g h = (-256, 0, n, true)) ∨ (n = d - f ∧ bxs a b c d e f g h = (0, 256, n, true)) ∨ (n = h - b ∧ bxs a b c d e f g h = (0, -256, n, true))) :
    (bxs a b c d e f g h).1 * (bxs a b c d e f g h).1 + (bxs a b c d e f g h).2.1 * (bxs a b c d e f g h).2.1 = 65536 ∧ (bxs a b c d e f g h).2.2 = (n, true) := by
  rcases hs with ⟨_, h⟩ | ⟨_, h⟩ | ⟨_, h⟩ | ⟨_, h⟩ <;> rw [h] <;> exact ⟨by simp, rfl⟩

theorem mxd_small {a b c d x y w : Int} (ha : -2600000 ≤ a) (hb : -2600000 ≤ b) (hac : a ≤ c) (hbd : b ≤ d) (hc : c ≤ 2600000) (hd : d ≤ 2600000) (hx : -2600000 ≤ x ∧ x ≤ 2600000) (hy : -2600000 ≤ y ∧ y ≤ 2600000) (hw : 0 ≤ w ∧ w ≤ 100000) :
    (¬ (a ≤ x ∧ x ≤ c ∧ b ≤ y ∧ y ≤ d) ∧ (x - min (max x a) c) * (x - min (max x a) c) + (y - min (max y b) d) * (y - min (max y b) d) > w * w ∧ mxd a b c d x y w = (0, 0, 0, false)) ∨
    ((a ≤ x ∧ x ≤ c ∧ b ≤ y ∧ y ≤ d) ∧ ∃ n, n ≤ c - x ∧ n ≤ x - a ∧ n ≤ d - y ∧ n ≤ y - b ∧
      ((n = c - x ∧ mxd a b c d x y w = (256, 0, n + w, true)) ∨ (n = x - a ∧ mxd a b c d x y w = (-256, 0, n + w, true)) ∨ (n = d - y ∧ mxd a b c d x y w = (0, 256, n + w, true)) ∨ (n = y - b ∧ mxd a b c d x y w = (0, -256, n + w, true)))) ∨
    (¬ (a ≤ x ∧ x ≤ c ∧ b ≤ y ∧ y ≤ d) ∧ (x - min (max x a) c) * (x - min (max x a) c) + (y - min (max y b) d) * (y - min (max y b) d) ≤ w * w ∧
      ∃ L, IsRoot ((x - min (max x a) c) * (x - min (max x a) c) + (y - min (max y b) d) * (y - min (max y b) d)) L ∧ L ≤ w ∧
        mxd a b c d x y w = (if L = 0 then 0 else Int.tdiv ((x - min (max x a) c) * 256) L, if L = 0 then 256 else Int.tdiv ((y - min (max y b) d) * 256) L, w - L, true)) := by
  have hp : point a b c d x y = true ↔ (a ≤ x ∧ x ≤ c ∧ b ≤ y ∧ y ≤ d) := by simp [point, inB]; omega
  unfold mxd
  by_cases h0 : point a b c d x y = true
  · right; left
    rw [if_pos h0]
    have hq := hp.1 h0
    refine ⟨hq, ?_⟩
    rcases bxs_small (a := a) (b := b) (c := c) (d := d) (e := x) (f := y) (g := x) (h := y) (by omega) (by omega) (by omega) (by omega) (by omega) (by omega) (by omega) (by omega) with ⟨hn, _⟩ | ⟨_, n, h1, h2, h3, h4, hs⟩
    · exact absurd ⟨by omega, by omega, by omega, by omega⟩ hn
    · refine ⟨n, h1, h2, h3, h4, ?_⟩
      have hw2 : wrap64 (n + w) = n + w := wrap_id (by omega) (by omega)
      rcases hs with ⟨e, h⟩ | ⟨e, h⟩ | ⟨e, h⟩ | ⟨e, h⟩
      · exact .inl ⟨e, by simp only [h, hw2]⟩
      · exact .inr (.inl ⟨e, by simp only [h, hw2]⟩)
      · exact .inr (.inr (.inl ⟨e, by simp only [h, hw2]⟩))
      · exact .inr (.inr (.inr ⟨e, by simp only [h, hw2]⟩))
  · rw [if_neg h0]
    have hq : ¬ (a ≤ x ∧ x ≤ c ∧ b ≤ y ∧ y ≤ d) := fun h => h0 (hp.2 h)
    rcases rnds_small (a := min (max x a) c) (b := min (max y b) d) (c := x) (d := y) (w := w) (by omega) (by omega) (by omega) (by omega) hw with ⟨h1, h2⟩ | ⟨h1, h2⟩
    · exact .inl ⟨hq, h1, h2⟩
    · exact .inr (.inr ⟨hq, h1, h2⟩)
theorem out_no {w x y : Int} (hw : 0 ≤ w) (h : w + 1 ≤ x ∨ w + 1 ≤ -x) : x * x + y * y > w * w := by
  have h2 := sq_nonneg y
  have e : (w + 1) * (w + 1) = w * w + 2 * w + 1 := by grind
  rcases h with h | h
  · have := mul_le_sq (show 0 ≤ w + 1 by omega) h
    omega
  · have := mul_le_sq (show 0 ≤ w + 1 by omega) h
    rw [Int.neg_mul_neg] at this
    omega
/-- One number of a way that is pushed on. -/
theorem push_one {x L n : Int} (hL : 1 ≤ L) (hn : 0 ≤ n) : ∃ X E p : Int, 0 ≤ X ∧ 0 ≤ E ∧ X * X = x * x ∧ X * 256 < p * L + L ∧ p * n < E * 256 + 256 ∧
    (x + Int.tdiv (Int.tdiv (x * 256) L * n) 256) * (x + Int.tdiv (Int.tdiv (x * 256) L * n) 256) = (X + E) * (X + E) := by
  rcases Int.le_total 0 x with h | h
  · obtain ⟨h0, h1, h2⟩ := td_pos (a := x * 256) (d := L) (by omega) (by omega)
    obtain ⟨g0, g1, g2⟩ := td_pos (a := Int.tdiv (x * 256) L * n) (d := 256) (by omega) (Int.mul_nonneg h0 hn)
    exact ⟨x, _, _, h, g0, rfl, h2, g2, rfl⟩
  · obtain ⟨h0, h1, h2⟩ := td_pos (a := -x * 256) (d := L) (by omega) (by omega)
    obtain ⟨g0, g1, g2⟩ := td_pos (a := Int.tdiv (-x * 256) L * n) (d := 256) (by omega) (Int.mul_nonneg h0 hn)
    refine ⟨-x, _, _, by omega, g0, Int.neg_mul_neg x x, h2, g2, ?_⟩
    have e : Int.tdiv (Int.tdiv (-x * 256) L * n) 256 = -Int.tdiv (Int.tdiv (x * 256) L * n) 256 := by rw [Int.neg_mul, Int.neg_tdiv, Int.neg_mul, Int.neg_tdiv]
    rw [e]
    grind
theorem push_sign {x L n : Int} (hL : 1 ≤ L) (hn : 0 ≤ n) : (0 ≤ x → 0 ≤ Int.tdiv (Int.tdiv (x * 256) L * n) 256) ∧ (x ≤ 0 → Int.tdiv (Int.tdiv (x * 256) L * n) 256 ≤ 0) := by
  constructor
  · intro h
    obtain ⟨h0, _⟩ := td_pos (a := x * 256) (d := L) (by omega) (by omega)
    exact (td_pos (a := Int.tdiv (x * 256) L * n) (d := 256) (by omega) (Int.mul_nonneg h0 hn)).1
  · intro h
    obtain ⟨h0, _⟩ := td_neg (a := x * 256) (d := L) (by omega) (by omega)
    have : 0 ≤ -Int.tdiv (x * 256) L * n := Int.mul_nonneg (by omega) hn
    rw [Int.neg_mul] at this
    exact (td_neg (a := Int.tdiv (x * 256) L * n) (d := 256) (by omega) (by omega)).1
/-- Behind a push on both numbers the length is not much less than all. -/
theorem push_len {x y L l h w : Int} (hr : IsRoot (x * x + y * y) L) (hL : 1 ≤ L) (hw : w = L + h) (hh : 0 ≤ h)
    (hl : IsRoot ((x + Int.tdiv (Int.tdiv (x * 256) L * (h + 2)) 256) * (x + Int.tdiv (Int.tdiv (x * 256) L * (h + 2)) 256) + (y + Int.tdiv (Int.tdiv (y * 256) L * (h + 2)) 256) * (y + Int.tdiv (Int.tdiv (y * 256) L * (h + 2)) 256)) l) :
    w - l ≤ 6 + h / 8 := by
  obtain ⟨X, E, p, hX, hE, eX, p1, p2, ep⟩ := push_one (x := x) (n := h + 2) hL (by omega)
  obtain ⟨Y, F, q, hY, hF, eY, q1, q2, eq⟩ := push_one (x := y) (n := h + 2) hL (by omega)
  rw [ep, eq] at hl
  rw [← eX, ← eY] at hr
  obtain ⟨l0, _, l2⟩ := hl
  rcases Int.lt_or_le (L + h - 6 - h / 8) 0 with hneg | hpos
  · omega
  · have := out_far hX hY hL hr hh p1 q1 p2 q2 hE hF hpos
    rcases Int.lt_or_le l (L + h - 6 - h / 8) with hlt | hle
    · have := mul_le_sq (show 0 ≤ l + 1 by omega) (show l + 1 ≤ L + h - 6 - h / 8 by omega)
      omega
    · omega

theorem sq_in {z t w : Int} (hw : 0 ≤ w) (hz : z * z + t * t ≤ w * w) : -w ≤ z ∧ z ≤ w := by
  have := sq_nonneg t
  constructor
  · rcases Int.lt_or_le z (-w) with hlt | hle
    · have g := mul_le_sq (show 0 ≤ w + 1 by omega) (show w + 1 ≤ -z by omega)
      rw [Int.neg_mul_neg] at g
      have e : (w + 1) * (w + 1) = w * w + 2 * w + 1 := by grind
      omega
    · exact hle
  · rcases Int.lt_or_le w z with hlt | hle
    · have g := mul_le_sq (show 0 ≤ w + 1 by omega) (show w + 1 ≤ z by omega)
      have e : (w + 1) * (w + 1) = w * w + 2 * w + 1 := by grind
      omega
    · exact hle
/-- What is told of two that touch. -/
def Good (r : Int × Int × Int × Bool) : Prop := 0 ≤ r.2.2.1 ∧ r.2.2.1 ≤ 200000 ∧ 62500 ≤ r.1 * r.1 + r.2.1 * r.2.1 ∧ r.1 * r.1 + r.2.1 * r.2.1 ≤ 131769
theorem rnds_good {a b c d w : Int} (ha : -3000000 ≤ a ∧ a ≤ 3000000) (hb : -3000000 ≤ b ∧ b ≤ 3000000) (hc : -3000000 ≤ c ∧ c ≤ 3000000) (hd : -3000000 ≤ d ∧ d ≤ 3000000) (hw : 0 ≤ w ∧ w ≤ 100000) (h : (rnds a b c d w).2.2.2 = true) :
    Good (rnds a b c d w) ∧ (-w ≤ c - a ∧ c - a ≤ w) ∧ (-w ≤ d - b ∧ d - b ≤ w) := by
  rcases rnds_small ha hb hc hd hw with ⟨_, e⟩ | ⟨hle, L, hL, hLw, e⟩
  · rw [e] at h; cases h
  · have hway := rnds_way hL
    refine ⟨?_, sq_in hw.1 hle, sq_in hw.1 (show (d - b) * (d - b) + (c - a) * (c - a) ≤ w * w by omega)⟩
    rw [e]
    have := hL.1
    exact ⟨by dsimp only; omega, by dsimp only; omega, by dsimp only; omega, by dsimp only; omega⟩
theorem bxs_good {a b c d e f g h : Int} (ha : -3000000 ≤ a ∧ a ≤ 3000000) (hb : -3000000 ≤ b ∧ b ≤ 3000000) (hc : -3000000 ≤ c ∧ c ≤ 3000000) (hd : -3000000 ≤ d ∧ d ≤ 3000000)
    (he : -3000000 ≤ e ∧ e ≤ 3000000) (hf : -3000000 ≤ f ∧ f ≤ 3000000) (hg : -3000000 ≤ g ∧ g ≤ 3000000) (hh : -3000000 ≤ h ∧ h ≤ 3000000) (hs : (c - a ≤ 60000) ∧ (g - e ≤ 60000))
    (ht : (bxs a b c d e f g h).2.2.2 = true) : Good (bxs a b c d e f g h) ∧ (a ≤ g ∧ e ≤ c ∧ b ≤ h ∧ f ≤ d) := by
  rcases bxs_small ha hb hc hd he hf hg hh with ⟨_, e⟩ | ⟨hm, n, h1, h2, h3, h4, hs⟩
  · rw [e] at ht; cases ht
  · obtain ⟨e1, e2⟩ := bxs_way hs
    refine ⟨⟨?_, ?_, by omega, by omega⟩, hm⟩
    · rw [e2]
      dsimp only
      rcases hs with ⟨e, _⟩ | ⟨e, _⟩ | ⟨e, _⟩ | ⟨e, _⟩ <;> omega
    · rw [e2]
      dsimp only
      omega
theorem mxd_good {a b c d x y w : Int} (ha : -2600000 ≤ a) (hb : -2600000 ≤ b) (hac : a ≤ c) (hbd : b ≤ d) (hc : c ≤ 2600000) (hd : d ≤ 2600000) (hx : -2600000 ≤ x ∧ x ≤ 2600000) (hy : -2600000 ≤ y ∧ y ≤ 2600000) (hw : 0 ≤ w ∧ w ≤ 30000) (hs : c - a ≤ 60000)
    (h : (mxd a b c d x y w).2.2.2 = true) : Good (mxd a b c d x y w) ∧ (a ≤ x + w ∧ x - w ≤ c ∧ b ≤ y + w ∧ y - w ≤ d) := by
  rcases mxd_small ha hb hac hbd hc hd hx hy (show 0 ≤ w ∧ w ≤ 100000 by omega) with ⟨_, _, e⟩ | ⟨hm, n, h1, h2, h3, h4, hs'⟩ | ⟨hn, hle, L, hL, hLw, e⟩
  · rw [e] at h; cases h
  · refine ⟨?_, by omega, by omega, by omega, by omega⟩
    rcases hs' with ⟨e, e'⟩ | ⟨e, e'⟩ | ⟨e, e'⟩ | ⟨e, e'⟩ <;> rw [e'] <;> exact ⟨by dsimp only; omega, by dsimp only; omega, by dsimp only; omega, by dsimp only; omega⟩
  · have hway := rnds_way hL
    have q1 := sq_in hw.1 hle
    have q2 := sq_in hw.1 (show (y - min (max y b) d) * (y - min (max y b) d) + (x - min (max x a) c) * (x - min (max x a) c) ≤ w * w by omega)
    refine ⟨?_, by omega, by omega, by omega, by omega⟩
    rw [e]
    have := hL.1
    exact ⟨by dsimp only; omega, by dsimp only; omega, by dsimp only; omega, by dsimp only; omega⟩
theorem neg_good {u v n : Int} (h : Good (u, v, n, true)) : wrap64 (-u) = -u ∧ wrap64 (-v) = -v ∧ Good (-u, -v, n, true) := by
  obtain ⟨h1, h2, h3, h4⟩ := h
  dsimp only at h1 h2 h3 h4
  have bu := sq_in (z := u) (t := v) (w := 363) (by omega) (by omega)
  have bv := sq_in (z := v) (t := u) (w := 363) (by omega) (by omega)
  refine ⟨wrap_id (by omega) (by omega), wrap_id (by omega) (by omega), h1, h2, ?_, ?_⟩
  · dsimp only
    rw [Int.neg_mul_neg, Int.neg_mul_neg]
    exact h3
  · dsimp only
    rw [Int.neg_mul_neg, Int.neg_mul_neg]
    exact h4
theorem quad_eq (r : Int × Int × Int × Bool) (h : r.2.2.2 = true) : r = (r.1, r.2.1, r.2.2.1, true) := by
  obtain ⟨a, b, c, d⟩ := r
  dsimp only at h
  rw [h]
/-- All that is known of two that touch. -/
theorem tok_good {s w h x y s' w' h' x' y' : Int} (ht : (tok s w h x y s' w' h' x' y').2.2.2 = true) :
    shapeOk s w h = true ∧ place x y = true ∧ shapeOk s' w' h' = true ∧ place x' y' = true ∧ Good (tok s w h x y s' w' h' x' y') ∧
    (x - w ≤ x' + w' ∧ x' - w' ≤ x + w ∧ y - (if s = 1 then w else h) ≤ y' + (if s' = 1 then w' else h') ∧ y' - (if s' = 1 then w' else h') ≤ y + (if s = 1 then w else h)) := by
  unfold tok at ht ⊢
  cases hs : shapeOk s w h
  · rw [hs] at ht; simp at ht
  cases hs' : shapeOk s' w' h'
  · rw [hs, hs'] at ht; simp at ht
  cases hp : place x y
  · rw [hs, hs', hp] at ht; simp at ht
  cases hp' : place x' y'
  · rw [hs, hs', hp, hp'] at ht; simp at ht
  rw [hs, hs', hp, hp'] at ht
  simp only [Bool.and_self, if_true] at ht ⊢
  refine ⟨trivial, trivial, trivial, trivial, ?_⟩
  obtain ⟨e1, w1, v1, x1, y1, k1⟩ := bnd_ok hs hp
  obtain ⟨e2, w2, v2, x2, y2, k2⟩ := bnd_ok hs' hp'
  unfold tch at ht ⊢
  rcases k1 with rfl | rfl
  · rw [if_pos rfl] at e1 v1
    rcases k2 with rfl | rfl
    · rw [if_pos rfl] at e2 v2
      simp only [and_self, if_true] at ht ⊢
      rw [wrap_id (n := w + w') (by omega) (by omega)] at ht ⊢
      obtain ⟨g, g1, g2⟩ := rnds_good (by omega) (by omega) (by omega) (by omega) (by omega) ht
      exact ⟨g, by omega, by omega, by omega, by omega⟩
    · rw [if_neg (by omega)] at e2 v2
      rw [if_neg (by omega), if_neg (by omega), if_neg (by omega), e2] at ht ⊢
      dsimp only at ht ⊢
      cases hm : (mxd (x' - w') (y' - h') (x' + w') (y' + h') x y w).2.2.2
      · rw [hm] at ht; simp at ht
      · obtain ⟨g, g1⟩ := mxd_good (by omega) (by omega) (by omega) (by omega) (by omega) (by omega) (by omega) (by omega) (by omega) (by omega) hm
        rw [quad_eq _ hm] at g
        obtain ⟨n1, n2, n3⟩ := neg_good g
        rw [if_pos rfl, n1, n2, if_pos rfl, if_neg (by omega)]
        exact ⟨n3, by omega, by omega, by omega, by omega⟩
  · rw [if_neg (by omega)] at e1 v1
    rcases k2 with rfl | rfl
    · rw [if_pos rfl] at e2 v2
      rw [if_neg (by omega), if_neg (by omega), if_pos rfl, e1] at ht ⊢
      dsimp only at ht ⊢
      obtain ⟨g, g1⟩ := mxd_good (by omega) (by omega) (by omega) (by omega) (by omega) (by omega) (by omega) (by omega) (by omega) (by omega) ht
      rw [if_neg (by omega), if_pos rfl]
      exact ⟨g, by omega, by omega, by omega, by omega⟩
    · rw [if_neg (by omega)] at e2 v2
      rw [if_neg (by omega), if_pos ⟨rfl, rfl⟩, e1, e2] at ht ⊢
      dsimp only at ht ⊢
      obtain ⟨g, g1⟩ := bxs_good (by omega) (by omega) (by omega) (by omega) (by omega) (by omega) (by omega) (by omega) (by omega) ht
      rw [if_neg (by omega), if_neg (by omega)]
      exact ⟨g, by omega, by omega, by omega, by omega⟩
theorem rnds_swap {a b c d w : Int} (ha : -3000000 ≤ a ∧ a ≤ 3000000) (hb : -3000000 ≤ b ∧ b ≤ 3000000) (hc : -3000000 ≤ c ∧ c ≤ 3000000) (hd : -3000000 ≤ d ∧ d ≤ 3000000) (hw : 0 ≤ w ∧ w ≤ 100000) :
    (rnds c d a b w).2.2 = (rnds a b c d w).2.2 := by
  have e1 : (a - c) * (a - c) + (b - d) * (b - d) = (c - a) * (c - a) + (d - b) * (d - b) := by grind
  rcases rnds_small ha hb hc hd hw with ⟨h1, e⟩ | ⟨h1, L, hL, hLw, e⟩
  · rcases rnds_small hc hd ha hb hw with ⟨h2, f⟩ | ⟨h2, _⟩
    · rw [e, f]
    · omega
  · rcases rnds_small hc hd ha hb hw with ⟨h2, f⟩ | ⟨h2, M, hM, hMw, f⟩
    · omega
    · rw [e1] at hM
      obtain rfl := root_unique hL hM
      rw [e, f]
theorem bxs_swap {a b c d e f g h : Int} (ha : -3000000 ≤ a ∧ a ≤ 3000000) (hb : -3000000 ≤ b ∧ b ≤ 3000000) (hc : -3000000 ≤ c ∧ c ≤ 3000000) (hd : -3000000 ≤ d ∧ d ≤ 3000000)
    (he : -3000000 ≤ e ∧ e ≤ 3000000) (hf : -3000000 ≤ f ∧ f ≤ 3000000) (hg : -3000000 ≤ g ∧ g ≤ 3000000) (hh : -3000000 ≤ h ∧ h ≤ 3000000) :
    (bxs e f g h a b c d).2.2 = (bxs a b c d e f g h).2.2 := by
  rcases bxs_small ha hb hc hd he hf hg hh with ⟨h1, e1⟩ | ⟨h1, n, p1, p2, p3, p4, hs⟩
  · rcases bxs_small he hf hg hh ha hb hc hd with ⟨h2, f1⟩ | ⟨h2, _⟩
    · rw [e1, f1]
    · omega
  · rcases bxs_small he hf hg hh ha hb hc hd with ⟨h2, f1⟩ | ⟨h2, m, q1, q2, q3, q4, ht⟩
    · omega
    · rw [(bxs_way hs).2, (bxs_way ht).2]
      have : n = m := by rcases hs with ⟨e1, _⟩ | ⟨e1, _⟩ | ⟨e1, _⟩ | ⟨e1, _⟩ <;> rcases ht with ⟨e2, _⟩ | ⟨e2, _⟩ | ⟨e2, _⟩ | ⟨e2, _⟩ <;> omega
      rw [this]
theorem tch_21 (w h x y w' h' x' y' : Int) : tch 2 w h x y 1 w' h' x' y' = mxd (bnd 2 w h x y).1 (bnd 2 w h x y).2.1 (bnd 2 w h x y).2.2.1 (bnd 2 w h x y).2.2.2 x' y' w' := by
  unfold tch
  rw [if_neg (by omega), if_neg (by omega), if_pos rfl]
theorem tch_12 (w h x y w' h' x' y' : Int) : tch 1 w h x y 2 w' h' x' y' = if (mxd (bnd 2 w' h' x' y').1 (bnd 2 w' h' x' y').2.1 (bnd 2 w' h' x' y').2.2.1 (bnd 2 w' h' x' y').2.2.2 x y w).2.2.2 = true then
    (wrap64 (-(mxd (bnd 2 w' h' x' y').1 (bnd 2 w' h' x' y').2.1 (bnd 2 w' h' x' y').2.2.1 (bnd 2 w' h' x' y').2.2.2 x y w).1),
      wrap64 (-(mxd (bnd 2 w' h' x' y').1 (bnd 2 w' h' x' y').2.1 (bnd 2 w' h' x' y').2.2.1 (bnd 2 w' h' x' y').2.2.2 x y w).2.1),
      (mxd (bnd 2 w' h' x' y').1 (bnd 2 w' h' x' y').2.1 (bnd 2 w' h' x' y').2.2.1 (bnd 2 w' h' x' y').2.2.2 x y w).2.2.1, true) else (0, 0, 0, false) := by
  unfold tch
  rw [if_neg (by omega), if_neg (by omega), if_neg (by omega)]
theorem tch_22 (w h x y w' h' x' y' : Int) : tch 2 w h x y 2 w' h' x' y' = bxs (bnd 2 w h x y).1 (bnd 2 w h x y).2.1 (bnd 2 w h x y).2.2.1 (bnd 2 w h x y).2.2.2 (bnd 2 w' h' x' y').1 (bnd 2 w' h' x' y').2.1 (bnd 2 w' h' x' y').2.2.1 (bnd 2 w' h' x' y').2.2.2 := by
  unfold tch
  rw [if_neg (by omega), if_pos ⟨rfl, rfl⟩]
theorem tch_11 (w h x y w' h' x' y' : Int) : tch 1 w h x y 1 w' h' x' y' = rnds x y x' y' (wrap64 (w + w')) := by
  unfold tch
  rw [if_pos ⟨rfl, rfl⟩]
theorem tok_swap (s w h x y s' w' h' x' y' : Int) : (tok s' w' h' x' y' s w h x y).2.2 = (tok s w h x y s' w' h' x' y').2.2 := by
  unfold tok
  cases hs : shapeOk s w h
  · simp
  cases hs' : shapeOk s' w' h'
  · simp
  cases hp : place x y
  · simp
  cases hp' : place x' y'
  · simp
  simp only [Bool.and_self, if_true]
  obtain ⟨e1, w1, v1, x1, y1, k1⟩ := bnd_ok hs hp
  obtain ⟨e2, w2, v2, x2, y2, k2⟩ := bnd_ok hs' hp'
  rcases k1 with rfl | rfl
  · rcases k2 with rfl | rfl
    · unfold tch
      simp only [and_self, if_true]
      rw [wrap_id (n := w + w') (by omega) (by omega), wrap_id (n := w' + w) (by omega) (by omega), Int.add_comm w' w]
      exact rnds_swap (by omega) (by omega) (by omega) (by omega) (by omega)
    · rw [tch_21, tch_12, e2]
      dsimp only
      cases hm : (mxd (x' - w') (y' - (if (2 : Int) = 1 then w' else h')) (x' + w') (y' + (if (2 : Int) = 1 then w' else h')) x y w).2.2.2
      · rw [mxd_no hm]; rfl
      · rw [if_pos rfl]
        exact Prod.ext rfl hm
  · rcases k2 with rfl | rfl
    · rw [tch_21, tch_12, e1]
      dsimp only
      cases hm : (mxd (x - w) (y - (if (2 : Int) = 1 then w else h)) (x + w) (y + (if (2 : Int) = 1 then w else h)) x' y' w').2.2.2
      · rw [mxd_no hm]; rfl
      · rw [if_pos rfl]
        exact Prod.ext rfl hm.symm
    · rw [tch_22, tch_22, e1, e2]
      dsimp only
      have : (if (2 : Int) = 1 then w else h) = h ∧ (if (2 : Int) = 1 then w' else h') = h' := ⟨if_neg (by omega), if_neg (by omega)⟩
      rw [this.1] at v1 ⊢
      rw [this.2] at v2 ⊢
      exact bxs_swap (by omega) (by omega) (by omega) (by omega) (by omega) (by omega) (by omega) (by omega)

/-- Has a shape a point, if all is ok? -/
def shas (k w h x y p q : Int) : Bool := shapeOk k w h && (place x y && (place p q && (if k = 2 then point (x - w) (y - h) (x + w) (y + h) p q else decide ((p - x) * (p - x) + (q - y) * (q - y) ≤ w * w))))
theorem small_sq {a b w : Int} (ha : -6000000 ≤ a ∧ a ≤ 6000000) (hb : -6000000 ≤ b ∧ b ≤ 6000000) (hw : 0 ≤ w ∧ w ≤ 100000) :
    wrap64 (wrap64 (a * a) + wrap64 (b * b)) = a * a + b * b ∧ wrap64 (w * w) = w * w := by
  have := sq_le_of ha.1 ha.2
  have := sq_le_of hb.1 hb.2
  have := sq_le_of (a := w) (m := 100000) (by omega) hw.2
  have := sq_nonneg a
  have := sq_nonneg b
  have := sq_nonneg w
  rw [wrap_id (n := a * a) (by omega) (by omega), wrap_id (n := b * b) (by omega) (by omega), wrap_id (by omega) (by omega), wrap_id (by omega) (by omega)]
  exact ⟨rfl, rfl⟩

theorem near_sq {a c x p : Int} (h1 : a ≤ p) (h2 : p ≤ c) : (x - min (max x a) c) * (x - min (max x a) c) ≤ (p - x) * (p - x) := by
  rcases Int.lt_or_le x a with h | h
  · have := mul_le_sq (show 0 ≤ a - x by omega) (show a - x ≤ p - x by omega)
    rw [show min (max x a) c = a by omega]
    have e : (x - a) * (x - a) = (a - x) * (a - x) := by grind
    omega
  · rcases Int.lt_or_le c x with g | g
    · have := mul_le_sq (show 0 ≤ x - c by omega) (show x - c ≤ x - p by omega)
      rw [show min (max x a) c = c by omega]
      have e : (x - p) * (x - p) = (p - x) * (p - x) := by grind
      omega
    · rw [show min (max x a) c = x by omega, Int.sub_self]
      have := sq_nonneg (p - x)
      omega
theorem mxd_point {a b c d x y w p q : Int} (ha : -2600000 ≤ a) (hb : -2600000 ≤ b) (hc : c ≤ 2600000) (hd : d ≤ 2600000) (hx : -2600000 ≤ x ∧ x ≤ 2600000) (hy : -2600000 ≤ y ∧ y ≤ 2600000) (hw : 0 ≤ w ∧ w ≤ 100000)
    (h1 : a ≤ p ∧ p ≤ c) (h2 : b ≤ q ∧ q ≤ d) (h : (p - x) * (p - x) + (q - y) * (q - y) ≤ w * w) : (mxd a b c d x y w).2.2.2 = true := by
  have n1 := near_sq (x := x) h1.1 h1.2
  have n2 := near_sq (x := y) h2.1 h2.2
  rcases mxd_small (a := a) (b := b) (c := c) (d := d) (x := x) (y := y) (w := w) ha hb (by omega) (by omega) hc hd hx hy hw with ⟨_, h3, _⟩ | ⟨_, n, _, _, _, _, hs⟩ | ⟨_, _, L, _, _, e⟩
  · omega
  · rcases hs with ⟨_, e⟩ | ⟨_, e⟩ | ⟨_, e⟩ | ⟨_, e⟩ <;> rw [e]
  · rw [e]
theorem tok_point {s w h x y s' w' h' x' y' p q : Int} (h1 : shas s w h x y p q = true) (h2 : shas s' w' h' x' y' p q = true) : (tok s w h x y s' w' h' x' y').2.2.2 = true := by
  unfold shas at h1 h2
  simp only [Bool.and_eq_true] at h1 h2
  obtain ⟨hs, hp, hq, h1⟩ := h1
  obtain ⟨hs', hp', _, h2⟩ := h2
  obtain ⟨e1, w1, v1, x1, y1, k1⟩ := bnd_ok hs hp
  obtain ⟨e2, w2, v2, x2, y2, k2⟩ := bnd_ok hs' hp'
  have hq' : (-2560000 ≤ p ∧ p ≤ 2560000) ∧ -2560000 ≤ q ∧ q ≤ 2560000 := by simpa [place, inB] using hq
  unfold tok
  rw [hs, hs', hp, hp']
  simp only [Bool.and_self, if_true]
  rcases k1 with rfl | rfl
  · rw [if_neg (by omega)] at h1
    have h1 := of_decide_eq_true h1
    rcases k2 with rfl | rfl
    · rw [if_neg (by omega)] at h2
      have h2 := of_decide_eq_true h2
      rw [tch_11, wrap_id (by omega) (by omega)]
      have e3 : (x' - p) * (x' - p) + (y' - q) * (y' - q) = (p - x') * (p - x') + (q - y') * (q - y') := by grind
      have hl := len_sum (A := w) (B := w') (by omega) (by omega) h1 (show (x' - p) * (x' - p) + (y' - q) * (y' - q) ≤ w' * w' by omega)
      rw [show p - x + (x' - p) = x' - x by omega, show q - y + (y' - q) = y' - y by omega] at hl
      rcases rnds_small (a := x) (b := y) (c := x') (d := y') (w := w + w') (by omega) (by omega) (by omega) (by omega) (by omega) with ⟨h3, _⟩ | ⟨_, L, _, _, e⟩
      · omega
      · rw [e]
    · rw [if_pos rfl] at h2
      have h2 : (x' - w' ≤ p ∧ p ≤ x' + w') ∧ (y' - h' ≤ q ∧ q ≤ y' + h') := by simpa [point, inB] using h2
      rw [if_neg (by omega)] at e2 v2
      rw [tch_12, e2]
      dsimp only
      have hm := mxd_point (a := x' - w') (b := y' - h') (c := x' + w') (d := y' + h') (x := x) (y := y) (w := w) (by omega) (by omega) (by omega) (by omega) (by omega) (by omega) (by omega) h2.1 h2.2 h1
      rw [hm]
      rfl
  · rw [if_pos rfl] at h1
    have h1 : (x - w ≤ p ∧ p ≤ x + w) ∧ (y - h ≤ q ∧ q ≤ y + h) := by simpa [point, inB] using h1
    rw [if_neg (by omega)] at e1 v1
    rcases k2 with rfl | rfl
    · rw [if_neg (by omega)] at h2
      have h2 := of_decide_eq_true h2
      rw [tch_21, e1]
      dsimp only
      exact mxd_point (by omega) (by omega) (by omega) (by omega) (by omega) (by omega) (by omega) h1.1 h1.2 h2
    · rw [if_pos rfl] at h2
      have h2 : (x' - w' ≤ p ∧ p ≤ x' + w') ∧ (y' - h' ≤ q ∧ q ≤ y' + h') := by simpa [point, inB] using h2
      rw [if_neg (by omega)] at e2 v2
      rw [tch_22, e1, e2]
      dsimp only
      rcases bxs_small (a := x - w) (b := y - h) (c := x + w) (d := y + h) (e := x' - w') (f := y' - h') (g := x' + w') (h := y' + h') (by omega) (by omega) (by omega) (by omega) (by omega) (by omega) (by omega) (by omega) with ⟨hn, _⟩ | ⟨_, n, _, _, _, _, ht⟩
      · omega
      · rw [(bxs_way ht).2]

theorem impl_ShapeHas_eq {n : Nat} (hn : 0 < n) (k w h x y p q : Int) : impl_ShapeHas.f n k w h x y p q = some (shas k w h x y p q) := by
  obtain ⟨n, rfl⟩ : ∃ m, n = m + 1 := ⟨n - 1, by omega⟩
  unfold impl_ShapeHas.f shas
  simp only [impl_ShapeOk_eq, impl_isPlace_eq, impl_ShapeHas.j0, impl_Shape_bounds_eq, impl_Box_has_eq, impl_Vec_minus_eq, impl_Vec_square.f, Option.bind_some]
  cases h1 : shapeOk k w h
  · simp
  cases h2 : place x y
  · simp
  cases h3 : place p q
  · simp
  obtain ⟨e, w1, v1, x1, y1, k1⟩ := bnd_ok h1 h2
  have h3' : (-2560000 ≤ p ∧ p ≤ 2560000) ∧ -2560000 ≤ q ∧ q ≤ 2560000 := by simpa [place, inB] using h3
  rcases k1 with rfl | rfl
  · obtain ⟨e1, e2⟩ := small_sq (a := p - x) (b := q - y) (w := w) (by omega) (by omega) (by omega)
    rw [wrap_id (n := p - x) (by omega) (by omega), wrap_id (n := q - y) (by omega) (by omega), e1, e2]
    simp
  · simp [e]

/-- The bounds of a shape, if all is ok. -/
def sbnd (k w h x y : Int) : Int × Int × Int × Int := if shapeOk k w h && place x y then bnd k w h x y else (0, 0, 0, 0)

theorem impl_ShapeBounds_eq (k w h x y : Int) : impl_ShapeBounds.f k w h x y = some (sbnd k w h x y) := by
  unfold impl_ShapeBounds.f sbnd
  simp only [impl_ShapeOk_eq, impl_isPlace_eq, impl_Shape_bounds_eq, Option.bind_some]
  cases shapeOk k w h <;> cases place x y <;> simp

theorem impl_VecOk_eq (a b : Int) : impl_VecOk.f a b = some (vecOk a b) := by
  unfold impl_VecOk.f vecOk
  simp only [impl_in_eq, Option.bind_some]
  cases inB a (-1000000000) 1000000000 <;> simp

theorem impl_BoxOk_eq (a b c d : Int) : impl_BoxOk.f a b c d = some (boxOk a b c d) := by
  unfold impl_BoxOk.f boxOk
  simp only [impl_VecOk_eq, Option.bind_some]
  by_cases hac : a ≤ c <;> cases vecOk a b <;> cases vecOk c d <;> simp [hac]

theorem boxOk_le {a b c d : Int} (h : boxOk a b c d = true) : a ≤ c ∧ b ≤ d := by
  simp [boxOk] at h
  omega
theorem boxOk_in {a b c d : Int} (h : boxOk a b c d = true) : (-1000000000 ≤ a ∧ a ≤ 1000000000) ∧ (-1000000000 ≤ b ∧ b ≤ 1000000000) ∧ (-1000000000 ≤ c ∧ c ≤ 1000000000) ∧ (-1000000000 ≤ d ∧ d ≤ 1000000000) := by
  simp [boxOk, vecOk, inB] at h
  omega
/-- The point of a box that is nearest to one, if both are ok. -/
def bnear (a b c d x y : Int) : Int × Int := if boxOk a b c d && vecOk x y then (max a (min x c), max b (min y d)) else (0, 0)

theorem impl_BoxNear_eq (a b c d x y : Int) : impl_BoxNear.f a b c d x y = some (bnear a b c d x y) := by
  unfold impl_BoxNear.f bnear
  simp only [impl_BoxOk_eq, impl_VecOk_eq, impl_Box_near_eq, Option.bind_some]
  cases h1 : boxOk a b c d <;> cases h2 : vecOk x y <;> simp

theorem touchpoint_l0 {ys : List S24} {s w h x y s' w' h' x' y' : Int} : ∀ (n : Nat) (i : Int) (k : Nat), 0 ≤ i → (ys.length : Int) - i = n → n + 1 < k → ys.length < 100 → laws_FnTouchPoint.l0 k (tok s w h x y s' w' h' x' y').2.2.2 ys (ys.length : Int) i s w h x y s' w' h' x' y' = some true := by
  intro n
  induction n with
  | zero =>
    intro i k h0 h1 hk hy
    obtain ⟨k, rfl⟩ : ∃ m, k = m + 1 := ⟨k - 1, by omega⟩
    simp only [laws_FnTouchPoint.l0]
    rw [if_neg (by omega)]
  | succ n ih =>
    intro i k h0 h1 hk hy
    obtain ⟨k, rfl⟩ : ∃ m, k = m + 1 := ⟨k - 1, by omega⟩
    simp only [laws_FnTouchPoint.l0]
    rw [if_pos (by omega), if_pos (by omega), if_pos (by omega), impl_ShapeHas_eq (by omega), impl_ShapeHas_eq (by omega), wrap_id (n := i + 1) (by omega) (by omega), ih (i + 1) k (by omega) (by omega) (by omega) hy]
    simp only [Option.bind_some]
    by_cases c1 : shas s w h x y (rd_T24 ys i).f0 (rd_T24 ys i).f1 = true
    · rw [if_pos c1]
      by_cases c2 : shas s' w' h' x' y' (rd_T24 ys i).f0 (rd_T24 ys i).f1 = true
      · rw [if_pos c2, if_pos (tok_point c1 c2)]
      · rw [if_neg c2]
    · rw [if_neg c1]
theorem FnTouchPoint : laws_FnTouchPoint.Pure := by
  intro l _ _ hw
  refine ⟨99 + 1, ?_⟩
  unfold laws_FnTouchPoint.f
  by_cases hl : (l.length : Int) > 1048576
  · rw [if_pos hl]
  rw [if_neg hl]
  obtain ⟨⟨s, w, h, x, y, s', w', h', x', y'⟩, ea⟩ := spec_DrawTouch_some hw (k := 99 + 1) (by omega)
  rw [ea]
  simp only [Option.bind_some, spec_Touch_eq (show 67 < 99 + 1 by omega), impl_Touch_eq (show 70 < 99 + 1 by omega), bne_self_eq_false, Bool.false_eq_true, if_false, spec_ShapeOk_eq, laws_FnTouchPoint.j0, beq_self_eq_true, if_true]
  cases h1 : shapeOk s w h
  · simp
  cases h2 : shapeOk s' w' h'
  · simp
  simp only [if_true, Bool.not_true, Bool.false_eq_true, if_false, impl_ShapeBounds_eq, impl_BoxNear_eq, Option.bind_some]
  exact touchpoint_l0 4 0 99 (by omega) (by simp) (by omega) (by simp)

end Go.Proofs.Ytihajbjkjclmoaa.Pure
