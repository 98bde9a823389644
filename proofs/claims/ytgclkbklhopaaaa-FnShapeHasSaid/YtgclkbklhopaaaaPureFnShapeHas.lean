/- FnShapeHas: what the program computes is what the reference computes, or has the law's properties, at all whole numbers and lists that the statement lets in; no further condition. -/
import Derived.Test.YtgclkbklhopaaaaPFnShapeHasx6
import Derived.Test.YtgclkbklhopaaaaMath
namespace Go.Proofs.Ytgclkbklhopaaaa.Pure
open Go.RowKit Go.Proofs.Ytgclkbklhopaaaa.PFnShapeHas Go.Proofs.YtgclkbklhopaaaaW.PrintWords Go.Proofs.YtgclkbklhopaaaaW.PrintLast Go.Proofs.YtgclkbklhopaaaaW.PrintMore Go.Proofs.Ytgclkbklhopaaaa.Math
set_option linter.unusedVariables false
set_option linter.unusedSimpArgs false

/-- A code of bytes, of at most 2000. -/
def Code (s : List Int) : Prop := (∀ x ∈ s, 0 ≤ x ∧ x ≤ 255) ∧ s.length ≤ 2000
theorem u8_of {x : Int} (h : (Lit.int .u8 x).wf = true) : 0 ≤ x ∧ x ≤ 255 := by
  simp [Lit.wf, IntKind.min, IntKind.max, IntKind.signed, IntKind.bits] at h
  omega
theorem code_rd {s : List Int} (h : Code s) (i : Int) : 0 ≤ rd s i ∧ rd s i ≤ 255 := by
  unfold rd
  rw [List.getD_eq_getElem?_getD]
  rcases Nat.lt_or_ge i.toNat s.length with hl | hl
  · rw [List.getElem?_eq_getElem hl]
    exact h.1 _ (List.getElem_mem hl)
  · rw [List.getElem?_eq_none hl]
    exact ⟨by simp, by simp⟩
theorem xor_ge {a b : Int} (ha : 0 ≤ a) (ha' : a < 9223372036854775808) (hb : 0 ≤ b) (hb' : b < 9223372036854775808) : 0 ≤ Go.bits .xor .i64 a b := by
  obtain ⟨x, rfl⟩ := Int.eq_ofNat_of_zero_le ha
  obtain ⟨y, rfl⟩ := Int.eq_ofNat_of_zero_le hb
  have hx : x ^^^ y < 2 ^ 63 := Nat.xor_lt_two_pow (by omega) (by omega)
  have h1 : (BitVec.ofInt 64 (x : Int)).toNat = x := by rw [BitVec.toNat_ofInt]; omega
  have h2 : (BitVec.ofInt 64 (y : Int)).toNat = y := by rw [BitVec.toNat_ofInt]; omega
  have e : (BitVec.ofInt 64 (x : Int) ^^^ BitVec.ofInt 64 (y : Int)).toNat = x ^^^ y := by rw [BitVec.toNat_xor, h1, h2]
  have hb : Go.bits .xor .i64 (x : Int) (y : Int) = IntKind.wrap .i64 ((x ^^^ y : Nat) : Int) := by rw [← e]; rfl
  rw [hb]
  generalize x ^^^ y = z at hx
  have hz : ((z : Nat) : Int) % 18446744073709551616 = z := Int.emod_eq_of_lt (by omega) (by omega)
  show 0 ≤ (if (true && decide ((z : Int) % 18446744073709551616 ≥ 9223372036854775808)) = true then (z : Int) % 18446744073709551616 - 18446744073709551616 else (z : Int) % 18446744073709551616)
  rw [hz]
  split
  · rename_i hh
    simp at hh
    omega
  · omega
theorem tmod_in {a n : Int} (ha : 0 ≤ a) (hn : 0 < n) : 0 ≤ Int.tmod a n ∧ Int.tmod a n < n := ⟨Int.tmod_nonneg _ ha, Int.tmod_lt_of_pos _ hn⟩

theorem spec_l1Open_eq {l : List Int} (h : ∀ x ∈ l, (Lit.int .u8 x).wf = true) : ∃ s, spec_l1Open.f l = some (s, 0) ∧ Code s := by
  unfold spec_l1Open.f
  by_cases hl : (l.length : Int) > 2000
  · rw [if_pos hl, if_pos (by omega)]
    exact ⟨_, rfl, fun x hx => u8_of (h x (List.mem_of_mem_take hx)), by rw [List.length_take]; omega⟩
  · rw [if_neg hl]
    exact ⟨_, rfl, fun x hx => u8_of (h x hx), by omega⟩

theorem pick_eq {s : List Int} (hs : Code s) {k : Nat} {p n : Int} (hk : 0 < k) (h0 : 0 ≤ p) (h1 : p ≤ 1000000) :
    ∃ v, spec_l1Rd_pick.f k s p n = some (v, p + 1) ∧ 0 ≤ v ∧ (0 < n → v < n) ∧ (n ≤ 0 → v = 0) := by
  obtain ⟨k, rfl⟩ : ∃ m, k = m + 1 := ⟨k - 1, by omega⟩
  have e0 : wrap64 (p + 1) = p + 1 := wrap_id (by omega) (by omega)
  unfold spec_l1Rd_pick.f
  simp only [spec_l1Rd_pick.j0, e0]
  by_cases hn : n < 1
  · rw [if_pos hn]
    exact ⟨0, by simp, by omega, by omega, by omega⟩
  rw [if_neg hn]
  by_cases hz : (s.length : Int) = 0
  · exact ⟨0, by simp [hz], by omega, by omega, by omega⟩
  have hl : 0 < (s.length : Int) := by omega
  have hl2 := hs.2
  have e1 : wrap64 (p + 1 - 1) = p := by rw [wrap_id (by omega) (by omega)]; omega
  rw [if_neg (by simp only [beq_iff_eq]; exact hz), e1]
  by_cases hp : p < (s.length : Int)
  · have hr := code_rd hs p
    rw [if_pos hp, if_pos h0, if_neg (by omega), wrap_id (n := rd s p) (by omega) (by omega)]
    obtain ⟨g1, g2⟩ := tmod_in hr.1 (show 0 < n by omega)
    exact ⟨_, rfl, g1, fun _ => g2, by omega⟩
  · have e2 : wrap64 (wrap64 (p * 7) + 3) = p * 7 + 3 := by rw [wrap_id (n := p * 7) (by omega) (by omega), wrap_id (by omega) (by omega)]
    obtain ⟨a1, a2⟩ := tmod_in (a := p) h0 hl
    obtain ⟨b1, b2⟩ := tmod_in (a := p * 7 + 3) (by omega) hl
    rw [if_neg hp, if_neg hz, e2, if_pos a1, if_pos a2, if_pos b1, if_pos b2, if_neg (by omega)]
    have c1 := code_rd hs (Int.tmod p s.length)
    have c2 := code_rd hs (Int.tmod (p * 7 + 3) s.length)
    generalize rd s (Int.tmod p s.length) = x at c1 ⊢
    generalize rd s (Int.tmod (p * 7 + 3) s.length) = y at c2 ⊢
    obtain ⟨d1, d2, _⟩ := td_pos hl h0
    have d3 := td_bd (a := p) (m := p) (by omega) (by omega) s.length hl
    generalize Int.tdiv p s.length = z at d1 d2 d3 ⊢
    have ex : wrap64 (wrap64 (wrap64 (wrap64 (wrap64 x * 131) + wrap64 (wrap64 y * 1117)) + wrap64 (p * 29)) + wrap64 (wrap64 z * 53)) = x * 131 + y * 1117 + p * 29 + z * 53 := by
      rw [wrap_id (n := x) (by omega) (by omega), wrap_id (n := y) (by omega) (by omega), wrap_id (n := z) (by omega) (by omega), wrap_id (n := x * 131) (by omega) (by omega), wrap_id (n := y * 1117) (by omega) (by omega),
        wrap_id (n := p * 29) (by omega) (by omega), wrap_id (n := z * 53) (by omega) (by omega), wrap_id (n := x * 131 + y * 1117) (by omega) (by omega), wrap_id (n := x * 131 + y * 1117 + p * 29) (by omega) (by omega), wrap_id (by omega) (by omega)]
    rw [ex]
    have hX : 0 ≤ x * 131 + y * 1117 + p * 29 + z * 53 ∧ x * 131 + y * 1117 + p * 29 + z * 53 ≤ 100000000 := by omega
    generalize x * 131 + y * 1117 + p * 29 + z * 53 = X at hX ⊢
    obtain ⟨f1, f2, _⟩ := td_pos (a := X) (d := 64) (by omega) hX.1
    have hx := xor_ge (a := X) (b := wrap64 (Int.tdiv X 64)) hX.1 (by omega) (by rw [wrap_id (by omega) (by omega)]; omega) (by rw [wrap_id (by omega) (by omega)]; omega)
    obtain ⟨g1, g2⟩ := tmod_in hx (show 0 < n by omega)
    exact ⟨_, rfl, g1, fun _ => g2, by omega⟩

theorem one_eq {s : List Int} (hs : Code s) {k : Nat} {p : Int} {xs : List Int} {P : Int → Prop} (hP : ∀ x ∈ xs, P x) (hk : 0 < k) (h0 : 0 ≤ p) (h1 : p ≤ 1000000) (hx : 0 < xs.length) :
    ∃ v, spec_l1Rd_one.f k s p xs = some (v, p + 1) ∧ P v := by
  obtain ⟨v, e, g0, g1, _⟩ := pick_eq hs (n := (xs.length : Int)) hk h0 h1
  have g1 := g1 (by omega)
  unfold spec_l1Rd_one.f
  rw [e]
  simp only [Option.bind_some]
  rw [if_pos g0, if_pos g1]
  refine ⟨_, rfl, hP _ ?_⟩
  unfold rd
  rw [List.getD_eq_getElem?_getD, List.getElem?_eq_getElem (show v.toNat < xs.length by omega)]
  exact List.getElem_mem _

/-- It draws something, and goes on by at most c. -/
def Dr {α : Type} (o : Option α) (g : α → Int) (p c : Int) : Prop := ∃ r, o = some r ∧ p ≤ g r ∧ g r ≤ p + c
theorem dr_bind {α β : Type} {o : Option α} {f : α → Option β} {g : α → Int} {g' : β → Int} {p c P C : Int} (h : Dr o g p c) (k : ∀ r, p ≤ g r → g r ≤ p + c → Dr (f r) g' P C) : Dr (o.bind f) g' P C := by
  obtain ⟨r, e, h1, h2⟩ := h
  rw [e]
  exact k r h1 h2
theorem dr_ite {α : Type} {q : Prop} [Decidable q] {a b : Option α} {g : α → Int} {p c : Int} (h : Dr a g p c) (k : Dr b g p c) : Dr (if q then a else b) g p c := by
  split
  · exact h
  · exact k
theorem pick_dr {s : List Int} (hs : Code s) {k : Nat} {p n : Int} (hk : 0 < k) (h0 : 0 ≤ p) (h1 : p ≤ 1000000) : Dr (spec_l1Rd_pick.f k s p n) (fun r => r.2) p 1 := by
  obtain ⟨v, e, _⟩ := pick_eq hs (n := n) hk h0 h1
  exact ⟨_, e, by dsimp only; omega, by dsimp only; omega⟩
theorem one_dr {s : List Int} (hs : Code s) {k : Nat} {p : Int} {xs : List Int} (hk : 0 < k) (h0 : 0 ≤ p) (h1 : p ≤ 1000000) (hx : 0 < xs.length) : Dr (spec_l1Rd_one.f k s p xs) (fun r => r.2) p 1 := by
  obtain ⟨v, e, _⟩ := one_eq hs (xs := xs) (P := fun _ => True) (by simp) hk h0 h1 hx
  exact ⟨_, e, by dsimp only; omega, by dsimp only; omega⟩

theorem shape_dr {s : List Int} (hs : Code s) {k : Nat} {p : Int} (hk : 0 < k) (h0 : 0 ≤ p) (h1 : p ≤ 900000) : Dr (spec_l11Shape.f k s p) (fun r => r.2.2.2) p 5 := by
  unfold spec_l11Shape.f
  refine dr_bind (pick_dr hs hk (by omega) (by omega)) fun a ha ha' => ?_
  refine dr_bind (one_dr hs hk (by omega) (by omega) (by simp)) fun b hb hb' => ?_
  refine dr_bind (pick_dr hs hk (by omega) (by omega)) fun c hc hc' => ?_
  refine dr_ite ?_ ?_
  · exact ⟨_, rfl, by dsimp only; omega, by dsimp only; omega⟩
  · refine dr_bind (pick_dr hs hk (by omega) (by omega)) fun d hd hd' => ?_
    refine dr_bind (one_dr hs hk (by omega) (by omega) (by simp)) fun e he he' => ?_
    exact ⟨_, rfl, by dsimp only; omega, by dsimp only; omega⟩

theorem anyshape_dr {s : List Int} (hs : Code s) {k : Nat} {p : Int} (hk : 0 < k) (h0 : 0 ≤ p) (h1 : p ≤ 800000) : Dr (spec_l11AnyShape.f k s p) (fun r => r.2.2.2) p 7 := by
  unfold spec_l11AnyShape.f
  refine dr_bind (shape_dr hs hk (by omega) (by omega)) fun a ha ha' => ?_
  refine dr_bind (pick_dr hs hk (by omega) (by omega)) fun b hb hb' => ?_
  refine dr_ite ?_ (dr_ite ?_ (dr_ite ?_ ?_))
  · refine dr_bind (one_dr hs hk (by omega) (by omega) (by simp)) fun c hc hc' => ?_
    exact ⟨_, rfl, by dsimp only; omega, by dsimp only; omega⟩
  · refine dr_bind (one_dr hs hk (by omega) (by omega) (by simp)) fun c hc hc' => ?_
    exact ⟨_, rfl, by dsimp only; omega, by dsimp only; omega⟩
  · refine dr_bind (one_dr hs hk (by omega) (by omega) (by simp)) fun c hc hc' => ?_
    exact ⟨_, rfl, by dsimp only; omega, by dsimp only; omega⟩
  · exact ⟨_, rfl, by dsimp only; omega, by dsimp only; omega⟩

theorem place_dr {s : List Int} (hs : Code s) {k : Nat} {p : Int} (hk : 0 < k) (h0 : 0 ≤ p) (h1 : p ≤ 900000) : Dr (spec_l11Place.f k s p) (fun r => r.2.2) p 2 := by
  unfold spec_l11Place.f
  refine dr_bind (pick_dr hs hk (by omega) (by omega)) fun a ha ha' => ?_
  refine dr_bind (pick_dr hs hk (by omega) (by omega)) fun b hb hb' => ?_
  exact ⟨_, rfl, by dsimp only; omega, by dsimp only; omega⟩

theorem anyplace_dr {s : List Int} (hs : Code s) {k : Nat} {p : Int} (hk : 0 < k) (h0 : 0 ≤ p) (h1 : p ≤ 800000) : Dr (spec_l11AnyPlace.f k s p) (fun r => r.2.2) p 4 := by
  unfold spec_l11AnyPlace.f
  refine dr_bind (place_dr hs hk (by omega) (by omega)) fun a ha ha' => ?_
  refine dr_bind (pick_dr hs hk (by omega) (by omega)) fun b hb hb' => ?_
  refine dr_ite ?_ (dr_ite ?_ ?_)
  · refine dr_bind (one_dr hs hk (by omega) (by omega) (by simp)) fun c hc hc' => ?_
    exact ⟨_, rfl, by dsimp only; omega, by dsimp only; omega⟩
  · refine dr_bind (one_dr hs hk (by omega) (by omega) (by simp)) fun c hc hc' => ?_
    exact ⟨_, rfl, by dsimp only; omega, by dsimp only; omega⟩
  · exact ⟨_, rfl, by dsimp only; omega, by dsimp only; omega⟩

theorem spec_DrawShapeHas_some {l : List Int} (h : ∀ x ∈ l, (Lit.int .u8 x).wf = true) {k : Nat} (hk : 0 < k) : ∃ r, spec_DrawShapeHas.f k l = some r := by
  obtain ⟨s, es, hs⟩ := spec_l1Open_eq h
  suffices Dr (spec_DrawShapeHas.f k l) (fun _ => 0) 0 0 by
    obtain ⟨r, e, _⟩ := this
    exact ⟨r, e⟩
  unfold spec_DrawShapeHas.f
  rw [es]
  simp only [Option.bind_some]
  refine dr_bind (anyshape_dr hs hk (by omega) (by omega)) fun a ha ha' => ?_
  refine dr_bind (anyplace_dr hs hk (by omega) (by omega)) fun b hb hb' => ?_
  refine dr_bind (pick_dr hs hk (by omega) (by omega)) fun c hc hc' => ?_
  refine dr_ite ?_ ?_
  · refine dr_bind (one_dr hs hk (by omega) (by omega) (by simp)) fun d hd hd' => ?_
    refine dr_bind (pick_dr hs hk (by omega) (by omega)) fun e he he' => ?_
    refine dr_bind (pick_dr hs hk (by omega) (by omega)) fun f hf hf' => ?_
    exact ⟨_, rfl, by simp, by simp⟩
  · refine dr_bind (pick_dr hs hk (by omega) (by omega)) fun d hd hd' => ?_
    refine dr_ite ?_ ?_
    · refine dr_bind (pick_dr hs hk (by omega) (by omega)) fun e he he' => ?_
      exact ⟨_, rfl, by simp, by simp⟩
    · refine dr_bind (anyplace_dr hs hk (by omega) (by omega)) fun e he he' => ?_
      exact ⟨_, rfl, by simp, by simp⟩

theorem spec_l1In_eq (a l h : Int) : spec_l1In.f a l h = some (inB a l h) := by
  unfold spec_l1In.f inB
  split <;> simp <;> omega

theorem spec_ShapeOk_eq (k w h : Int) : spec_ShapeOk.f k w h = some (shapeOk k w h) := by
  unfold spec_ShapeOk.f shapeOk
  simp only [spec_l1In_eq, Option.bind_some]
  by_cases h1 : k = 1
  · rw [if_pos h1, if_pos h1]; cases inB w 1 25600 <;> simp
  · rw [if_neg h1, if_neg h1]
    by_cases h2 : k = 2
    · rw [if_pos h2, if_pos h2]; cases inB w 1 25600 <;> simp
    · rw [if_neg h2, if_neg h2]

theorem spec_l3Place_eq (a b : Int) : spec_l3Place.f a b = some (place a b) := by
  unfold spec_l3Place.f place
  simp only [spec_l1In_eq, Option.bind_some]
  cases inB a (-2560000) 2560000 <;> simp

/-- The bounds of a shape at a place. -/
def bnd (k w h x y : Int) : Int × Int × Int × Int := (wrap64 (x - w), wrap64 (y - (if k = 1 then w else h)), wrap64 (x + w), wrap64 (y + (if k = 1 then w else h)))

theorem spec_l3Bounds_eq (k w h x y : Int) : spec_l3Bounds.f k w h x y = some (bnd k w h x y) := by
  unfold spec_l3Bounds.f bnd
  split <;> rfl

theorem spec_l3Point_eq (a b c d x y : Int) : spec_l3Point.f a b c d x y = some (point a b c d x y) := by
  unfold spec_l3Point.f point
  simp only [spec_l1In_eq, Option.bind_some]
  cases inB x a c <;> simp

theorem bnd_ok {k w h x y : Int} (hs : shapeOk k w h = true) (hp : place x y = true) :
    bnd k w h x y = (x - w, y - (if k = 1 then w else h), x + w, y + (if k = 1 then w else h)) ∧ (1 ≤ w ∧ w ≤ 25600) ∧ (1 ≤ (if k = 1 then w else h) ∧ (if k = 1 then w else h) ≤ 25600) ∧ (-2560000 ≤ x ∧ x ≤ 2560000) ∧ (-2560000 ≤ y ∧ y ≤ 2560000) ∧ (k = 1 ∨ k = 2) := by
  simp only [place, Bool.and_eq_true, inB_iff] at hp
  unfold shapeOk at hs
  by_cases h1 : k = 1
  · rw [if_pos h1] at hs
    simp only [Bool.and_eq_true, inB_iff] at hs
    unfold bnd
    rw [if_pos h1, wrap_id (by omega) (by omega), wrap_id (by omega) (by omega), wrap_id (by omega) (by omega), wrap_id (by omega) (by omega)]
    exact ⟨rfl, hs.1, hs.1, hp.1, hp.2, .inl h1⟩
  · rw [if_neg h1] at hs
    by_cases h2 : k = 2
    · rw [if_pos h2] at hs
      simp only [Bool.and_eq_true, inB_iff] at hs
      unfold bnd
      rw [if_neg h1, wrap_id (by omega) (by omega), wrap_id (by omega) (by omega), wrap_id (by omega) (by omega), wrap_id (by omega) (by omega)]
      exact ⟨rfl, hs.1, hs.2, hp.1, hp.2, .inr h2⟩
    · rw [if_neg h2] at hs
      cases hs

/-- Has a shape a point, if all is ok? -/
def shas (k w h x y p q : Int) : Bool := shapeOk k w h && (place x y && (place p q && (if k = 2 then point (x - w) (y - h) (x + w) (y + h) p q else decide ((p - x) * (p - x) + (q - y) * (q - y) ≤ w * w))))
theorem small_sq {a b w : Int} (ha : -6000000 ≤ a ∧ a ≤ 6000000) (hb : -6000000 ≤ b ∧ b ≤ 6000000) (hw : 0 ≤ w ∧ w ≤ 100000) :
    wrap64 (wrap64 (a * a) + wrap64 (b * b)) = a * a + b * b ∧ wrap64 (w * w) = w * w := by
  have := sq_le_of ha.1 ha.2
  have := sq_le_of hb.1 hb.2
  have := sq_le_of (a := w) (m := 100000) (by omega) hw.2
  have := sq_nonneg a
  have := sq_nonneg b
  have := sq_nonneg w
  rw [wrap_id (n := a * a) (by omega) (by omega), wrap_id (n := b * b) (by omega) (by omega), wrap_id (by omega) (by omega), wrap_id (by omega) (by omega)]
  exact ⟨rfl, rfl⟩

theorem spec_ShapeHas_eq (k w h x y p q : Int) : spec_ShapeHas.f k w h x y p q = some (shas k w h x y p q) := by
  unfold spec_ShapeHas.f shas spec_l3Has.f spec_l2Square.f
  simp only [spec_ShapeOk_eq, spec_l3Place_eq, spec_l3Bounds_eq, spec_l3Point_eq, Option.bind_some]
  cases h1 : shapeOk k w h
  · simp
  cases h2 : place x y
  · simp
  cases h3 : place p q
  · simp
  obtain ⟨e, w1, v1, x1, y1, k1⟩ := bnd_ok h1 h2
  have h3' : (-2560000 ≤ p ∧ p ≤ 2560000) ∧ -2560000 ≤ q ∧ q ≤ 2560000 := by simpa [place, inB] using h3
  rcases k1 with rfl | rfl
  · obtain ⟨e1, e2⟩ := small_sq (a := p - x) (b := q - y) (w := w) (by omega) (by omega) (by omega)
    rw [wrap_id (n := p - x) (by omega) (by omega), wrap_id (n := q - y) (by omega) (by omega), e1, e2]
    simp
  · simp [e]

theorem impl_in_eq (a l h : Int) : impl_in.f a l h = some (inB a l h) := by
  unfold impl_in.f inB
  split <;> simp <;> omega

theorem impl_ShapeOk_eq (k w h : Int) : impl_ShapeOk.f k w h = some (shapeOk k w h) := by
  unfold impl_ShapeOk.f shapeOk
  simp only [impl_in_eq, Option.bind_some]
  by_cases h1 : k = 1
  · rw [if_pos h1, if_pos h1]; cases inB w 1 25600 <;> simp
  · rw [if_neg h1, if_neg h1]
    by_cases h2 : k = 2
    · rw [if_pos h2, if_pos h2]; cases inB w 1 25600 <;> simp
    · rw [if_neg h2, if_neg h2]

theorem impl_isPlace_eq (a b : Int) : impl_isPlace.f a b = some (place a b) := by
  unfold impl_isPlace.f place
  simp only [impl_in_eq, Option.bind_some]
  cases inB a (-2560000) 2560000 <;> simp

theorem impl_Vec_minus_eq (a b c d : Int) : impl_Vec_minus.f a b c d = some (wrap64 (a - c), wrap64 (b - d)) := rfl

theorem impl_Vec_plus_eq (a b c d : Int) : impl_Vec_plus.f a b c d = some (wrap64 (a + c), wrap64 (b + d)) := rfl

theorem impl_Shape_bounds_eq (k w h x y : Int) : impl_Shape_bounds.f k w h x y = some (bnd k w h x y) := by
  unfold impl_Shape_bounds.f bnd
  simp only [impl_Vec_minus_eq, impl_Vec_plus_eq, Option.bind_some]
  split <;> rfl

theorem impl_Box_has_eq (a b c d x y : Int) : impl_Box_has.f a b c d x y = some (point a b c d x y) := by
  unfold impl_Box_has.f point
  simp only [impl_in_eq, Option.bind_some]
  cases inB x a c <;> simp

theorem impl_ShapeHas_eq {n : Nat} (hn : 0 < n) (k w h x y p q : Int) : impl_ShapeHas.f n k w h x y p q = some (shas k w h x y p q) := by
  obtain ⟨n, rfl⟩ : ∃ m, n = m + 1 := ⟨n - 1, by omega⟩
  unfold impl_ShapeHas.f shas
  simp only [impl_ShapeOk_eq, impl_isPlace_eq, impl_ShapeHas.j0, impl_Shape_bounds_eq, impl_Box_has_eq, impl_Vec_minus_eq, impl_Vec_square.f, Option.bind_some]
  cases h1 : shapeOk k w h
  · simp
  cases h2 : place x y
  · simp
  cases h3 : place p q
  · simp
  obtain ⟨e, w1, v1, x1, y1, k1⟩ := bnd_ok h1 h2
  have h3' : (-2560000 ≤ p ∧ p ≤ 2560000) ∧ -2560000 ≤ q ∧ q ≤ 2560000 := by simpa [place, inB] using h3
  rcases k1 with rfl | rfl
  · obtain ⟨e1, e2⟩ := small_sq (a := p - x) (b := q - y) (w := w) (by omega) (by omega) (by omega)
    rw [wrap_id (n := p - x) (by omega) (by omega), wrap_id (n := q - y) (by omega) (by omega), e1, e2]
    simp
  · simp [e]

/-- The bounds of a shape, if all is ok. -/
def sbnd (k w h x y : Int) : Int × Int × Int × Int := if shapeOk k w h && place x y then bnd k w h x y else (0, 0, 0, 0)

theorem impl_ShapeBounds_eq (k w h x y : Int) : impl_ShapeBounds.f k w h x y = some (sbnd k w h x y) := by
  unfold impl_ShapeBounds.f sbnd
  simp only [impl_ShapeOk_eq, impl_isPlace_eq, impl_Shape_bounds_eq, Option.bind_some]
  cases shapeOk k w h <;> cases place x y <;> simp

theorem impl_VecOk_eq (a b : Int) : impl_VecOk.f a b = some (vecOk a b) := by
  unfold impl_VecOk.f vecOk
  simp only [impl_in_eq, Option.bind_some]
  cases inB a (-1000000000) 1000000000 <;> simp

theorem impl_BoxOk_eq (a b c d : Int) : impl_BoxOk.f a b c d = some (boxOk a b c d) := by
  unfold impl_BoxOk.f boxOk
  simp only [impl_VecOk_eq, Option.bind_some]
  by_cases hac : a ≤ c <;> cases vecOk a b <;> cases vecOk c d <;> simp [hac]

theorem impl_BoxHas_eq (a b c d e f g h : Int) : impl_BoxHas.f a b c d e f g h = some (boxOk a b c d && (boxOk e f g h && (point a b c d e f && point a b c d g h))) := by
  unfold impl_BoxHas.f
  simp only [impl_BoxOk_eq, impl_Box_has_eq, Option.bind_some]
  cases boxOk a b c d <;> cases boxOk e f g h <;> cases point a b c d e f <;> simp

theorem laws_pqAbs_eq {a : Int} (h : -9223372036854775808 < a) (h' : a < 9223372036854775808) : laws_pqAbs.f a = some (if a < 0 then -a else a) := by
  unfold laws_pqAbs.f
  split
  · rw [wrap_id (by omega) (by omega)]
  · rfl

theorem boxOk_le {a b c d : Int} (h : boxOk a b c d = true) : a ≤ c ∧ b ≤ d := by
  simp [boxOk] at h
  omega
theorem boxOk_in {a b c d : Int} (h : boxOk a b c d = true) : (-1000000000 ≤ a ∧ a ≤ 1000000000) ∧ (-1000000000 ≤ b ∧ b ≤ 1000000000) ∧ (-1000000000 ≤ c ∧ c ≤ 1000000000) ∧ (-1000000000 ≤ d ∧ d ≤ 1000000000) := by
  simp [boxOk, vecOk, inB] at h
  omega
/-- The point of a box that is nearest to one, if both are ok. -/
def bnear (a b c d x y : Int) : Int × Int := if boxOk a b c d && vecOk x y then (max a (min x c), max b (min y d)) else (0, 0)

theorem FnShapeHas : laws_FnShapeHas.Pure := by
  intro l _ _ hw
  refine ⟨99 + 1 + 1, ?_⟩
  unfold laws_FnShapeHas.f
  by_cases hl : (l.length : Int) > 1048576
  · rw [if_pos hl]
  rw [if_neg hl]
  obtain ⟨⟨k, w, h, x, y, p, q⟩, ea⟩ := spec_DrawShapeHas_some hw (k := 99 + 1 + 1) (by omega)
  rw [ea]
  simp only [Option.bind_some, spec_ShapeHas_eq, impl_ShapeHas_eq (show 0 < 99 + 1 + 1 by omega), laws_FnShapeHas.j0, laws_FnShapeHas.j1, impl_ShapeHas_eq (show 0 < 99 by omega), impl_ShapeBounds_eq, impl_BoxHas_eq, bne_self_eq_false]
  cases hh : shas k w h x y p q
  · simp
  have hh' := hh
  unfold shas at hh'
  simp only [Bool.and_eq_true] at hh'
  obtain ⟨h1, h2, h3, h4⟩ := hh'
  obtain ⟨e, w1, v1, x1, y1, k1⟩ := bnd_ok h1 h2
  have h3' : (-2560000 ≤ p ∧ p ≤ 2560000) ∧ -2560000 ≤ q ∧ q ≤ 2560000 := by simpa [place, inB] using h3
  have es : sbnd k w h x y = bnd k w h x y := by simp [sbnd, h1, h2]
  obtain ⟨v, hv⟩ : ∃ v, v = (if k = 1 then w else h) := ⟨_, rfl⟩
  rw [← hv] at v1 e
  rw [es, e, wrap_id (n := 2 * x) (by omega) (by omega), wrap_id (n := 2 * y) (by omega) (by omega), wrap_id (n := 2 * x - p) (by omega) (by omega), wrap_id (n := 2 * y - q) (by omega) (by omega), laws_pqAbs_eq (by omega) (by omega), laws_pqAbs_eq (by omega) (by omega)]
  simp only [Option.bind_some]
  have bo : boxOk (x - w) (y - v) (x + w) (y + v) = true := by simp [boxOk, vecOk, inB]; omega
  have bp : boxOk p q p q = true := by simp [boxOk, vecOk, inB]; omega
  have sq0 : ∀ z t : Int, z * z + t * t ≤ w * w → (-w ≤ z ∧ z ≤ w) := by
    intro z t hz
    have := sq_nonneg t
    constructor
    · rcases Int.lt_or_le z (-w) with hlt | hle
      · have g := mul_le_sq (show 0 ≤ w + 1 by omega) (show w + 1 ≤ -z by omega)
        rw [Int.neg_mul_neg] at g
        have e : (w + 1) * (w + 1) = w * w + 2 * w + 1 := by grind
        omega
      · exact hle
    · rcases Int.lt_or_le w z with hlt | hle
      · have g := mul_le_sq (show 0 ≤ w + 1 by omega) (show w + 1 ≤ z by omega)
        have e : (w + 1) * (w + 1) = w * w + 2 * w + 1 := by grind
        omega
      · exact hle
  have po : point (x - w) (y - v) (x + w) (y + v) p q = true := by
    rcases k1 with rfl | rfl
    · rw [if_pos rfl] at hv
      subst hv
      rw [if_neg (by omega)] at h4
      have h4 := of_decide_eq_true h4
      have a1 := sq0 _ _ h4
      have a2 := sq0 (q - y) (p - x) (by omega)
      simp [point, inB]
      omega
    · rw [if_neg (by omega)] at hv
      subst hv
      rw [if_pos rfl] at h4
      exact h4
  have mid : shas k w h x y x y = true := by
    unfold shas
    simp only [Bool.and_eq_true]
    refine ⟨h1, h2, h2, ?_⟩
    rcases k1 with rfl | rfl
    · rw [if_neg (by omega), Int.sub_self, Int.sub_self]
      have := sq_nonneg w
      simp
      omega
    · rw [if_pos rfl]
      rw [if_neg (by omega)] at hv
      subst hv
      simp [point, inB]
      omega
  have oth : (-2560000 ≤ 2 * x - p ∧ 2 * x - p ≤ 2560000) → (-2560000 ≤ 2 * y - q ∧ 2 * y - q ≤ 2560000) → shas k w h x y (2 * x - p) (2 * y - q) = true := by
    intro g1 g2
    unfold shas
    simp only [Bool.and_eq_true]
    refine ⟨h1, h2, by simp [place, inB]; omega, ?_⟩
    rcases k1 with rfl | rfl
    · rw [if_neg (by omega)] at h4 ⊢
      have h4 := of_decide_eq_true h4
      have e1 : (2 * x - p - x) * (2 * x - p - x) = (p - x) * (p - x) := by grind
      have e2 : (2 * y - q - y) * (2 * y - q - y) = (q - y) * (q - y) := by grind
      simp
      omega
    · rw [if_pos rfl] at h4 ⊢
      simp [point, inB] at h4 ⊢
      omega
  simp only [bo, bp, po, mid, Bool.and_self, if_true, Bool.not_true, Bool.false_eq_true, if_false]
  by_cases g1 : (if 2 * x - p < 0 then -(2 * x - p) else 2 * x - p) > 2560000
  · rw [if_pos g1]
  · rw [if_neg g1]
    by_cases g2 : (if 2 * y - q < 0 then -(2 * y - q) else 2 * y - q) > 2560000
    · simp [g2]
    · rw [oth (by split at g1 <;> omega) (by split at g2 <;> omega)]
      simp

end Go.Proofs.Ytgclkbklhopaaaa.Pure
