/- FnBoxBoth: what the program computes is what the reference computes, or has the law's properties, at all whole numbers and lists that the statement lets in; no further condition. -/
import Derived.Test.YtihajbjkjclmoaaPBigx908
import Derived.Test.YtihajbjkjclmoaaMath
namespace Go.Proofs.Ytihajbjkjclmoaa.Pure
open Go.RowKit Go.Proofs.Ytihajbjkjclmoaa.PBig Go.Proofs.YtihajbjkjclmoaaW.PrintWords Go.Proofs.YtihajbjkjclmoaaW.PrintLast Go.Proofs.YtihajbjkjclmoaaW.PrintMore Go.Proofs.Ytihajbjkjclmoaa.Math
set_option linter.unusedVariables false
set_option linter.unusedSimpArgs false

/-- A code of bytes, of at most 2000. -/
def Code (s : List Int) : Prop := (∀ x ∈ s, 0 ≤ x ∧ x ≤ 255) ∧ s.length ≤ 2000
theorem u8_of {x : Int} (h : (Lit.int .u8 x).wf = true) : 0 ≤ x ∧ x ≤ 255 := by
  simp [Lit.wf, IntKind.min, IntKind.max, IntKind.signed, IntKind.bits] at h
  omega
theorem code_rd {s : List Int} (h : Code s) (i : Int) : 0 ≤ rd s i ∧ rd s i ≤ 255 := by
  unfold rd
  rw [List.getD_eq_getElem?_getD]
  rcases Nat.lt_or_ge i.toNat s.length with hl | hl
  · rw [List.getElem?_eq_getElem hl]
    exact h.1 _ (List.getElem_mem hl)
  · rw [List.getElem?_eq_none hl]
    exact ⟨by simp, by simp⟩
theorem xor_ge {a b : Int} (ha : 0 ≤ a) (ha' : a < 9223372036854775808) (hb : 0 ≤ b) (hb' : b < 9223372036854775808) : 0 ≤ Go.bits .xor .i64 a b := by
  obtain ⟨x, rfl⟩ := Int.eq_ofNat_of_zero_le ha
  obtain ⟨y, rfl⟩ := Int.eq_ofNat_of_zero_le hb
  have hx : x ^^^ y < 2 ^ 63 := Nat.xor_lt_two_pow (by omega) (by omega)
  have h1 : (BitVec.ofInt 64 (x : Int)).toNat = x := by rw [BitVec.toNat_ofInt]; omega
  have h2 : (BitVec.ofInt 64 (y : Int)).toNat = y := by rw [BitVec.toNat_ofInt]; omega
  have e : (BitVec.ofInt 64 (x : Int) ^^^ BitVec.ofInt 64 (y : Int)).toNat = x ^^^ y := by rw [BitVec.toNat_xor, h1, h2]
  have hb : Go.bits .xor .i64 (x : Int) (y : Int) = IntKind.wrap .i64 ((x ^^^ y : Nat) : Int) := by rw [← e]; rfl
  rw [hb]
  generalize x ^^^ y = z at hx
  have hz : ((z : Nat) : Int) % 18446744073709551616 = z := Int.emod_eq_of_lt (by omega) (by omega)
  show 0 ≤ (if (true && decide ((z : Int) % 18446744073709551616 ≥ 9223372036854775808)) = true then (z : Int) % 18446744073709551616 - 18446744073709551616 else (z : Int) % 18446744073709551616)
  rw [hz]
  split
  · rename_i hh
    simp at hh
    omega
  · omega
theorem tmod_in {a n : Int} (ha : 0 ≤ a) (hn : 0 < n) : 0 ≤ Int.tmod a n ∧ Int.tmod a n < n := ⟨Int.tmod_nonneg _ ha, Int.tmod_lt_of_pos _ hn⟩

theorem spec_l1Open_eq {l : List Int} (h : ∀ x ∈ l, (Lit.int .u8 x).wf = true) : ∃ s, spec_l1Open.f l = some (s, 0) ∧ Code s := by
  unfold spec_l1Open.f
  by_cases hl : (l.length : Int) > 2000
  · rw [if_pos hl, if_pos (by omega)]
    exact ⟨_, rfl, fun x hx => u8_of (h x (List.mem_of_mem_take hx)), by rw [List.length_take]; omega⟩
  · rw [if_neg hl]
    exact ⟨_, rfl, fun x hx => u8_of (h x hx), by omega⟩

theorem pick_eq {s : List Int} (hs : Code s) {k : Nat} {p n : Int} (hk : 0 < k) (h0 : 0 ≤ p) (h1 : p ≤ 1000000) :
    ∃ v, spec_l1Rd_pick.f k s p n = some (v, p + 1) ∧ 0 ≤ v ∧ (0 < n → v < n) ∧ (n ≤ 0 → v = 0) := by
  obtain ⟨k, rfl⟩ : ∃ m, k = m + 1 := ⟨k - 1, by omega⟩
  have e0 : wrap64 (p + 1) = p + 1 := wrap_id (by omega) (by omega)
  unfold spec_l1Rd_pick.f
  simp only [spec_l1Rd_pick.j0, e0]
  by_cases hn : n < 1
  · rw [if_pos hn]
    exact ⟨0, by simp, by omega, by omega, by omega⟩
  rw [if_neg hn]
  by_cases hz : (s.length : Int) = 0
  · exact ⟨0, by simp [hz], by omega, by omega, by omega⟩
  have hl : 0 < (s.length : Int) := by omega
  have hl2 := hs.2
  have e1 : wrap64 (p + 1 - 1) = p := by rw [wrap_id (by omega) (by omega)]; omega
  rw [if_neg (by simp only [beq_iff_eq]; exact hz), e1]
  by_cases hp : p < (s.length : Int)
  · have hr := code_rd hs p
    rw [if_pos hp, if_pos h0, if_neg (by omega), wrap_id (n := rd s p) (by omega) (by omega)]
    obtain ⟨g1, g2⟩ := tmod_in hr.1 (show 0 < n by omega)
    exact ⟨_, rfl, g1, fun _ => g2, by omega⟩
  · have e2 : wrap64 (wrap64 (p * 7) + 3) = p * 7 + 3 := by rw [wrap_id (n := p * 7) (by omega) (by omega), wrap_id (by omega) (by omega)]
    obtain ⟨a1, a2⟩ := tmod_in (a := p) h0 hl
    obtain ⟨b1, b2⟩ := tmod_in (a := p * 7 + 3) (by omega) hl
    rw [if_neg hp, if_neg hz, e2, if_pos a1, if_pos a2, if_pos b1, if_pos b2, if_neg (by omega)]
    have c1 := code_rd hs (Int.tmod p s.length)
    have c2 := code_rd hs (Int.tmod (p * 7 + 3) s.length)
    generalize rd s (Int.tmod p s.length) = x at c1 ⊢
    generalize rd s (Int.tmod (p * 7 + 3) s.length) = y at c2 ⊢
    obtain ⟨d1, d2, _⟩ := td_pos hl h0
    have d3 := td_bd (a := p) (m := p) (by omega) (by omega) s.length hl
    generalize Int.tdiv p s.length = z at d1 d2 d3 ⊢
    have ex : wrap64 (wrap64 (wrap64 (wrap64 (wrap64 x * 131) + wrap64 (wrap64 y * 1117)) + wrap64 (p * 29)) + wrap64 (wrap64 z * 53)) = x * 131 + y * 1117 + p * 29 + z * 53 := by
      rw [wrap_id (n := x) (by omega) (by omega), wrap_id (n := y) (by omega) (by omega), wrap_id (n := z) (by omega) (by omega), wrap_id (n := x * 131) (by omega) (by omega), wrap_id (n := y * 1117) (by omega) (by omega),
        wrap_id (n := p * 29) (by omega) (by omega), wrap_id (n := z * 53) (by omega) (by omega), wrap_id (n := x * 131 + y * 1117) (by omega) (by omega), wrap_id (n := x * 131 + y * 1117 + p * 29) (by omega) (by omega), wrap_id (by omega) (by omega)]
    rw [ex]
    have hX : 0 ≤ x * 131 + y * 1117 + p * 29 + z * 53 ∧ x * 131 + y * 1117 + p * 29 + z * 53 ≤ 100000000 := by omega
    generalize x * 131 + y * 1117 + p * 29 + z * 53 = X at hX ⊢
    obtain ⟨f1, f2, _⟩ := td_pos (a := X) (d := 64) (by omega) hX.1
    have hx := xor_ge (a := X) (b := wrap64 (Int.tdiv X 64)) hX.1 (by omega) (by rw [wrap_id (by omega) (by omega)]; omega) (by rw [wrap_id (by omega) (by omega)]; omega)
    obtain ⟨g1, g2⟩ := tmod_in hx (show 0 < n by omega)
    exact ⟨_, rfl, g1, fun _ => g2, by omega⟩

theorem one_eq {s : List Int} (hs : Code s) {k : Nat} {p : Int} {xs : List Int} {P : Int → Prop} (hP : ∀ x ∈ xs, P x) (hk : 0 < k) (h0 : 0 ≤ p) (h1 : p ≤ 1000000) (hx : 0 < xs.length) :
    ∃ v, spec_l1Rd_one.f k s p xs = some (v, p + 1) ∧ P v := by
  obtain ⟨v, e, g0, g1, _⟩ := pick_eq hs (n := (xs.length : Int)) hk h0 h1
  have g1 := g1 (by omega)
  unfold spec_l1Rd_one.f
  rw [e]
  simp only [Option.bind_some]
  rw [if_pos g0, if_pos g1]
  refine ⟨_, rfl, hP _ ?_⟩
  unfold rd
  rw [List.getD_eq_getElem?_getD, List.getElem?_eq_getElem (show v.toNat < xs.length by omega)]
  exact List.getElem_mem _

/-- It draws something, and goes on by at most c. -/
def Dr {α : Type} (o : Option α) (g : α → Int) (p c : Int) : Prop := ∃ r, o = some r ∧ p ≤ g r ∧ g r ≤ p + c
theorem dr_bind {α β : Type} {o : Option α} {f : α → Option β} {g : α → Int} {g' : β → Int} {p c P C : Int} (h : Dr o g p c) (k : ∀ r, p ≤ g r → g r ≤ p + c → Dr (f r) g' P C) : Dr (o.bind f) g' P C := by
  obtain ⟨r, e, h1, h2⟩ := h
  rw [e]
  exact k r h1 h2
theorem dr_ite {α : Type} {q : Prop} [Decidable q] {a b : Option α} {g : α → Int} {p c : Int} (h : Dr a g p c) (k : Dr b g p c) : Dr (if q then a else b) g p c := by
  split
  · exact h
  · exact k
theorem pick_dr {s : List Int} (hs : Code s) {k : Nat} {p n : Int} (hk : 0 < k) (h0 : 0 ≤ p) (h1 : p ≤ 1000000) : Dr (spec_l1Rd_pick.f k s p n) (fun r => r.2) p 1 := by
  obtain ⟨v, e, _⟩ := pick_eq hs (n := n) hk h0 h1
  exact ⟨_, e, by dsimp only; omega, by dsimp only; omega⟩
theorem one_dr {s : List Int} (hs : Code s) {k : Nat} {p : Int} {xs : List Int} (hk : 0 < k) (h0 : 0 ≤ p) (h1 : p ≤ 1000000) (hx : 0 < xs.length) : Dr (spec_l1Rd_one.f k s p xs) (fun r => r.2) p 1 := by
  obtain ⟨v, e, _⟩ := one_eq hs (xs := xs) (P := fun _ => True) (by simp) hk h0 h1 hx
  exact ⟨_, e, by dsimp only; omega, by dsimp only; omega⟩

theorem place_dr {s : List Int} (hs : Code s) {k : Nat} {p : Int} (hk : 0 < k) (h0 : 0 ≤ p) (h1 : p ≤ 900000) : Dr (spec_l11Place.f k s p) (fun r => r.2.2) p 2 := by
  unfold spec_l11Place.f
  refine dr_bind (pick_dr hs hk (by omega) (by omega)) fun a ha ha' => ?_
  refine dr_bind (pick_dr hs hk (by omega) (by omega)) fun b hb hb' => ?_
  exact ⟨_, rfl, by dsimp only; omega, by dsimp only; omega⟩

theorem box_dr {s : List Int} (hs : Code s) {k : Nat} {p : Int} (hk : 0 < k) (h0 : 0 ≤ p) (h1 : p ≤ 800000) : Dr (spec_l11Box.f k s p) (fun r => r.2.2.2.2) p 6 := by
  unfold spec_l11Box.f
  refine dr_bind (place_dr hs hk (by omega) (by omega)) fun a ha ha' => ?_
  refine dr_bind (pick_dr hs hk (by omega) (by omega)) fun b hb hb' => ?_
  refine dr_bind (one_dr hs hk (by omega) (by omega) (by simp)) fun c hc hc' => ?_
  refine dr_bind (pick_dr hs hk (by omega) (by omega)) fun d hd hd' => ?_
  refine dr_bind (one_dr hs hk (by omega) (by omega) (by simp)) fun e he he' => ?_
  exact ⟨_, rfl, by dsimp only; omega, by dsimp only; omega⟩

theorem anybox_dr {s : List Int} (hs : Code s) {k : Nat} {p : Int} (hk : 0 < k) (h0 : 0 ≤ p) (h1 : p ≤ 700000) : Dr (spec_l11AnyBox.f k s p) (fun r => r.2.2.2.2) p 8 := by
  unfold spec_l11AnyBox.f
  refine dr_bind (box_dr hs hk (by omega) (by omega)) fun a ha ha' => ?_
  refine dr_bind (pick_dr hs hk (by omega) (by omega)) fun b hb hb' => ?_
  refine dr_ite ?_ (dr_ite ?_ (dr_ite ?_ ?_))
  · exact ⟨_, rfl, by dsimp only; omega, by dsimp only; omega⟩
  · refine dr_bind (one_dr hs hk (by omega) (by omega) (by simp)) fun c hc hc' => ?_
    exact ⟨_, rfl, by dsimp only; omega, by dsimp only; omega⟩
  · exact ⟨_, rfl, by dsimp only; omega, by dsimp only; omega⟩
  · exact ⟨_, rfl, by dsimp only; omega, by dsimp only; omega⟩

theorem spec_l3Less_eq (a b : Int) : spec_l3Less.f a b = some (min a b) := by
  unfold spec_l3Less.f; split <;> simp <;> omega

theorem spec_l3More_eq (a b : Int) : spec_l3More.f a b = some (max a b) := by
  unfold spec_l3More.f; split <;> simp <;> omega

theorem spec_l3Near_eq (a b c d x y : Int) : spec_l3Near.f a b c d x y = some (min (max x a) c, min (max y b) d) := by
  unfold spec_l3Near.f
  simp only [spec_l3Less_eq, spec_l3More_eq, Option.bind_some]

theorem spec_DrawBoxMeets_some {l : List Int} (h : ∀ x ∈ l, (Lit.int .u8 x).wf = true) {k : Nat} (hk : 0 < k) : ∃ r, spec_DrawBoxMeets.f k l = some r := by
  obtain ⟨s, es, hs⟩ := spec_l1Open_eq h
  suffices Dr (spec_DrawBoxMeets.f k l) (fun _ => 0) 0 0 by
    obtain ⟨r, e, _⟩ := this
    exact ⟨r, e⟩
  unfold spec_DrawBoxMeets.f
  rw [es]
  simp only [Option.bind_some]
  refine dr_bind (anybox_dr hs hk (by omega) (by omega)) fun a ha ha' => ?_
  refine dr_bind (anybox_dr hs hk (by omega) (by omega)) fun b hb hb' => ?_
  refine dr_bind (pick_dr hs hk (by omega) (by omega)) fun c hc hc' => ?_
  refine dr_ite ?_ (dr_ite ?_ (dr_ite ?_ ?_))
  · refine dr_bind (pick_dr hs hk (by omega) (by omega)) fun d hd hd' => ?_
    exact ⟨_, rfl, by simp, by simp⟩
  · exact ⟨_, rfl, by simp, by simp⟩
  · rw [spec_l3Near_eq]
    exact ⟨_, rfl, by simp, by simp⟩
  · exact ⟨_, rfl, by simp, by simp⟩

theorem spec_l1In_eq (a l h : Int) : spec_l1In.f a l h = some (inB a l h) := by
  unfold spec_l1In.f inB
  split <;> simp <;> omega

theorem spec_VecOk_eq (a b : Int) : spec_VecOk.f a b = some (vecOk a b) := by
  unfold spec_VecOk.f vecOk
  simp only [spec_l1In_eq, Option.bind_some]
  cases inB a (-1000000000) 1000000000 <;> simp

theorem spec_BoxOk_eq (a b c d : Int) : spec_BoxOk.f a b c d = some (boxOk a b c d) := by
  unfold spec_BoxOk.f boxOk
  simp only [spec_VecOk_eq, Option.bind_some]
  by_cases hac : a ≤ c <;> cases vecOk a b <;> cases vecOk c d <;> simp [hac]

/-- The least box that has two, if both are ok. -/
def bboth (a b c d e f g h : Int) : Int × Int × Int × Int := if boxOk a b c d && boxOk e f g h then (min a e, min b f, max c g, max d h) else (0, 0, 0, 0)

theorem spec_BoxBoth_eq {k : Nat} (hk : 0 < k) (a b c d e f g h : Int) : spec_BoxBoth.f k a b c d e f g h = some (bboth a b c d e f g h) := by
  obtain ⟨k, rfl⟩ : ∃ m, k = m + 1 := ⟨k - 1, by omega⟩
  unfold spec_BoxBoth.f bboth
  simp only [spec_BoxOk_eq, Option.bind_some, spec_BoxBoth.j0, spec_l3Less_eq, spec_l3More_eq]
  cases h1 : boxOk a b c d <;> cases h2 : boxOk e f g h <;> simp

theorem impl_in_eq (a l h : Int) : impl_in.f a l h = some (inB a l h) := by
  unfold impl_in.f inB
  split <;> simp <;> omega

theorem impl_VecOk_eq (a b : Int) : impl_VecOk.f a b = some (vecOk a b) := by
  unfold impl_VecOk.f vecOk
  simp only [impl_in_eq, Option.bind_some]
  cases inB a (-1000000000) 1000000000 <;> simp

theorem impl_BoxOk_eq (a b c d : Int) : impl_BoxOk.f a b c d = some (boxOk a b c d) := by
  unfold impl_BoxOk.f boxOk
  simp only [impl_VecOk_eq, Option.bind_some]
  by_cases hac : a ≤ c <;> cases vecOk a b <;> cases vecOk c d <;> simp [hac]

theorem impl_BoxBoth_eq (a b c d e f g h : Int) : impl_BoxBoth.f a b c d e f g h = some (bboth a b c d e f g h) := by
  unfold impl_BoxBoth.f bboth
  simp only [impl_BoxOk_eq, Option.bind_some, mx_eq, mn_eq]
  cases h1 : boxOk a b c d <;> cases h2 : boxOk e f g h <;> simp

theorem impl_Box_has_eq (a b c d x y : Int) : impl_Box_has.f a b c d x y = some (point a b c d x y) := by
  unfold impl_Box_has.f point
  simp only [impl_in_eq, Option.bind_some]
  cases inB x a c <;> simp

theorem impl_BoxHas_eq (a b c d e f g h : Int) : impl_BoxHas.f a b c d e f g h = some (boxOk a b c d && (boxOk e f g h && (point a b c d e f && point a b c d g h))) := by
  unfold impl_BoxHas.f
  simp only [impl_BoxOk_eq, impl_Box_has_eq, Option.bind_some]
  cases boxOk a b c d <;> cases boxOk e f g h <;> cases point a b c d e f <;> simp

theorem boxOk_le {a b c d : Int} (h : boxOk a b c d = true) : a ≤ c ∧ b ≤ d := by
  simp [boxOk] at h
  omega
theorem boxOk_in {a b c d : Int} (h : boxOk a b c d = true) : (-1000000000 ≤ a ∧ a ≤ 1000000000) ∧ (-1000000000 ≤ b ∧ b ≤ 1000000000) ∧ (-1000000000 ≤ c ∧ c ≤ 1000000000) ∧ (-1000000000 ≤ d ∧ d ≤ 1000000000) := by
  simp [boxOk, vecOk, inB] at h
  omega
/-- The point of a box that is nearest to one, if both are ok. -/
def bnear (a b c d x y : Int) : Int × Int := if boxOk a b c d && vecOk x y then (max a (min x c), max b (min y d)) else (0, 0)

theorem spec_DrawBoxBoth_some {l : List Int} (h : ∀ x ∈ l, (Lit.int .u8 x).wf = true) {k : Nat} (hk : 0 < k) : ∃ r, spec_DrawBoxBoth.f k l = some r := by
  obtain ⟨r, e⟩ := spec_DrawBoxMeets_some h hk
  unfold spec_DrawBoxBoth.f
  rw [e]
  exact ⟨_, rfl⟩
theorem bboth_comm (a b c d e f g h : Int) : bboth e f g h a b c d = bboth a b c d e f g h := by
  unfold bboth
  rw [Bool.and_comm, Int.min_comm e a, Int.min_comm f b, Int.max_comm g c, Int.max_comm h d]
theorem FnBoxBoth : laws_FnBoxBoth.Pure := by
  intro l _ _ hw
  refine ⟨99 + 1 + 1, ?_⟩
  unfold laws_FnBoxBoth.f
  by_cases hl : (l.length : Int) > 1048576
  · rw [if_pos hl]
  rw [if_neg hl]
  obtain ⟨⟨a, b, c, d, e, f, g, h⟩, ea⟩ := spec_DrawBoxBoth_some hw (k := 99 + 1 + 1) (by omega)
  rw [ea]
  simp only [Option.bind_some, spec_BoxBoth_eq (show 0 < 99 + 1 + 1 by omega), impl_BoxBoth_eq, bboth_comm a b c d e f g h, spec_BoxOk_eq, beq_self_eq_true, Bool.not_true, Bool.or_self, Bool.false_eq_true, if_false]
  have j0t : laws_FnBoxBoth.j0 (99 + 1 + 1) true a b c d e f g h (bboth a b c d e f g h).1 (bboth a b c d e f g h).2.1 (bboth a b c d e f g h).2.2.1 (bboth a b c d e f g h).2.2.2 = some true := by
    simp [laws_FnBoxBoth.j0, spec_BoxBoth_eq (show 0 < 99 + 1 by omega), impl_BoxBoth_eq, bboth_comm a b c d e f g h]
  cases h1 : boxOk a b c d
  · simpa using j0t
  cases h2 : boxOk e f g h
  · simpa using j0t
  clear j0t
  have hb1 := boxOk_in h1
  have hb2 := boxOk_in h2
  have hl1 := boxOk_le h1
  have hl2 := boxOk_le h2
  have n0 : bboth a b c d e f g h = (min a e, min b f, max c g, max d h) := by simp [bboth, h1, h2]
  have n1 : bboth a b c d a b c d = (a, b, c, d) := by simp [bboth, h1]
  have h3 : boxOk (min a e) (min b f) (max c g) (max d h) = true := by
    simp only [boxOk, vecOk, inB, Bool.and_eq_true, decide_eq_true_eq]
    omega
  have p1 : point (min a e) (min b f) (max c g) (max d h) a b = true := by simp only [point, inB, Bool.and_eq_true, decide_eq_true_eq]; omega
  have p2 : point (min a e) (min b f) (max c g) (max d h) c d = true := by simp only [point, inB, Bool.and_eq_true, decide_eq_true_eq]; omega
  have p3 : point (min a e) (min b f) (max c g) (max d h) e f = true := by simp only [point, inB, Bool.and_eq_true, decide_eq_true_eq]; omega
  have p4 : point (min a e) (min b f) (max c g) (max d h) g h = true := by simp only [point, inB, Bool.and_eq_true, decide_eq_true_eq]; omega
  have hh : (point a b c d e f && point a b c d g h) = ((min a e == a && (min b f == b)) && ((max c g == c && (max d h == d)))) := by
    rw [Bool.eq_iff_iff]
    simp only [point, inB, Bool.and_eq_true, decide_eq_true_eq, beq_iff_eq]
    omega
  have j1 : laws_FnBoxBoth.j1 (99 + 1) true a b c d e f g h (min a e) (min b f) (max c g) (max d h) = some true := by
    simp only [laws_FnBoxBoth.j1, impl_BoxOk_eq, impl_BoxHas_eq, Option.bind_some, h1, h2, h3, p1, p2, p3, p4, impl_BoxBoth_eq, n1, Bool.and_self, Bool.true_and, if_true, hh, beq_self_eq_true]
  rw [n0]
  simp only [if_true, Bool.not_true, laws_FnBoxBoth.j0, Bool.false_eq_true, if_false]
  have q0 : min a e = a ∨ min a e = e := by omega
  have q1 : min b f = b ∨ min b f = f := by omega
  have q2 : max c g = c ∨ max c g = g := by omega
  have q3 : max d h = d ∨ max d h = h := by omega
  generalize min a e = x0 at *
  generalize min b f = x1 at *
  generalize max c g = x2 at *
  generalize max d h = x3 at *
  repeat' split
  all_goals first
    | exact j1
    | (have hx : (x3 == h) = true := by simp; omega
       rw [hx]; exact j1)
    | (exfalso; omega)

end Go.Proofs.Ytihajbjkjclmoaa.Pure
