/- FnBodyPush: what the program computes is what the reference computes, or has the law's properties, at all whole numbers and lists that the statement lets in; no further condition. -/
import Derived.Test.YtihajbjkjclmoaaPBigx920
import Derived.Test.YtihajbjkjclmoaaMath
namespace Go.Proofs.Ytihajbjkjclmoaa.Pure
open Go.RowKit Go.Proofs.Ytihajbjkjclmoaa.PBig Go.Proofs.YtihajbjkjclmoaaW.PrintWords Go.Proofs.YtihajbjkjclmoaaW.PrintLast Go.Proofs.YtihajbjkjclmoaaW.PrintMore Go.Proofs.Ytihajbjkjclmoaa.Math
set_option linter.unusedVariables false
set_option linter.unusedSimpArgs false

/-- A code of bytes, of at most 2000. -/
def Code (s : List Int) : Prop := (∀ x ∈ s, 0 ≤ x ∧ x ≤ 255) ∧ s.length ≤ 2000
theorem u8_of {x : Int} (h : (Lit.int .u8 x).wf = true) : 0 ≤ x ∧ x ≤ 255 := by
  simp [Lit.wf, IntKind.min, IntKind.max, IntKind.signed, IntKind.bits] at h
  omega
theorem code_rd {s : List Int} (h : Code s) (i : Int) : 0 ≤ rd s i ∧ rd s i ≤ 255 := by
  unfold rd
  rw [List.getD_eq_getElem?_getD]
  rcases Nat.lt_or_ge i.toNat s.length with hl | hl
  · rw [List.getElem?_eq_getElem hl]
    exact h.1 _ (List.getElem_mem hl)
  · rw [List.getElem?_eq_none hl]
    exact ⟨by simp, by simp⟩
theorem xor_ge {a b : Int} (ha : 0 ≤ a) (ha' : a < 9223372036854775808) (hb : 0 ≤ b) (hb' : b < 9223372036854775808) : 0 ≤ Go.bits .xor .i64 a b := by
  obtain ⟨x, rfl⟩ := Int.eq_ofNat_of_zero_le ha
  obtain ⟨y, rfl⟩ := Int.eq_ofNat_of_zero_le hb
  have hx : x ^^^ y < 2 ^ 63 := Nat.xor_lt_two_pow (by omega) (by omega)
  have h1 : (BitVec.ofInt 64 (x : Int)).toNat = x := by rw [BitVec.toNat_ofInt]; omega
  have h2 : (BitVec.ofInt 64 (y : Int)).toNat = y := by rw [BitVec.toNat_ofInt]; omega
  have e : (BitVec.ofInt 64 (x : Int) ^^^ BitVec.ofInt 64 (y : Int)).toNat = x ^^^ y := by rw [BitVec.toNat_xor, h1, h2]
  have hb : Go.bits .xor .i64 (x : Int) (y : Int) = IntKind.wrap .i64 ((x ^^^ y : Nat) : Int) := by rw [← e]; rfl
  rw [hb]
  generalize x ^^^ y = z at hx
  have hz : ((z : Nat) : Int) % 18446744073709551616 = z := Int.emod_eq_of_lt (by omega) (by omega)
  show 0 ≤ (if (true && decide ((z : Int) % 18446744073709551616 ≥ 9223372036854775808)) = true then (z : Int) % 18446744073709551616 - 18446744073709551616 else (z : Int) % 18446744073709551616)
  rw [hz]
  split
  · rename_i hh
    simp at hh
    omega
  · omega
theorem tmod_in {a n : Int} (ha : 0 ≤ a) (hn : 0 < n) : 0 ≤ Int.tmod a n ∧ Int.tmod a n < n := ⟨Int.tmod_nonneg _ ha, Int.tmod_lt_of_pos _ hn⟩

theorem spec_l1Open_eq {l : List Int} (h : ∀ x ∈ l, (Lit.int .u8 x).wf = true) : ∃ s, spec_l1Open.f l = some (s, 0) ∧ Code s := by
  unfold spec_l1Open.f
  by_cases hl : (l.length : Int) > 2000
  · rw [if_pos hl, if_pos (by omega)]
    exact ⟨_, rfl, fun x hx => u8_of (h x (List.mem_of_mem_take hx)), by rw [List.length_take]; omega⟩
  · rw [if_neg hl]
    exact ⟨_, rfl, fun x hx => u8_of (h x hx), by omega⟩

theorem pick_eq {s : List Int} (hs : Code s) {k : Nat} {p n : Int} (hk : 0 < k) (h0 : 0 ≤ p) (h1 : p ≤ 1000000) :
    ∃ v, spec_l1Rd_pick.f k s p n = some (v, p + 1) ∧ 0 ≤ v ∧ (0 < n → v < n) ∧ (n ≤ 0 → v = 0) := by
  obtain ⟨k, rfl⟩ : ∃ m, k = m + 1 := ⟨k - 1, by omega⟩
  have e0 : wrap64 (p + 1) = p + 1 := wrap_id (by omega) (by omega)
  unfold spec_l1Rd_pick.f
  simp only [spec_l1Rd_pick.j0, e0]
  by_cases hn : n < 1
  · rw [if_pos hn]
    exact ⟨0, by simp, by omega, by omega, by omega⟩
  rw [if_neg hn]
  by_cases hz : (s.length : Int) = 0
  · exact ⟨0, by simp [hz], by omega, by omega, by omega⟩
  have hl : 0 < (s.length : Int) := by omega
  have hl2 := hs.2
  have e1 : wrap64 (p + 1 - 1) = p := by rw [wrap_id (by omega) (by omega)]; omega
  rw [if_neg (by simp only [beq_iff_eq]; exact hz), e1]
  by_cases hp : p < (s.length : Int)
  · have hr := code_rd hs p
    rw [if_pos hp, if_pos h0, if_neg (by omega), wrap_id (n := rd s p) (by omega) (by omega)]
    obtain ⟨g1, g2⟩ := tmod_in hr.1 (show 0 < n by omega)
    exact ⟨_, rfl, g1, fun _ => g2, by omega⟩
  · have e2 : wrap64 (wrap64 (p * 7) + 3) = p * 7 + 3 := by rw [wrap_id (n := p * 7) (by omega) (by omega), wrap_id (by omega) (by omega)]
    obtain ⟨a1, a2⟩ := tmod_in (a := p) h0 hl
    obtain ⟨b1, b2⟩ := tmod_in (a := p * 7 + 3) (by omega) hl
    rw [if_neg hp, if_neg hz, e2, if_pos a1, if_pos a2, if_pos b1, if_pos b2, if_neg (by omega)]
    have c1 := code_rd hs (Int.tmod p s.length)
    have c2 := code_rd hs (Int.tmod (p * 7 + 3) s.length)
    generalize rd s (Int.tmod p s.length) = x at c1 ⊢
    generalize rd s (Int.tmod (p * 7 + 3) s.length) = y at c2 ⊢
    obtain ⟨d1, d2, _⟩ := td_pos hl h0
    have d3 := td_bd (a := p) (m := p) (by omega) (by omega) s.length hl
    generalize Int.tdiv p s.length = z at d1 d2 d3 ⊢
    have ex : wrap64 (wrap64 (wrap64 (wrap64 (wrap64 x * 131) + wrap64 (wrap64 y * 1117)) + wrap64 (p * 29)) + wrap64 (wrap64 z * 53)) = x * 131 + y * 1117 + p * 29 + z * 53 := by
      rw [wrap_id (n := x) (by omega) (by omega), wrap_id (n := y) (by omega) (by omega), wrap_id (n := z) (by omega) (by omega), wrap_id (n := x * 131) (by omega) (by omega), wrap_id (n := y * 1117) (by omega) (by omega),
        wrap_id (n := p * 29) (by omega) (by omega), wrap_id (n := z * 53) (by omega) (by omega), wrap_id (n := x * 131 + y * 1117) (by omega) (by omega), wrap_id (n := x * 131 + y * 1117 + p * 29) (by omega) (by omega), wrap_id (by omega) (by omega)]
    rw [ex]
    have hX : 0 ≤ x * 131 + y * 1117 + p * 29 + z * 53 ∧ x * 131 + y * 1117 + p * 29 + z * 53 ≤ 100000000 := by omega
    generalize x * 131 + y * 1117 + p * 29 + z * 53 = X at hX ⊢
    obtain ⟨f1, f2, _⟩ := td_pos (a := X) (d := 64) (by omega) hX.1
    have hx := xor_ge (a := X) (b := wrap64 (Int.tdiv X 64)) hX.1 (by omega) (by rw [wrap_id (by omega) (by omega)]; omega) (by rw [wrap_id (by omega) (by omega)]; omega)
    obtain ⟨g1, g2⟩ := tmod_in hx (show 0 < n by omega)
    exact ⟨_, rfl, g1, fun _ => g2, by omega⟩

theorem one_eq {s : List Int} (hs : Code s) {k : Nat} {p : Int} {xs : List Int} {P : Int → Prop} (hP : ∀ x ∈ xs, P x) (hk : 0 < k) (h0 : 0 ≤ p) (h1 : p ≤ 1000000) (hx : 0 < xs.length) :
    ∃ v, spec_l1Rd_one.f k s p xs = some (v, p + 1) ∧ P v := by
  obtain ⟨v, e, g0, g1, _⟩ := pick_eq hs (n := (xs.length : Int)) hk h0 h1
  have g1 := g1 (by omega)
  unfold spec_l1Rd_one.f
  rw [e]
  simp only [Option.bind_some]
  rw [if_pos g0, if_pos g1]
  refine ⟨_, rfl, hP _ ?_⟩
  unfold rd
  rw [List.getD_eq_getElem?_getD, List.getElem?_eq_getElem (show v.toNat < xs.length by omega)]
  exact List.getElem_mem _

/-- It draws something, and goes on by at most c. -/
def Dr {α : Type} (o : Option α) (g : α → Int) (p c : Int) : Prop := ∃ r, o = some r ∧ p ≤ g r ∧ g r ≤ p + c
theorem dr_bind {α β : Type} {o : Option α} {f : α → Option β} {g : α → Int} {g' : β → Int} {p c P C : Int} (h : Dr o g p c) (k : ∀ r, p ≤ g r → g r ≤ p + c → Dr (f r) g' P C) : Dr (o.bind f) g' P C := by
  obtain ⟨r, e, h1, h2⟩ := h
  rw [e]
  exact k r h1 h2
theorem dr_ite {α : Type} {q : Prop} [Decidable q] {a b : Option α} {g : α → Int} {p c : Int} (h : Dr a g p c) (k : Dr b g p c) : Dr (if q then a else b) g p c := by
  split
  · exact h
  · exact k
theorem pick_dr {s : List Int} (hs : Code s) {k : Nat} {p n : Int} (hk : 0 < k) (h0 : 0 ≤ p) (h1 : p ≤ 1000000) : Dr (spec_l1Rd_pick.f k s p n) (fun r => r.2) p 1 := by
  obtain ⟨v, e, _⟩ := pick_eq hs (n := n) hk h0 h1
  exact ⟨_, e, by dsimp only; omega, by dsimp only; omega⟩
theorem one_dr {s : List Int} (hs : Code s) {k : Nat} {p : Int} {xs : List Int} (hk : 0 < k) (h0 : 0 ≤ p) (h1 : p ≤ 1000000) (hx : 0 < xs.length) : Dr (spec_l1Rd_one.f k s p xs) (fun r => r.2) p 1 := by
  obtain ⟨v, e, _⟩ := one_eq hs (xs := xs) (P := fun _ => True) (by simp) hk h0 h1 hx
  exact ⟨_, e, by dsimp only; omega, by dsimp only; omega⟩

theorem drive_dr {s : List Int} (hs : Code s) {k : Nat} {p m : Int} (hk : 0 < k) (h0 : 0 ≤ p) (h1 : p ≤ 800000) : Dr (spec_l11Drive.f k s p m) (fun r => r.2.2) p 3 := by
  unfold spec_l11Drive.f
  refine dr_bind (one_dr hs hk (by omega) (by omega) (by simp)) fun a ha ha' => ?_
  refine dr_bind (pick_dr hs hk (by omega) (by omega)) fun b hb hb' => ?_
  refine dr_bind (pick_dr hs hk (by omega) (by omega)) fun c hc hc' => ?_
  exact ⟨_, rfl, by dsimp only; omega, by dsimp only; omega⟩

theorem shape_dr {s : List Int} (hs : Code s) {k : Nat} {p : Int} (hk : 0 < k) (h0 : 0 ≤ p) (h1 : p ≤ 900000) : Dr (spec_l11Shape.f k s p) (fun r => r.2.2.2) p 5 := by
  unfold spec_l11Shape.f
  refine dr_bind (pick_dr hs hk (by omega) (by omega)) fun a ha ha' => ?_
  refine dr_bind (one_dr hs hk (by omega) (by omega) (by simp)) fun b hb hb' => ?_
  refine dr_bind (pick_dr hs hk (by omega) (by omega)) fun c hc hc' => ?_
  refine dr_ite ?_ ?_
  · exact ⟨_, rfl, by dsimp only; omega, by dsimp only; omega⟩
  · refine dr_bind (pick_dr hs hk (by omega) (by omega)) fun d hd hd' => ?_
    refine dr_bind (one_dr hs hk (by omega) (by omega) (by simp)) fun e he he' => ?_
    exact ⟨_, rfl, by dsimp only; omega, by dsimp only; omega⟩

theorem place_dr {s : List Int} (hs : Code s) {k : Nat} {p : Int} (hk : 0 < k) (h0 : 0 ≤ p) (h1 : p ≤ 900000) : Dr (spec_l11Place.f k s p) (fun r => r.2.2) p 2 := by
  unfold spec_l11Place.f
  refine dr_bind (pick_dr hs hk (by omega) (by omega)) fun a ha ha' => ?_
  refine dr_bind (pick_dr hs hk (by omega) (by omega)) fun b hb hb' => ?_
  exact ⟨_, rfl, by dsimp only; omega, by dsimp only; omega⟩

theorem body_dr {s : List Int} (hs : Code s) {k : Nat} {p i : Int} (hk : 0 < k) (h0 : 0 ≤ p) (h1 : p ≤ 700000) : Dr (spec_l11Body.f k s p i) (fun r => r.2.2.2.2.2.2.2.2.2.2.2.2) p 20 := by
  unfold spec_l11Body.f
  refine dr_bind (shape_dr hs hk (by omega) (by omega)) fun a ha ha' => ?_
  refine dr_bind (place_dr hs hk (by omega) (by omega)) fun b hb hb' => ?_
  refine dr_bind (one_dr hs hk (by omega) (by omega) (by simp)) fun c hc hc' => ?_
  refine dr_bind (one_dr hs hk (by omega) (by omega) (by simp)) fun d hd hd' => ?_
  refine dr_bind (one_dr hs hk (by omega) (by omega) (by simp)) fun e he he' => ?_
  refine dr_bind (drive_dr hs hk (by omega) (by omega)) fun f hf hf' => ?_
  refine dr_bind (pick_dr hs hk (by omega) (by omega)) fun g hg hg' => ?_
  refine dr_ite ?_ (dr_ite (dr_ite ?_ ?_) (dr_ite ?_ ?_))
  · refine dr_bind (pick_dr hs hk (by omega) (by omega)) fun h hh hh' => ?_
    refine dr_ite ?_ ?_
    · exact ⟨_, rfl, by dsimp only; omega, by dsimp only; omega⟩
    · exact ⟨_, rfl, by dsimp only; omega, by dsimp only; omega⟩
  all_goals exact ⟨_, rfl, by dsimp only; omega, by dsimp only; omega⟩

theorem anyshape_dr {s : List Int} (hs : Code s) {k : Nat} {p : Int} (hk : 0 < k) (h0 : 0 ≤ p) (h1 : p ≤ 800000) : Dr (spec_l11AnyShape.f k s p) (fun r => r.2.2.2) p 7 := by
  unfold spec_l11AnyShape.f
  refine dr_bind (shape_dr hs hk (by omega) (by omega)) fun a ha ha' => ?_
  refine dr_bind (pick_dr hs hk (by omega) (by omega)) fun b hb hb' => ?_
  refine dr_ite ?_ (dr_ite ?_ (dr_ite ?_ ?_))
  · refine dr_bind (one_dr hs hk (by omega) (by omega) (by simp)) fun c hc hc' => ?_
    exact ⟨_, rfl, by dsimp only; omega, by dsimp only; omega⟩
  · refine dr_bind (one_dr hs hk (by omega) (by omega) (by simp)) fun c hc hc' => ?_
    exact ⟨_, rfl, by dsimp only; omega, by dsimp only; omega⟩
  · refine dr_bind (one_dr hs hk (by omega) (by omega) (by simp)) fun c hc hc' => ?_
    exact ⟨_, rfl, by dsimp only; omega, by dsimp only; omega⟩
  · exact ⟨_, rfl, by dsimp only; omega, by dsimp only; omega⟩

theorem anyplace_dr {s : List Int} (hs : Code s) {k : Nat} {p : Int} (hk : 0 < k) (h0 : 0 ≤ p) (h1 : p ≤ 800000) : Dr (spec_l11AnyPlace.f k s p) (fun r => r.2.2) p 4 := by
  unfold spec_l11AnyPlace.f
  refine dr_bind (place_dr hs hk (by omega) (by omega)) fun a ha ha' => ?_
  refine dr_bind (pick_dr hs hk (by omega) (by omega)) fun b hb hb' => ?_
  refine dr_ite ?_ (dr_ite ?_ ?_)
  · refine dr_bind (one_dr hs hk (by omega) (by omega) (by simp)) fun c hc hc' => ?_
    exact ⟨_, rfl, by dsimp only; omega, by dsimp only; omega⟩
  · refine dr_bind (one_dr hs hk (by omega) (by omega) (by simp)) fun c hc hc' => ?_
    exact ⟨_, rfl, by dsimp only; omega, by dsimp only; omega⟩
  · exact ⟨_, rfl, by dsimp only; omega, by dsimp only; omega⟩

theorem anybody_dr {s : List Int} (hs : Code s) {k : Nat} {p : Int} (hk : 0 < k) (h0 : 0 ≤ p) (h1 : p ≤ 600000) : Dr (spec_l11AnyBody.f k s p) (fun r => r.2.2.2.2.2.2.2.2.2.2.2.2) p 30 := by
  unfold spec_l11AnyBody.f
  refine dr_bind (pick_dr hs hk (by omega) (by omega)) fun a ha ha' => ?_
  refine dr_bind (body_dr hs hk (by omega) (by omega)) fun b hb hb' => ?_
  refine dr_bind (pick_dr hs hk (by omega) (by omega)) fun c hc hc' => ?_
  refine dr_ite ?_ (dr_ite ?_ (dr_ite ?_ (dr_ite ?_ (dr_ite ?_ (dr_ite ?_ (dr_ite ?_ (dr_ite ?_ ?_)))))))
  · refine dr_bind (one_dr hs hk (by omega) (by omega) (by simp)) fun d hd hd' => ?_
    exact ⟨_, rfl, by dsimp only; omega, by dsimp only; omega⟩
  · refine dr_bind (anyshape_dr hs hk (by omega) (by omega)) fun d hd hd' => ?_
    exact ⟨_, rfl, by dsimp only; omega, by dsimp only; omega⟩
  · refine dr_bind (anyplace_dr hs hk (by omega) (by omega)) fun d hd hd' => ?_
    exact ⟨_, rfl, by dsimp only; omega, by dsimp only; omega⟩
  · refine dr_bind (one_dr hs hk (by omega) (by omega) (by simp)) fun d hd hd' => ?_
    exact ⟨_, rfl, by dsimp only; omega, by dsimp only; omega⟩
  · refine dr_bind (one_dr hs hk (by omega) (by omega) (by simp)) fun d hd hd' => ?_
    exact ⟨_, rfl, by dsimp only; omega, by dsimp only; omega⟩
  · refine dr_bind (one_dr hs hk (by omega) (by omega) (by simp)) fun d hd hd' => ?_
    exact ⟨_, rfl, by dsimp only; omega, by dsimp only; omega⟩
  · refine dr_bind (one_dr hs hk (by omega) (by omega) (by simp)) fun d hd hd' => ?_
    exact ⟨_, rfl, by dsimp only; omega, by dsimp only; omega⟩
  · refine dr_bind (one_dr hs hk (by omega) (by omega) (by simp)) fun d hd hd' => ?_
    exact ⟨_, rfl, by dsimp only; omega, by dsimp only; omega⟩
  · exact ⟨_, rfl, by dsimp only; omega, by dsimp only; omega⟩

theorem spec_DrawBodyPush_some {l : List Int} (h : ∀ x ∈ l, (Lit.int .u8 x).wf = true) {k : Nat} (hk : 0 < k) : ∃ r, spec_DrawBodyPush.f k l = some r := by
  obtain ⟨s, e, hs⟩ := spec_l1Open_eq h
  unfold spec_DrawBodyPush.f
  rw [e]
  simp only [Option.bind_some]
  obtain ⟨r, e1, h1, h2⟩ := anybody_dr (k := k) hs hk (p := 0) (by omega) (by omega)
  rw [e1]
  dsimp only at h1 h2
  simp only [Option.bind_some]
  obtain ⟨r2, e2, h3, h4⟩ := drive_dr (k := k) hs hk (p := r.2.2.2.2.2.2.2.2.2.2.2.2) (m := 3) (by omega) (by omega)
  rw [e2]
  dsimp only at h3 h4
  simp only [Option.bind_some]
  obtain ⟨r3, e3, h5, h6⟩ := pick_dr (k := k) hs hk (p := r2.2.2) (n := 10) (by omega) (by omega)
  rw [e3]
  dsimp only at h5 h6
  simp only [Option.bind_some]
  obtain ⟨r4, e4, _, _⟩ := one_dr (k := k) hs hk (p := r3.2) (xs := [20000000, 20000001]) (by omega) (by omega) (by simp)
  obtain ⟨r5, e5, _, _⟩ := one_dr (k := k) hs hk (p := r3.2) (xs := [(-20000000), (-20000001)]) (by omega) (by omega) (by simp)
  rw [e4, e5]
  simp only [Option.bind_some]
  split
  · exact ⟨_, rfl⟩
  · split <;> exact ⟨_, rfl⟩

def drv (x y : Int) : Bool := inB x (-20000000) 20000000 && inB y (-20000000) 20000000

def rest0 (dx dy m q : Int) : Bool := if m = 0 then (dx == 0 && (dy == 0)) && (q == 0) else decide (q < 8) || (dx == 0 && (dy == 0))
def bodyOk (i sk sw sh ax ay dx dy m bo ru q : Int) : Bool :=
  inB i 0 999999999 && (shapeOk sk sw sh && (place ax ay && (drv dx dy && (inB m 0 1000 && (inB bo 0 256 && (inB ru 0 256 && (inB q 0 8 && rest0 dx dy m q)))))))

theorem impl_within_eq {a m : Int} (h0 : 0 ≤ m) (h1 : m ≤ 1000000000000) : impl_within.f a m = some (wi a m) := by
  unfold impl_within.f wi
  rw [wrap_id (by omega) (by omega), mx_eq, mn_eq]

theorem impl_Vec_clamped_eq {a b m : Int} (h0 : 0 ≤ m) (h1 : m ≤ 1000000000000) : impl_Vec_clamped.f a b m = some (wi a m, wi b m) := by
  unfold impl_Vec_clamped.f
  simp only [impl_within_eq h0 h1, Option.bind_some]
theorem impl_Vec_clamped_cl (a b : Int) : impl_Vec_clamped.f a b 1000000000 = some (cl a, cl b) := by
  rw [impl_Vec_clamped_eq (by omega) (by omega), wi_cl, wi_cl]

theorem impl_Vec_plus_eq (a b c d : Int) : impl_Vec_plus.f a b c d = some (wrap64 (a + c), wrap64 (b + d)) := rfl

theorem spec_l3Less_eq (a b : Int) : spec_l3Less.f a b = some (min a b) := by
  unfold spec_l3Less.f; split <;> simp <;> omega

theorem spec_l3More_eq (a b : Int) : spec_l3More.f a b = some (max a b) := by
  unfold spec_l3More.f; split <;> simp <;> omega

theorem spec_l6Within_eq {a m : Int} (h0 : 0 ≤ m) (h1 : m ≤ 1000000000000) : spec_l6Within.f a m = some (wi a m) := by
  unfold spec_l6Within.f wi
  rw [wrap_id (by omega) (by omega)]
  simp only [spec_l3Less_eq, spec_l3More_eq, Option.bind_some, Option.some.injEq]
  omega

theorem impl_Body_fixed_eq (i sk sw sh ax ay dx dy m bo ru q : Int) : impl_Body_fixed.f i sk sw sh ax ay dx dy m bo ru q = some (m == 0) := rfl

abbrev B12 := Int × Int × Int × Int × Int × Int × Int × Int × Int × Int × Int × Int
/-- A body that is pushed. -/
def psh (i sk sw sh ax ay dx dy m bo ru q p0 p1 : Int) : B12 :=
  if m = 0 then (i, sk, sw, sh, ax, ay, dx, dy, m, bo, ru, q) else (i, sk, sw, sh, ax, ay, wi (wrap64 (dx + p0)) 20000000, wi (wrap64 (dy + p1)) 20000000, m, bo, ru, 0)
theorem impl_Body_push_eq (i sk sw sh ax ay dx dy m bo ru q p0 p1 : Int) : impl_Body_push.f i sk sw sh ax ay dx dy m bo ru q p0 p1 = some (psh i sk sw sh ax ay dx dy m bo ru q p0 p1) := by
  unfold impl_Body_push.f psh
  simp only [impl_Body_fixed_eq, Option.bind_some, beq_iff_eq, impl_Vec_plus_eq, impl_Vec_clamped_eq (show (0 : Int) ≤ 20000000 by omega) (by omega)]
  split <;> rfl
theorem spec_l6Push_eq (i sk sw sh ax ay dx dy m bo ru q p0 p1 : Int) : spec_l6Push.f i sk sw sh ax ay dx dy m bo ru q p0 p1 = some (psh i sk sw sh ax ay dx dy m bo ru q p0 p1) := by
  unfold spec_l6Push.f psh
  simp only [spec_l6Within_eq (show (0 : Int) ≤ 20000000 by omega) (by omega), Option.bind_some]
  split <;> rfl
def zero12 : B12 := (0, 0, 0, 0, 0, 0, 0, 0, 0, 0, 0, 0)

theorem spec_l1In_eq (a l h : Int) : spec_l1In.f a l h = some (inB a l h) := by
  unfold spec_l1In.f inB
  split <;> simp <;> omega

theorem spec_ShapeOk_eq (k w h : Int) : spec_ShapeOk.f k w h = some (shapeOk k w h) := by
  unfold spec_ShapeOk.f shapeOk
  simp only [spec_l1In_eq, Option.bind_some]
  by_cases h1 : k = 1
  · rw [if_pos h1, if_pos h1]; cases inB w 1 25600 <;> simp
  · rw [if_neg h1, if_neg h1]
    by_cases h2 : k = 2
    · rw [if_pos h2, if_pos h2]; cases inB w 1 25600 <;> simp
    · rw [if_neg h2, if_neg h2]

theorem spec_l3Place_eq (a b : Int) : spec_l3Place.f a b = some (place a b) := by
  unfold spec_l3Place.f place
  simp only [spec_l1In_eq, Option.bind_some]
  cases inB a (-2560000) 2560000 <;> simp

theorem spec_l6Drive_eq (a b : Int) : spec_l6Drive.f a b = some (drv a b) := by
  unfold spec_l6Drive.f drv
  simp only [spec_l1In_eq, Option.bind_some]
  cases inB a (-20000000) 20000000 <;> simp

theorem spec_BodyOk_eq {k : Nat} (hk : 0 < k) (i sk sw sh ax ay dx dy m bo ru q : Int) : spec_BodyOk.f k i sk sw sh ax ay dx dy m bo ru q = some (bodyOk i sk sw sh ax ay dx dy m bo ru q) := by
  obtain ⟨k, rfl⟩ : ∃ m, k = m + 1 := ⟨k - 1, by omega⟩
  unfold spec_BodyOk.f bodyOk
  simp only [spec_l1In_eq, spec_ShapeOk_eq, spec_l3Place_eq, spec_l6Drive_eq, Option.bind_some, spec_BodyOk.j0]
  cases inB i 0 999999999
  · simp
  cases shapeOk sk sw sh
  · simp
  cases place ax ay
  · simp
  cases drv dx dy
  · simp
  cases inB m 0 1000
  · simp
  cases inB bo 0 256
  · simp
  cases inB ru 0 256
  · simp
  cases inB q 0 8
  · simp
  unfold rest0
  by_cases hm : m = 0
  · cases hd : (dx == 0 && (dy == 0)) <;> simp [hm]
  · by_cases hq : q < 8 <;> simp [hm, hq]

theorem impl_in_eq (a l h : Int) : impl_in.f a l h = some (inB a l h) := by
  unfold impl_in.f inB
  split <;> simp <;> omega

theorem impl_ShapeOk_eq (k w h : Int) : impl_ShapeOk.f k w h = some (shapeOk k w h) := by
  unfold impl_ShapeOk.f shapeOk
  simp only [impl_in_eq, Option.bind_some]
  by_cases h1 : k = 1
  · rw [if_pos h1, if_pos h1]; cases inB w 1 25600 <;> simp
  · rw [if_neg h1, if_neg h1]
    by_cases h2 : k = 2
    · rw [if_pos h2, if_pos h2]; cases inB w 1 25600 <;> simp
    · rw [if_neg h2, if_neg h2]

theorem impl_isPlace_eq (a b : Int) : impl_isPlace.f a b = some (place a b) := by
  unfold impl_isPlace.f place
  simp only [impl_in_eq, Option.bind_some]
  cases inB a (-2560000) 2560000 <;> simp

theorem wi_same (a m : Int) (h : 0 ≤ m) : (a == wi a m) = inB a (-m) m := by
  rw [Bool.eq_iff_iff, beq_iff_eq, inB_iff]
  unfold wi
  omega
theorem impl_isDrive_eq (a b : Int) : impl_isDrive.f a b = some (drv a b) := by
  unfold impl_isDrive.f drv
  rw [impl_Vec_clamped_eq (by omega) (by omega)]
  simp only [Option.bind_some, wi_same _ 20000000 (by omega)]

theorem impl_Body_sleeps_eq (i sk sw sh ax ay dx dy m bo ru q : Int) : impl_Body_sleeps.f i sk sw sh ax ay dx dy m bo ru q = some (q == 8) := rfl

theorem impl_BodyOk_eq {k : Nat} (hk : 1 < k) (i sk sw sh ax ay dx dy m bo ru q : Int) : impl_BodyOk.f k i sk sw sh ax ay dx dy m bo ru q = some (bodyOk i sk sw sh ax ay dx dy m bo ru q) := by
  obtain ⟨k, rfl⟩ : ∃ m, k = m + 1 + 1 := ⟨k - 2, by omega⟩
  unfold impl_BodyOk.f bodyOk
  simp only [impl_in_eq, impl_ShapeOk_eq, impl_isPlace_eq, impl_isDrive_eq, Option.bind_some, impl_BodyOk.j0, impl_BodyOk.j1, impl_Body_fixed_eq, impl_Body_sleeps_eq]
  cases inB i 0 999999999
  · simp
  cases shapeOk sk sw sh
  · simp
  cases place ax ay
  · simp
  cases drv dx dy
  · simp
  cases inB m 0 1000
  · simp
  cases inB bo 0 256
  · simp
  cases inB ru 0 256
  · simp
  cases hq8 : inB q 0 8
  · simp
  rw [inB_iff] at hq8
  unfold rest0
  by_cases hm : m = 0
  · cases hd : (dx == 0 && (dy == 0))
    · simp [hm]
    · by_cases hq : q = 0 <;> simp [hm, hq]
  · by_cases hq : q = 8
    · simp [hm, hq]
    · simp [hm, hq, show q < 8 by omega]

theorem impl_BodyPush_eq {k : Nat} (hk : 1 < k) (i sk sw sh ax ay dx dy m bo ru q p0 p1 : Int) : impl_BodyPush.f k i sk sw sh ax ay dx dy m bo ru q p0 p1 = some (if bodyOk i sk sw sh ax ay dx dy m bo ru q && drv p0 p1 then psh i sk sw sh ax ay dx dy m bo ru q p0 p1 else zero12) := by
  unfold impl_BodyPush.f
  simp only [impl_BodyOk_eq hk, impl_isDrive_eq, impl_Body_push_eq, Option.bind_some]
  cases bodyOk i sk sw sh ax ay dx dy m bo ru q <;> cases drv p0 p1 <;> rfl
theorem spec_BodyPush_eq {k : Nat} (hk : 0 < k) (i sk sw sh ax ay dx dy m bo ru q p0 p1 : Int) : spec_BodyPush.f k i sk sw sh ax ay dx dy m bo ru q p0 p1 = some (if bodyOk i sk sw sh ax ay dx dy m bo ru q && drv p0 p1 then psh i sk sw sh ax ay dx dy m bo ru q p0 p1 else zero12) := by
  unfold spec_BodyPush.f
  simp only [spec_BodyOk_eq hk, spec_l6Drive_eq, spec_l6Push_eq, Option.bind_some]
  cases bodyOk i sk sw sh ax ay dx dy m bo ru q <;> cases drv p0 p1 <;> rfl

theorem impl_BodySleeps_eq {k : Nat} (hk : 1 < k) (i sk sw sh ax ay dx dy m bo ru q : Int) : impl_BodySleeps.f k i sk sw sh ax ay dx dy m bo ru q = some (bodyOk i sk sw sh ax ay dx dy m bo ru q && (q == 8)) := by
  unfold impl_BodySleeps.f
  simp only [impl_BodyOk_eq hk, Option.bind_some, impl_Body_sleeps_eq]
  cases bodyOk i sk sw sh ax ay dx dy m bo ru q <;> rfl

theorem laws_pqAbs_eq {a : Int} (h : -9223372036854775808 < a) (h' : a < 9223372036854775808) : laws_pqAbs.f a = some (if a < 0 then -a else a) := by
  unfold laws_pqAbs.f
  split
  · rw [wrap_id (by omega) (by omega)]
  · rfl

theorem wi_in {a m : Int} (h : -m ≤ a) (h' : a ≤ m) : wi a m = a := by unfold wi; omega
theorem wi_bd {a m : Int} (h : 0 ≤ m) : -m ≤ wi a m ∧ wi a m ≤ m := by unfold wi; omega
theorem FnBodyPush : laws_FnBodyPush.Pure := by
  intro l _ _ hw
  refine ⟨99 + 1 + 1 + 1, ?_⟩
  unfold laws_FnBodyPush.f
  by_cases hl : (l.length : Int) > 1048576
  · rw [if_pos hl]
  rw [if_neg hl]
  obtain ⟨⟨i, sk, sw, sh, ax, ay, dx, dy, m, bo, ru, q, p0, p1⟩, ea⟩ := spec_DrawBodyPush_some hw (k := 99 + 1 + 1 + 1) (by omega)
  rw [ea]
  simp only [Option.bind_some, spec_BodyPush_eq (show 0 < 99 + 1 + 1 + 1 by omega), impl_BodyPush_eq (show 1 < 99 + 1 + 1 + 1 by omega), spec_BodyOk_eq (show 0 < 99 + 1 + 1 + 1 by omega), beq_self_eq_true, Bool.not_true, Bool.or_self, Bool.false_eq_true, if_false]
  cases h : bodyOk i sk sw sh ax ay dx dy m bo ru q
  · simp [laws_FnBodyPush.j0, spec_BodyPush_eq (show 0 < 99 + 1 + 1 by omega), h]
  simp only [if_true, Bool.true_and]
  cases hd : drv p0 p1
  · simp [laws_FnBodyPush.j0, spec_BodyPush_eq (show 0 < 99 + 1 + 1 by omega), h, hd, zero12]
  simp only [if_true]
  have hp := h
  have hdp := hd
  simp only [bodyOk, drv, rest0, inB, Bool.and_eq_true, decide_eq_true_eq] at hp
  simp only [drv, inB, Bool.and_eq_true, decide_eq_true_eq] at hdp
  have w1 : wrap64 (dx + p0) = dx + p0 := wrap_id (by omega) (by omega)
  have w2 : wrap64 (dy + p1) = dy + p1 := wrap_id (by omega) (by omega)
  by_cases hm : m = 0
  · subst hm
    simp only [psh, if_true]
    simp only [laws_FnBodyPush.j0, spec_BodyPush_eq (show 0 < 99 + 1 + 1 by omega), h, hd, Bool.and_self, if_true, psh, Option.bind_some, beq_self_eq_true]
    split <;> rfl
  · have b1 := wi_bd (a := dx + p0) (m := 20000000) (by omega)
    have b2 := wi_bd (a := dy + p1) (m := 20000000) (by omega)
    have hx : bodyOk i sk sw sh ax ay (wi (dx + p0) 20000000) (wi (dy + p1) 20000000) m bo ru 0 = true := by
      simp only [bodyOk, drv, rest0, inB, Bool.and_eq_true, decide_eq_true_eq, if_neg hm]
      refine ⟨hp.1, hp.2.1, hp.2.2.1, ⟨by omega, by omega⟩, hp.2.2.2.2.1, hp.2.2.2.2.2.1, hp.2.2.2.2.2.2.1, by omega, by simp⟩
    simp only [psh, if_neg hm, w1, w2]
    by_cases hz : (i == 0 && ((sk == 0 && (sw == 0 && (sh == 0))) && ((ax == 0 && (ay == 0)) && ((wi (dx + p0) 20000000 == 0 && (wi (dy + p1) 20000000 == 0)) && (m == 0 && (bo == 0 && (ru == 0 && ((0 : Int) == 0)))))))) = true
    · exfalso
      simp only [Bool.and_eq_true, beq_iff_eq] at hz
      exact hm hz.2.2.2.2.1
    · have hz' := Bool.eq_false_iff.mpr hz
      rw [hz']
      simp only [laws_FnBodyPush.j0, Bool.false_eq_true, if_false, if_neg hm, impl_BodyOk_eq (show 1 < 99 + 1 + 1 by omega), impl_BodySleeps_eq (show 1 < 99 + 1 + 1 by omega), hx, Option.bind_some, if_true, Bool.true_and, beq_self_eq_true, Bool.not_true, Bool.or_self, w1, w2]
      have q0 : ((0 : Int) == 8) = false := rfl
      rw [laws_pqAbs_eq (a := dx + p0) (by omega) (by omega), laws_pqAbs_eq (a := dy + p1) (by omega) (by omega)]
      simp only [q0, Bool.false_eq_true, if_false, Option.bind_some]
      have J : ∀ b : Bool, (b = false → (-20000000 ≤ dx + p0 ∧ dx + p0 ≤ 20000000) ∧ (-20000000 ≤ dy + p1 ∧ dy + p1 ≤ 20000000)) → laws_FnBodyPush.j1 (99 + 1 + 1) b i sk sw sh ax ay dx dy m bo ru q p0 p1 i sk sw sh ax ay (wi (dx + p0) 20000000) (wi (dy + p1) 20000000) m bo ru 0 (dx + p0) (dy + p1) = some true := by
        intro b hb
        cases b with
        | true => simp only [laws_FnBodyPush.j1, if_true, impl_BodyOk_eq (show 1 < 99 + 1 by omega), impl_BodySleeps_eq (show 1 < 99 + 1 by omega), hx, Option.bind_some, Bool.true_and, q0, Bool.false_eq_true, if_false, beq_self_eq_true, Bool.and_self]
        | false =>
          obtain ⟨g1, g2⟩ := hb rfl
          have n1 : wrap64 (-p0) = -p0 := wrap_id (by omega) (by omega)
          have n2 : wrap64 (-p1) = -p1 := wrap_id (by omega) (by omega)
          have hdn : drv (-p0) (-p1) = true := by
            simp only [drv, inB, Bool.and_eq_true, decide_eq_true_eq]
            omega
          have i1 : wi (dx + p0) 20000000 = dx + p0 := wi_in (by omega) (by omega)
          have i2 : wi (dy + p1) 20000000 = dy + p1 := wi_in (by omega) (by omega)
          rw [i1, i2] at hx
          simp only [laws_FnBodyPush.j1, Bool.false_eq_true, if_false, i1, i2, beq_self_eq_true, Bool.and_self, if_true, n1, n2, impl_BodyPush_eq (show 1 < 99 + 1 by omega), hx, hdn, psh, if_neg hm, Option.bind_some]
          have e1 : wrap64 (dx + p0 + -p0) = dx := by rw [wrap_id (by omega) (by omega)]; omega
          have e2 : wrap64 (dy + p1 + -p1) = dy := by rw [wrap_id (by omega) (by omega)]; omega
          rw [e1, e2, wi_in (by omega) (by omega), wi_in (by omega) (by omega)]
          simp
      by_cases h1 : (if dx + p0 < 0 then -(dx + p0) else dx + p0) > 20000000
      · rw [if_pos h1]; exact J true (by simp)
      · rw [if_neg h1]
        refine J _ ?_
        intro h2
        simp only [decide_eq_false_iff_not] at h2
        refine ⟨?_, ?_⟩
        · split at h1 <;> omega
        · split at h2 <;> omega

end Go.Proofs.Ytihajbjkjclmoaa.Pure
