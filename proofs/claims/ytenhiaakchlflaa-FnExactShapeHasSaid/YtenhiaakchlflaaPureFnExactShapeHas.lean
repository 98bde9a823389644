/- FnExactShapeHas: what the program computes is what the reference computes, or has the law's properties, at all whole numbers and lists that the statement lets in; no further condition. -/
import Derived.Test.YtenhiaakchlflaaStFnExactShapeHas
import Derived.Test.YtenhiaakchlflaaMath
namespace Go.Proofs.Ytenhiaakchlflaa.Pure
open Go.RowKit Go.Proofs.Ytenhiaakchlflaa.PFnExactShapeHas Go.Proofs.YtenhiaakchlflaaW.PrintWords Go.Proofs.YtenhiaakchlflaaW.PrintLast Go.Proofs.YtenhiaakchlflaaW.PrintMore Go.Proofs.Ytenhiaakchlflaa.Math
set_option linter.unusedVariables false
set_option linter.unusedSimpArgs false

theorem spec_l1In_eq (a l h : Int) : spec_l1In.f a l h = some (inB a l h) := by
  unfold spec_l1In.f inB
  split <;> simp <;> omega

theorem spec_ShapeOk_eq (k w h : Int) : spec_ShapeOk.f k w h = some (shapeOk k w h) := by
  unfold spec_ShapeOk.f shapeOk
  simp only [spec_l1In_eq, Option.bind_some]
  by_cases h1 : k = 1
  · rw [if_pos h1, if_pos h1]; cases inB w 1 25600 <;> simp
  · rw [if_neg h1, if_neg h1]
    by_cases h2 : k = 2
    · rw [if_pos h2, if_pos h2]; cases inB w 1 25600 <;> simp
    · rw [if_neg h2, if_neg h2]

theorem spec_l3Place_eq (a b : Int) : spec_l3Place.f a b = some (place a b) := by
  unfold spec_l3Place.f place
  simp only [spec_l1In_eq, Option.bind_some]
  cases inB a (-2560000) 2560000 <;> simp

/-- The bounds of a shape at a place. -/
def bnd (k w h x y : Int) : Int × Int × Int × Int := (wrap64 (x - w), wrap64 (y - (if k = 1 then w else h)), wrap64 (x + w), wrap64 (y + (if k = 1 then w else h)))

theorem spec_l3Bounds_eq (k w h x y : Int) : spec_l3Bounds.f k w h x y = some (bnd k w h x y) := by
  unfold spec_l3Bounds.f bnd
  split <;> rfl

theorem spec_l3Point_eq (a b c d x y : Int) : spec_l3Point.f a b c d x y = some (point a b c d x y) := by
  unfold spec_l3Point.f point
  simp only [spec_l1In_eq, Option.bind_some]
  cases inB x a c <;> simp

theorem bnd_ok {k w h x y : Int} (hs : shapeOk k w h = true) (hp : place x y = true) :
    bnd k w h x y = (x - w, y - (if k = 1 then w else h), x + w, y + (if k = 1 then w else h)) ∧ (1 ≤ w ∧ w ≤ 25600) ∧ (1 ≤ (if k = 1 then w else h) ∧ (if k = 1 then w else h) ≤ 25600) ∧ (-2560000 ≤ x ∧ x ≤ 2560000) ∧ (-2560000 ≤ y ∧ y ≤ 2560000) ∧ (k = 1 ∨ k = 2) := by
  simp only [place, Bool.and_eq_true, inB_iff] at hp
  unfold shapeOk at hs
  by_cases h1 : k = 1
  · rw [if_pos h1] at hs
    simp only [Bool.and_eq_true, inB_iff] at hs
    unfold bnd
    rw [if_pos h1, wrap_id (by omega) (by omega), wrap_id (by omega) (by omega), wrap_id (by omega) (by omega), wrap_id (by omega) (by omega)]
    exact ⟨rfl, hs.1, hs.1, hp.1, hp.2, .inl h1⟩
  · rw [if_neg h1] at hs
    by_cases h2 : k = 2
    · rw [if_pos h2] at hs
      simp only [Bool.and_eq_true, inB_iff] at hs
      unfold bnd
      rw [if_neg h1, wrap_id (by omega) (by omega), wrap_id (by omega) (by omega), wrap_id (by omega) (by omega), wrap_id (by omega) (by omega)]
      exact ⟨rfl, hs.1, hs.2, hp.1, hp.2, .inr h2⟩
    · rw [if_neg h2] at hs
      cases hs

/-- Has a shape a point, if all is ok? -/
def shas (k w h x y p q : Int) : Bool := shapeOk k w h && (place x y && (place p q && (if k = 2 then point (x - w) (y - h) (x + w) (y + h) p q else decide ((p - x) * (p - x) + (q - y) * (q - y) ≤ w * w))))
theorem small_sq {a b w : Int} (ha : -6000000 ≤ a ∧ a ≤ 6000000) (hb : -6000000 ≤ b ∧ b ≤ 6000000) (hw : 0 ≤ w ∧ w ≤ 100000) :
    wrap64 (wrap64 (a * a) + wrap64 (b * b)) = a * a + b * b ∧ wrap64 (w * w) = w * w := by
  have := sq_le_of ha.1 ha.2
  have := sq_le_of hb.1 hb.2
  have := sq_le_of (a := w) (m := 100000) (by omega) hw.2
  have := sq_nonneg a
  have := sq_nonneg b
  have := sq_nonneg w
  rw [wrap_id (n := a * a) (by omega) (by omega), wrap_id (n := b * b) (by omega) (by omega), wrap_id (by omega) (by omega), wrap_id (by omega) (by omega)]
  exact ⟨rfl, rfl⟩

theorem spec_ShapeHas_eq (k w h x y p q : Int) : spec_ShapeHas.f k w h x y p q = some (shas k w h x y p q) := by
  unfold spec_ShapeHas.f shas spec_l3Has.f spec_l2Square.f
  simp only [spec_ShapeOk_eq, spec_l3Place_eq, spec_l3Bounds_eq, spec_l3Point_eq, Option.bind_some]
  cases h1 : shapeOk k w h
  · simp
  cases h2 : place x y
  · simp
  cases h3 : place p q
  · simp
  obtain ⟨e, w1, v1, x1, y1, k1⟩ := bnd_ok h1 h2
  have h3' : (-2560000 ≤ p ∧ p ≤ 2560000) ∧ -2560000 ≤ q ∧ q ≤ 2560000 := by simpa [place, inB] using h3
  rcases k1 with rfl | rfl
  · obtain ⟨e1, e2⟩ := small_sq (a := p - x) (b := q - y) (w := w) (by omega) (by omega) (by omega)
    rw [wrap_id (n := p - x) (by omega) (by omega), wrap_id (n := q - y) (by omega) (by omega), e1, e2]
    simp
  · simp [e]

theorem impl_in_eq (a l h : Int) : impl_in.f a l h = some (inB a l h) := by
  unfold impl_in.f inB
  split <;> simp <;> omega

theorem impl_ShapeOk_eq (k w h : Int) : impl_ShapeOk.f k w h = some (shapeOk k w h) := by
  unfold impl_ShapeOk.f shapeOk
  simp only [impl_in_eq, Option.bind_some]
  by_cases h1 : k = 1
  · rw [if_pos h1, if_pos h1]; cases inB w 1 25600 <;> simp
  · rw [if_neg h1, if_neg h1]
    by_cases h2 : k = 2
    · rw [if_pos h2, if_pos h2]; cases inB w 1 25600 <;> simp
    · rw [if_neg h2, if_neg h2]

theorem impl_isPlace_eq (a b : Int) : impl_isPlace.f a b = some (place a b) := by
  unfold impl_isPlace.f place
  simp only [impl_in_eq, Option.bind_some]
  cases inB a (-2560000) 2560000 <;> simp

theorem impl_Vec_minus_eq (a b c d : Int) : impl_Vec_minus.f a b c d = some (wrap64 (a - c), wrap64 (b - d)) := rfl

theorem impl_Vec_plus_eq (a b c d : Int) : impl_Vec_plus.f a b c d = some (wrap64 (a + c), wrap64 (b + d)) := rfl

theorem impl_Shape_bounds_eq (k w h x y : Int) : impl_Shape_bounds.f k w h x y = some (bnd k w h x y) := by
  unfold impl_Shape_bounds.f bnd
  simp only [impl_Vec_minus_eq, impl_Vec_plus_eq, Option.bind_some]
  split <;> rfl

theorem impl_Box_has_eq (a b c d x y : Int) : impl_Box_has.f a b c d x y = some (point a b c d x y) := by
  unfold impl_Box_has.f point
  simp only [impl_in_eq, Option.bind_some]
  cases inB x a c <;> simp

theorem impl_ShapeHas_eq {n : Nat} (hn : 0 < n) (k w h x y p q : Int) : impl_ShapeHas.f n k w h x y p q = some (shas k w h x y p q) := by
  obtain ⟨n, rfl⟩ : ∃ m, n = m + 1 := ⟨n - 1, by omega⟩
  unfold impl_ShapeHas.f shas
  simp only [impl_ShapeOk_eq, impl_isPlace_eq, impl_ShapeHas.j0, impl_Shape_bounds_eq, impl_Box_has_eq, impl_Vec_minus_eq, impl_Vec_square.f, Option.bind_some]
  cases h1 : shapeOk k w h
  · simp
  cases h2 : place x y
  · simp
  cases h3 : place p q
  · simp
  obtain ⟨e, w1, v1, x1, y1, k1⟩ := bnd_ok h1 h2
  have h3' : (-2560000 ≤ p ∧ p ≤ 2560000) ∧ -2560000 ≤ q ∧ q ≤ 2560000 := by simpa [place, inB] using h3
  rcases k1 with rfl | rfl
  · obtain ⟨e1, e2⟩ := small_sq (a := p - x) (b := q - y) (w := w) (by omega) (by omega) (by omega)
    rw [wrap_id (n := p - x) (by omega) (by omega), wrap_id (n := q - y) (by omega) (by omega), e1, e2]
    simp
  · simp [e]

theorem FnExactShapeHas : laws_FnExactShapeHas.Pure := by
  intro k w h x y p q _ _ _ _ _ _ _
  refine ⟨100, ?_⟩
  unfold laws_FnExactShapeHas.f laws_toShape.f laws_toVec.f
  simp only [Option.bind_some, spec_ShapeHas_eq, impl_ShapeHas_eq (show 0 < 100 by omega)]
  simp

end Go.Proofs.Ytenhiaakchlflaa.Pure
