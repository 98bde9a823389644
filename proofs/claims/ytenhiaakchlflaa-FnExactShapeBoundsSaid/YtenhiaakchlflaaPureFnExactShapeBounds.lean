/- FnExactShapeBounds: what the program computes is what the reference computes, or has the law's properties, at all whole numbers and lists that the statement lets in; no further condition. -/
import Derived.Test.YtenhiaakchlflaaStFnExactShapeBounds
import Derived.Test.YtenhiaakchlflaaMath
namespace Go.Proofs.Ytenhiaakchlflaa.Pure
open Go.RowKit Go.Proofs.Ytenhiaakchlflaa.PFnExactShapeBounds Go.Proofs.YtenhiaakchlflaaW.PrintWords Go.Proofs.YtenhiaakchlflaaW.PrintLast Go.Proofs.YtenhiaakchlflaaW.PrintMore Go.Proofs.Ytenhiaakchlflaa.Math
set_option linter.unusedVariables false
set_option linter.unusedSimpArgs false

theorem spec_l1In_eq (a l h : Int) : spec_l1In.f a l h = some (inB a l h) := by
  unfold spec_l1In.f inB
  split <;> simp <;> omega

theorem spec_ShapeOk_eq (k w h : Int) : spec_ShapeOk.f k w h = some (shapeOk k w h) := by
  unfold spec_ShapeOk.f shapeOk
  simp only [spec_l1In_eq, Option.bind_some]
  by_cases h1 : k = 1
  · rw [if_pos h1, if_pos h1]; cases inB w 1 25600 <;> simp
  · rw [if_neg h1, if_neg h1]
    by_cases h2 : k = 2
    · rw [if_pos h2, if_pos h2]; cases inB w 1 25600 <;> simp
    · rw [if_neg h2, if_neg h2]

theorem spec_l3Place_eq (a b : Int) : spec_l3Place.f a b = some (place a b) := by
  unfold spec_l3Place.f place
  simp only [spec_l1In_eq, Option.bind_some]
  cases inB a (-2560000) 2560000 <;> simp

/-- The bounds of a shape at a place. -/
def bnd (k w h x y : Int) : Int × Int × Int × Int := (wrap64 (x - w), wrap64 (y - (if k = 1 then w else h)), wrap64 (x + w), wrap64 (y + (if k = 1 then w else h)))

theorem spec_l3Bounds_eq (k w h x y : Int) : spec_l3Bounds.f k w h x y = some (bnd k w h x y) := by
  unfold spec_l3Bounds.f bnd
  split <;> rfl

/-- The bounds of a shape, if all is ok. -/
def sbnd (k w h x y : Int) : Int × Int × Int × Int := if shapeOk k w h && place x y then bnd k w h x y else (0, 0, 0, 0)

theorem spec_ShapeBounds_eq (k w h x y : Int) : spec_ShapeBounds.f k w h x y = some (sbnd k w h x y) := by
  unfold spec_ShapeBounds.f sbnd
  simp only [spec_ShapeOk_eq, spec_l3Place_eq, spec_l3Bounds_eq, Option.bind_some]
  cases shapeOk k w h <;> cases place x y <;> simp

theorem impl_in_eq (a l h : Int) : impl_in.f a l h = some (inB a l h) := by
  unfold impl_in.f inB
  split <;> simp <;> omega

theorem impl_ShapeOk_eq (k w h : Int) : impl_ShapeOk.f k w h = some (shapeOk k w h) := by
  unfold impl_ShapeOk.f shapeOk
  simp only [impl_in_eq, Option.bind_some]
  by_cases h1 : k = 1
  · rw [if_pos h1, if_pos h1]; cases inB w 1 25600 <;> simp
  · rw [if_neg h1, if_neg h1]
    by_cases h2 : k = 2
    · rw [if_pos h2, if_pos h2]; cases inB w 1 25600 <;> simp
    · rw [if_neg h2, if_neg h2]

theorem impl_isPlace_eq (a b : Int) : impl_isPlace.f a b = some (place a b) := by
  unfold impl_isPlace.f place
  simp only [impl_in_eq, Option.bind_some]
  cases inB a (-2560000) 2560000 <;> simp

theorem impl_Vec_minus_eq (a b c d : Int) : impl_Vec_minus.f a b c d = some (wrap64 (a - c), wrap64 (b - d)) := rfl

theorem impl_Vec_plus_eq (a b c d : Int) : impl_Vec_plus.f a b c d = some (wrap64 (a + c), wrap64 (b + d)) := rfl

theorem impl_Shape_bounds_eq (k w h x y : Int) : impl_Shape_bounds.f k w h x y = some (bnd k w h x y) := by
  unfold impl_Shape_bounds.f bnd
  simp only [impl_Vec_minus_eq, impl_Vec_plus_eq, Option.bind_some]
  split <;> rfl

theorem impl_ShapeBounds_eq (k w h x y : Int) : impl_ShapeBounds.f k w h x y = some (sbnd k w h x y) := by
  unfold impl_ShapeBounds.f sbnd
  simp only [impl_ShapeOk_eq, impl_isPlace_eq, impl_Shape_bounds_eq, Option.bind_some]
  cases shapeOk k w h <;> cases place x y <;> simp

theorem laws_eqVec_eq (a b c d : Int) : laws_eqVec.f a b c d = some (decide (a = c) && decide (b = d)) := by
  unfold laws_eqVec.f
  split <;> (try split) <;> simp_all

theorem laws_eqBox_same (x : Int × Int × Int × Int) : laws_eqBox.f x.1 x.2.1 x.2.2.1 x.2.2.2 x.1 x.2.1 x.2.2.1 x.2.2.2 = some true := by
  unfold laws_eqBox.f
  simp [laws_eqVec_eq]

theorem FnExactShapeBounds : laws_FnExactShapeBounds.Pure := by
  intro k w h x y _ _ _ _ _
  unfold laws_FnExactShapeBounds.f laws_toShape.f laws_toVec.f
  simp only [Option.bind_some, spec_ShapeBounds_eq, impl_ShapeBounds_eq, laws_eqBox_same, if_true]

end Go.Proofs.Ytenhiaakchlflaa.Pure
