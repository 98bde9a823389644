/- FnExactBodyMove: what the program computes is what the reference computes, or has the law's properties, at all whole numbers and lists that the statement lets in; no further condition. -/
import Derived.Test.YtihajbjkjclmoaaStFnExactBodyMove
import Derived.Test.YtihajbjkjclmoaaMath
namespace Go.Proofs.Ytihajbjkjclmoaa.Pure
open Go.RowKit Go.Proofs.Ytihajbjkjclmoaa.PBig Go.Proofs.YtihajbjkjclmoaaW.PrintWords Go.Proofs.YtihajbjkjclmoaaW.PrintLast Go.Proofs.YtihajbjkjclmoaaW.PrintMore Go.Proofs.Ytihajbjkjclmoaa.Math
set_option linter.unusedVariables false
set_option linter.unusedSimpArgs false

def drv (x y : Int) : Bool := inB x (-20000000) 20000000 && inB y (-20000000) 20000000

def rest0 (dx dy m q : Int) : Bool := if m = 0 then (dx == 0 && (dy == 0)) && (q == 0) else decide (q < 8) || (dx == 0 && (dy == 0))
def bodyOk (i sk sw sh ax ay dx dy m bo ru q : Int) : Bool :=
  inB i 0 999999999 && (shapeOk sk sw sh && (place ax ay && (drv dx dy && (inB m 0 1000 && (inB bo 0 256 && (inB ru 0 256 && (inB q 0 8 && rest0 dx dy m q)))))))

/-- How far a body goes. -/
def spd (dx dy m : Int) : Int × Int := if m = 0 then (0, 0) else (wrap64 (Int.tdiv dx m), wrap64 (Int.tdiv dy m))

theorem impl_within_eq {a m : Int} (h0 : 0 ≤ m) (h1 : m ≤ 1000000000000) : impl_within.f a m = some (wi a m) := by
  unfold impl_within.f wi
  rw [wrap_id (by omega) (by omega), mx_eq, mn_eq]

theorem impl_Vec_clamped_eq {a b m : Int} (h0 : 0 ≤ m) (h1 : m ≤ 1000000000000) : impl_Vec_clamped.f a b m = some (wi a m, wi b m) := by
  unfold impl_Vec_clamped.f
  simp only [impl_within_eq h0 h1, Option.bind_some]
theorem impl_Vec_clamped_cl (a b : Int) : impl_Vec_clamped.f a b 1000000000 = some (cl a, cl b) := by
  rw [impl_Vec_clamped_eq (by omega) (by omega), wi_cl, wi_cl]

theorem impl_Vec_plus_eq (a b c d : Int) : impl_Vec_plus.f a b c d = some (wrap64 (a + c), wrap64 (b + d)) := rfl

theorem spec_l3Less_eq (a b : Int) : spec_l3Less.f a b = some (min a b) := by
  unfold spec_l3Less.f; split <;> simp <;> omega

theorem spec_l3More_eq (a b : Int) : spec_l3More.f a b = some (max a b) := by
  unfold spec_l3More.f; split <;> simp <;> omega

theorem spec_l6Within_eq {a m : Int} (h0 : 0 ≤ m) (h1 : m ≤ 1000000000000) : spec_l6Within.f a m = some (wi a m) := by
  unfold spec_l6Within.f wi
  rw [wrap_id (by omega) (by omega)]
  simp only [spec_l3Less_eq, spec_l3More_eq, Option.bind_some, Option.some.injEq]
  omega

theorem impl_Body_fixed_eq (i sk sw sh ax ay dx dy m bo ru q : Int) : impl_Body_fixed.f i sk sw sh ax ay dx dy m bo ru q = some (m == 0) := rfl

theorem spec_l6Speed_eq (i sk sw sh ax ay dx dy m bo ru q : Int) : spec_l6Speed.f i sk sw sh ax ay dx dy m bo ru q = some (if m = 0 then (0, 0) else (wrap64 (Int.tdiv dx m), wrap64 (Int.tdiv dy m))) := by
  unfold spec_l6Speed.f
  split <;> rfl

/-- A body that is moved. -/
def mvd (i sk sw sh ax ay dx dy m bo ru q v0 v1 : Int) : Int × Int × Int × Int × Int × Int × Int × Int × Int × Int × Int × Int :=
  (i, sk, sw, sh, wi (wrap64 (ax + v0)) 2560000, wi (wrap64 (ay + v1)) 2560000, if wi (wrap64 (ax + v0)) 2560000 = wrap64 (ax + v0) then dx else 0, if wi (wrap64 (ay + v1)) 2560000 = wrap64 (ay + v1) then dy else 0, m, bo, ru, q)
theorem impl_Body_move_eq (i sk sw sh ax ay dx dy m bo ru q v0 v1 : Int) : impl_Body_move.f i sk sw sh ax ay dx dy m bo ru q v0 v1 = some (mvd i sk sw sh ax ay dx dy m bo ru q v0 v1) := by
  unfold impl_Body_move.f mvd
  simp only [Option.bind_some, impl_Vec_plus_eq, impl_Vec_clamped_eq (show (0 : Int) ≤ 2560000 by omega) (by omega)]
theorem spec_l6Move_eq (i sk sw sh ax ay dx dy m bo ru q v0 v1 : Int) : spec_l6Move.f i sk sw sh ax ay dx dy m bo ru q v0 v1 = some (mvd i sk sw sh ax ay dx dy m bo ru q v0 v1) := by
  unfold spec_l6Move.f mvd
  simp only [spec_l6Within_eq (show (0 : Int) ≤ 2560000 by omega) (by omega), Option.bind_some]
  split <;> split <;> rfl

theorem spec_l1In_eq (a l h : Int) : spec_l1In.f a l h = some (inB a l h) := by
  unfold spec_l1In.f inB
  split <;> simp <;> omega

theorem spec_ShapeOk_eq (k w h : Int) : spec_ShapeOk.f k w h = some (shapeOk k w h) := by
  unfold spec_ShapeOk.f shapeOk
  simp only [spec_l1In_eq, Option.bind_some]
  by_cases h1 : k = 1
  · rw [if_pos h1, if_pos h1]; cases inB w 1 25600 <;> simp
  · rw [if_neg h1, if_neg h1]
    by_cases h2 : k = 2
    · rw [if_pos h2, if_pos h2]; cases inB w 1 25600 <;> simp
    · rw [if_neg h2, if_neg h2]

theorem spec_l3Place_eq (a b : Int) : spec_l3Place.f a b = some (place a b) := by
  unfold spec_l3Place.f place
  simp only [spec_l1In_eq, Option.bind_some]
  cases inB a (-2560000) 2560000 <;> simp

theorem spec_l6Drive_eq (a b : Int) : spec_l6Drive.f a b = some (drv a b) := by
  unfold spec_l6Drive.f drv
  simp only [spec_l1In_eq, Option.bind_some]
  cases inB a (-20000000) 20000000 <;> simp

theorem spec_BodyOk_eq {k : Nat} (hk : 0 < k) (i sk sw sh ax ay dx dy m bo ru q : Int) : spec_BodyOk.f k i sk sw sh ax ay dx dy m bo ru q = some (bodyOk i sk sw sh ax ay dx dy m bo ru q) := by
  obtain ⟨k, rfl⟩ : ∃ m, k = m + 1 := ⟨k - 1, by omega⟩
  unfold spec_BodyOk.f bodyOk
  simp only [spec_l1In_eq, spec_ShapeOk_eq, spec_l3Place_eq, spec_l6Drive_eq, Option.bind_some, spec_BodyOk.j0]
  cases inB i 0 999999999
  · simp
  cases shapeOk sk sw sh
  · simp
  cases place ax ay
  · simp
  cases drv dx dy
  · simp
  cases inB m 0 1000
  · simp
  cases inB bo 0 256
  · simp
  cases inB ru 0 256
  · simp
  cases inB q 0 8
  · simp
  unfold rest0
  by_cases hm : m = 0
  · cases hd : (dx == 0 && (dy == 0)) <;> simp [hm]
  · by_cases hq : q < 8 <;> simp [hm, hq]

theorem impl_in_eq (a l h : Int) : impl_in.f a l h = some (inB a l h) := by
  unfold impl_in.f inB
  split <;> simp <;> omega

theorem impl_ShapeOk_eq (k w h : Int) : impl_ShapeOk.f k w h = some (shapeOk k w h) := by
  unfold impl_ShapeOk.f shapeOk
  simp only [impl_in_eq, Option.bind_some]
  by_cases h1 : k = 1
  · rw [if_pos h1, if_pos h1]; cases inB w 1 25600 <;> simp
  · rw [if_neg h1, if_neg h1]
    by_cases h2 : k = 2
    · rw [if_pos h2, if_pos h2]; cases inB w 1 25600 <;> simp
    · rw [if_neg h2, if_neg h2]

theorem impl_isPlace_eq (a b : Int) : impl_isPlace.f a b = some (place a b) := by
  unfold impl_isPlace.f place
  simp only [impl_in_eq, Option.bind_some]
  cases inB a (-2560000) 2560000 <;> simp

theorem wi_same (a m : Int) (h : 0 ≤ m) : (a == wi a m) = inB a (-m) m := by
  rw [Bool.eq_iff_iff, beq_iff_eq, inB_iff]
  unfold wi
  omega
theorem impl_isDrive_eq (a b : Int) : impl_isDrive.f a b = some (drv a b) := by
  unfold impl_isDrive.f drv
  rw [impl_Vec_clamped_eq (by omega) (by omega)]
  simp only [Option.bind_some, wi_same _ 20000000 (by omega)]

theorem impl_Body_sleeps_eq (i sk sw sh ax ay dx dy m bo ru q : Int) : impl_Body_sleeps.f i sk sw sh ax ay dx dy m bo ru q = some (q == 8) := rfl

theorem impl_BodyOk_eq {k : Nat} (hk : 1 < k) (i sk sw sh ax ay dx dy m bo ru q : Int) : impl_BodyOk.f k i sk sw sh ax ay dx dy m bo ru q = some (bodyOk i sk sw sh ax ay dx dy m bo ru q) := by
  obtain ⟨k, rfl⟩ : ∃ m, k = m + 1 + 1 := ⟨k - 2, by omega⟩
  unfold impl_BodyOk.f bodyOk
  simp only [impl_in_eq, impl_ShapeOk_eq, impl_isPlace_eq, impl_isDrive_eq, Option.bind_some, impl_BodyOk.j0, impl_BodyOk.j1, impl_Body_fixed_eq, impl_Body_sleeps_eq]
  cases inB i 0 999999999
  · simp
  cases shapeOk sk sw sh
  · simp
  cases place ax ay
  · simp
  cases drv dx dy
  · simp
  cases inB m 0 1000
  · simp
  cases inB bo 0 256
  · simp
  cases inB ru 0 256
  · simp
  cases hq8 : inB q 0 8
  · simp
  rw [inB_iff] at hq8
  unfold rest0
  by_cases hm : m = 0
  · cases hd : (dx == 0 && (dy == 0))
    · simp [hm]
    · by_cases hq : q = 0 <;> simp [hm, hq]
  · by_cases hq : q = 8
    · simp [hm, hq]
    · simp [hm, hq, show q < 8 by omega]

theorem impl_Body_speed_eq (i sk sw sh ax ay dx dy m bo ru q : Int) : impl_Body_speed.f i sk sw sh ax ay dx dy m bo ru q = some (spd dx dy m) := by
  unfold impl_Body_speed.f spd
  simp only [impl_Body_fixed_eq, Option.bind_some, beq_iff_eq]
  split <;> rfl
theorem impl_BodyMove_eq {k : Nat} (hk : 1 < k) (i sk sw sh ax ay dx dy m bo ru q : Int) : impl_BodyMove.f k i sk sw sh ax ay dx dy m bo ru q = some (if bodyOk i sk sw sh ax ay dx dy m bo ru q then mvd i sk sw sh ax ay dx dy m bo ru q (spd dx dy m).1 (spd dx dy m).2 else (0, 0, 0, 0, 0, 0, 0, 0, 0, 0, 0, 0)) := by
  unfold impl_BodyMove.f
  simp only [impl_BodyOk_eq hk, impl_Body_speed_eq, impl_Body_move_eq, Option.bind_some]
  cases bodyOk i sk sw sh ax ay dx dy m bo ru q <;> rfl
theorem spec_BodyMove_eq {k : Nat} (hk : 0 < k) (i sk sw sh ax ay dx dy m bo ru q : Int) : spec_BodyMove.f k i sk sw sh ax ay dx dy m bo ru q = some (if bodyOk i sk sw sh ax ay dx dy m bo ru q then mvd i sk sw sh ax ay dx dy m bo ru q (spd dx dy m).1 (spd dx dy m).2 else (0, 0, 0, 0, 0, 0, 0, 0, 0, 0, 0, 0)) := by
  unfold spec_BodyMove.f
  simp only [spec_BodyOk_eq hk, spec_l6Speed_eq, spec_l6Move_eq, Option.bind_some]
  cases bodyOk i sk sw sh ax ay dx dy m bo ru q <;> rfl

theorem laws_eqVec_eq (a b c d : Int) : laws_eqVec.f a b c d = some (decide (a = c) && decide (b = d)) := by
  unfold laws_eqVec.f
  split <;> (try split) <;> simp_all

theorem laws_eqBody_refl (i sk sw sh ax ay dx dy m bo ru q : Int) : laws_eqBody.f i sk sw sh ax ay dx dy m bo ru q i sk sw sh ax ay dx dy m bo ru q = some true := by
  unfold laws_eqBody.f laws_eqShape.f
  simp [laws_eqVec_eq]

theorem laws_toBody_eq (i sk sw sh ax ay dx dy m bo ru q : Int) : laws_toBody.f i sk sw sh ax ay dx dy m bo ru q = some (i, sk, sw, sh, ax, ay, dx, dy, m, bo, ru, q) := rfl

theorem FnExactBodyMove : laws_FnExactBodyMove.Pure := by
  intro i sk sw sh ax ay dx dy m bo ru q _ _ _ _ _ _ _ _ _ _ _ _
  refine ⟨100, ?_⟩
  unfold laws_FnExactBodyMove.f
  simp only [laws_toBody_eq, Option.bind_some, spec_BodyMove_eq (show 0 < 100 by omega), impl_BodyMove_eq (show 1 < 100 by omega), laws_eqBody_refl, if_true]

end Go.Proofs.Ytihajbjkjclmoaa.Pure
