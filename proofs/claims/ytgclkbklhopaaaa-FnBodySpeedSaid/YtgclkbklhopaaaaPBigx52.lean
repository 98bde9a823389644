-- MINE
import Derived.Test.YtgclkbklhopaaaaSq
import Derived.Test.YtgclkbklhopaaaaPBigx900
import Derived.Test.YtgclkbklhopaaaaPBigx28
import Derived.Test.YtgclkbklhopaaaaPBigx30
import Derived.Test.YtgclkbklhopaaaaPBigx38
import Derived.Test.YtgclkbklhopaaaaPBigx40
import Derived.Test.YtgclkbklhopaaaaPBigx41
import Derived.Test.YtgclkbklhopaaaaPBigx48
import Derived.Test.YtgclkbklhopaaaaPBigx49
import Derived.Test.YtgclkbklhopaaaaPBigx51
namespace Go.Proofs.Ytgclkbklhopaaaa.PBig
open Go.RowKit Go.Proofs.YtgclkbklhopaaaaW.PrintWords Go.Proofs.YtgclkbklhopaaaaW.PrintLast Go.Proofs.YtgclkbklhopaaaaW.PrintMore
attribute [local go_sem] max2_int min2_int max_two min_two max_three min_three max_four min_four   -- for this text's walks alone
set_option linter.unusedVariables false
set_option linter.unusedSimpArgs false

attribute [local go_sem high] eqA24
/-! ### laws_FnBodySpeed: function 11 -/
mutual
def laws_FnBodySpeed.j0 : Nat → Bool → Int → Int → Int → Int → Int → Int → Int → Int → Int → Int → Int → Int → Int → Int → Option (Bool)
  | 0, _, _, _, _, _, _, _, _, _, _, _, _, _, _, _ => none
  | k + 1, x34, x518000, x518001, x518002, x518003, x518004, x518005, x518006, x518007, x518008, x518009, x518010, x518011, x521000, x521001 => if x34 = true then ((spec_BodySpeed.f k x518000 x518001 x518002 x518003 x518004 x518005 x518006 x518007 x518008 x518009 x518010 x518011).bind fun bt528 => (if (x521000 == bt528.1 && (x521001 == bt528.2)) = true then ((impl_BodyOk.f k x518000 x518001 x518002 x518003 x518004 x518005 x518006 x518007 x518008 x518009 x518010 x518011).bind fun t530 => ((spec_BodyOk.f k x518000 x518001 x518002 x518003 x518004 x518005 x518006 x518007 x518008 x518009 x518010 x518011).bind fun t531 => (if (t530 == t531) = true then ((impl_BodySleeps.f k x518000 x518001 x518002 x518003 x518004 x518005 x518006 x518007 x518008 x518009 x518010 x518011).bind fun t532 => ((spec_BodySleeps.f k x518000 x518001 x518002 x518003 x518004 x518005 x518006 x518007 x518008 x518009 x518010 x518011).bind fun t533 => (some (t532 == t533)))) else (some false)))) else (some false))) else (if x518008 = 0 then (laws_FnBodySpeed.j1 k true x518000 x518001 x518002 x518003 x518004 x518005 x518006 x518007 x518008 x518009 x518010 x518011 x521000 x521001) else ((impl_BodySleeps.f k x518000 x518001 x518002 x518003 x518004 x518005 x518006 x518007 x518008 x518009 x518010 x518011).bind fun t534 => (laws_FnBodySpeed.j1 k t534 x518000 x518001 x518002 x518003 x518004 x518005 x518006 x518007 x518008 x518009 x518010 x518011 x521000 x521001)))
def laws_FnBodySpeed.j1 : Nat → Bool → Int → Int → Int → Int → Int → Int → Int → Int → Int → Int → Int → Int → Int → Int → Option (Bool)
  | 0, _, _, _, _, _, _, _, _, _, _, _, _, _, _, _ => none
  | k + 1, x59, x518000, x518001, x518002, x518003, x518004, x518005, x518006, x518007, x518008, x518009, x518010, x518011, x521000, x521001 => if x59 = true then (some (x521000 == 0 && (x521001 == 0))) else ((laws_pqAbs.f (wrap64 (x518006 - (wrap64 (x521000 * x518008))))).bind fun t535 => (if t535 < x518008 then ((laws_pqAbs.f (wrap64 (x518007 - (wrap64 (x521001 * x518008))))).bind fun t536 => (if t536 < x518008 then ((laws_pqAbs.f (wrap64 (x521000 * x518008))).bind fun t537 => ((laws_pqAbs.f x518006).bind fun t538 => (some (decide (t537 ≤ t538))))) else (some false))) else (some false)))
end
def laws_FnBodySpeed.f (k : Nat) (l0 : List Int) : Option (Bool) := if (l0.length : Int) > 1048576 then (some true) else ((spec_DrawBodySpeed.f k l0).bind fun bt505 => ((impl_BodySpeed.f k bt505.1 bt505.2.1 bt505.2.2.1 bt505.2.2.2.1 bt505.2.2.2.2.1 bt505.2.2.2.2.2.1 bt505.2.2.2.2.2.2.1 bt505.2.2.2.2.2.2.2.1 bt505.2.2.2.2.2.2.2.2.1 bt505.2.2.2.2.2.2.2.2.2.1 bt505.2.2.2.2.2.2.2.2.2.2.1 bt505.2.2.2.2.2.2.2.2.2.2.2).bind fun bt518 => ((spec_BodySpeed.f k bt505.1 bt505.2.1 bt505.2.2.1 bt505.2.2.2.1 bt505.2.2.2.2.1 bt505.2.2.2.2.2.1 bt505.2.2.2.2.2.2.1 bt505.2.2.2.2.2.2.2.1 bt505.2.2.2.2.2.2.2.2.1 bt505.2.2.2.2.2.2.2.2.2.1 bt505.2.2.2.2.2.2.2.2.2.2.1 bt505.2.2.2.2.2.2.2.2.2.2.2).bind fun bt521 => (if (!(bt518.1 == bt521.1) || (!(bt518.2 == bt521.2))) = true then (laws_FnBodySpeed.j0 k true bt505.1 bt505.2.1 bt505.2.2.1 bt505.2.2.2.1 bt505.2.2.2.2.1 bt505.2.2.2.2.2.1 bt505.2.2.2.2.2.2.1 bt505.2.2.2.2.2.2.2.1 bt505.2.2.2.2.2.2.2.2.1 bt505.2.2.2.2.2.2.2.2.2.1 bt505.2.2.2.2.2.2.2.2.2.2.1 bt505.2.2.2.2.2.2.2.2.2.2.2 bt518.1 bt518.2) else ((impl_BodyOk.f k bt505.1 bt505.2.1 bt505.2.2.1 bt505.2.2.2.1 bt505.2.2.2.2.1 bt505.2.2.2.2.2.1 bt505.2.2.2.2.2.2.1 bt505.2.2.2.2.2.2.2.1 bt505.2.2.2.2.2.2.2.2.1 bt505.2.2.2.2.2.2.2.2.2.1 bt505.2.2.2.2.2.2.2.2.2.2.1 bt505.2.2.2.2.2.2.2.2.2.2.2).bind fun t523 => ((spec_BodyOk.f k bt505.1 bt505.2.1 bt505.2.2.1 bt505.2.2.2.1 bt505.2.2.2.2.1 bt505.2.2.2.2.2.1 bt505.2.2.2.2.2.2.1 bt505.2.2.2.2.2.2.2.1 bt505.2.2.2.2.2.2.2.2.1 bt505.2.2.2.2.2.2.2.2.2.1 bt505.2.2.2.2.2.2.2.2.2.2.1 bt505.2.2.2.2.2.2.2.2.2.2.2).bind fun t524 => (if (t523 != t524) = true then (laws_FnBodySpeed.j0 k true bt505.1 bt505.2.1 bt505.2.2.1 bt505.2.2.2.1 bt505.2.2.2.2.1 bt505.2.2.2.2.2.1 bt505.2.2.2.2.2.2.1 bt505.2.2.2.2.2.2.2.1 bt505.2.2.2.2.2.2.2.2.1 bt505.2.2.2.2.2.2.2.2.2.1 bt505.2.2.2.2.2.2.2.2.2.2.1 bt505.2.2.2.2.2.2.2.2.2.2.2 bt518.1 bt518.2) else ((impl_BodySleeps.f k bt505.1 bt505.2.1 bt505.2.2.1 bt505.2.2.2.1 bt505.2.2.2.2.1 bt505.2.2.2.2.2.1 bt505.2.2.2.2.2.2.1 bt505.2.2.2.2.2.2.2.1 bt505.2.2.2.2.2.2.2.2.1 bt505.2.2.2.2.2.2.2.2.2.1 bt505.2.2.2.2.2.2.2.2.2.2.1 bt505.2.2.2.2.2.2.2.2.2.2.2).bind fun t525 => ((spec_BodySleeps.f k bt505.1 bt505.2.1 bt505.2.2.1 bt505.2.2.2.1 bt505.2.2.2.2.1 bt505.2.2.2.2.2.1 bt505.2.2.2.2.2.2.1 bt505.2.2.2.2.2.2.2.1 bt505.2.2.2.2.2.2.2.2.1 bt505.2.2.2.2.2.2.2.2.2.1 bt505.2.2.2.2.2.2.2.2.2.2.1 bt505.2.2.2.2.2.2.2.2.2.2.2).bind fun t526 => (if (t525 != t526) = true then (laws_FnBodySpeed.j0 k true bt505.1 bt505.2.1 bt505.2.2.1 bt505.2.2.2.1 bt505.2.2.2.2.1 bt505.2.2.2.2.2.1 bt505.2.2.2.2.2.2.1 bt505.2.2.2.2.2.2.2.1 bt505.2.2.2.2.2.2.2.2.1 bt505.2.2.2.2.2.2.2.2.2.1 bt505.2.2.2.2.2.2.2.2.2.2.1 bt505.2.2.2.2.2.2.2.2.2.2.2 bt518.1 bt518.2) else ((spec_BodyOk.f k bt505.1 bt505.2.1 bt505.2.2.1 bt505.2.2.2.1 bt505.2.2.2.2.1 bt505.2.2.2.2.2.1 bt505.2.2.2.2.2.2.1 bt505.2.2.2.2.2.2.2.1 bt505.2.2.2.2.2.2.2.2.1 bt505.2.2.2.2.2.2.2.2.2.1 bt505.2.2.2.2.2.2.2.2.2.2.1 bt505.2.2.2.2.2.2.2.2.2.2.2).bind fun t527 => (laws_FnBodySpeed.j0 k (!t527) bt505.1 bt505.2.1 bt505.2.2.1 bt505.2.2.2.1 bt505.2.2.2.2.1 bt505.2.2.2.2.2.1 bt505.2.2.2.2.2.2.1 bt505.2.2.2.2.2.2.2.1 bt505.2.2.2.2.2.2.2.2.1 bt505.2.2.2.2.2.2.2.2.2.1 bt505.2.2.2.2.2.2.2.2.2.2.1 bt505.2.2.2.2.2.2.2.2.2.2.2 bt518.1 bt518.2))))))))))))
theorem laws_FnBodySpeed.mono_l : ∀ k, (∀ y0 y1 y2 y3 y4 y5 y6 y7 y8 y9 y10 y11 y12 y13 y14, LeO (laws_FnBodySpeed.j0 k y0 y1 y2 y3 y4 y5 y6 y7 y8 y9 y10 y11 y12 y13 y14) (laws_FnBodySpeed.j0 (k + 1) y0 y1 y2 y3 y4 y5 y6 y7 y8 y9 y10 y11 y12 y13 y14)) ∧ (∀ y0 y1 y2 y3 y4 y5 y6 y7 y8 y9 y10 y11 y12 y13 y14, LeO (laws_FnBodySpeed.j1 k y0 y1 y2 y3 y4 y5 y6 y7 y8 y9 y10 y11 y12 y13 y14) (laws_FnBodySpeed.j1 (k + 1) y0 y1 y2 y3 y4 y5 y6 y7 y8 y9 y10 y11 y12 y13 y14))
  | 0 => ⟨fun _ _ _ _ _ _ _ _ _ _ _ _ _ _ _ r h => by simp [laws_FnBodySpeed.j0] at h, fun _ _ _ _ _ _ _ _ _ _ _ _ _ _ _ r h => by simp [laws_FnBodySpeed.j1] at h⟩
  | k + 1 => by
    obtain ⟨ih0, ih1⟩ := laws_FnBodySpeed.mono_l k
    refine ⟨?_, ?_⟩
    · intro y0 y1 y2 y3 y4 y5 y6 y7 y8 y9 y10 y11 y12 y13 y14
      unfold laws_FnBodySpeed.j0
      repeat' first
      | (with_reducible exact ih0 _ _ _ _ _ _ _ _ _ _ _ _ _ _ _)
      | (with_reducible exact ih1 _ _ _ _ _ _ _ _ _ _ _ _ _ _ _)
      | (with_reducible exact impl_BodyOk.mono _ _ _ _ _ _ _ _ _ _ _ _ _)
      | (with_reducible exact impl_BodySleeps.mono _ _ _ _ _ _ _ _ _ _ _ _ _)
      | (with_reducible exact impl_BodySpeed.mono _ _ _ _ _ _ _ _ _ _ _ _ _)
      | (with_reducible exact spec_BodyOk.mono _ _ _ _ _ _ _ _ _ _ _ _ _)
      | (with_reducible exact spec_BodySleeps.mono _ _ _ _ _ _ _ _ _ _ _ _ _)
      | (with_reducible exact spec_BodySpeed.mono _ _ _ _ _ _ _ _ _ _ _ _ _)
      | (with_reducible exact spec_DrawBodySpeed.mono _ _)
      | (with_reducible exact LeO.refl _)
      | (with_reducible exact LeO.none _)
      | (with_reducible refine LeO.ite ?_ ?_)
      | (with_reducible refine LeO.bind ?_ (fun _ => ?_))
      | exact ih0 _ _ _ _ _ _ _ _ _ _ _ _ _ _ _
      | exact ih1 _ _ _ _ _ _ _ _ _ _ _ _ _ _ _
      | exact impl_BodyOk.mono _ _ _ _ _ _ _ _ _ _ _ _ _
      | exact impl_BodySleeps.mono _ _ _ _ _ _ _ _ _ _ _ _ _
      | exact impl_BodySpeed.mono _ _ _ _ _ _ _ _ _ _ _ _ _
      | exact spec_BodyOk.mono _ _ _ _ _ _ _ _ _ _ _ _ _
      | exact spec_BodySleeps.mono _ _ _ _ _ _ _ _ _ _ _ _ _
      | exact spec_BodySpeed.mono _ _ _ _ _ _ _ _ _ _ _ _ _
      | exact spec_DrawBodySpeed.mono _ _
      | exact LeO.none _
      | refine LeO.ite ?_ ?_
      | refine LeO.bind ?_ (fun _ => ?_)
    · intro y0 y1 y2 y3 y4 y5 y6 y7 y8 y9 y10 y11 y12 y13 y14
      unfold laws_FnBodySpeed.j1
      repeat' first
      | (with_reducible exact ih0 _ _ _ _ _ _ _ _ _ _ _ _ _ _ _)
      | (with_reducible exact ih1 _ _ _ _ _ _ _ _ _ _ _ _ _ _ _)
      | (with_reducible exact impl_BodyOk.mono _ _ _ _ _ _ _ _ _ _ _ _ _)
      | (with_reducible exact impl_BodySleeps.mono _ _ _ _ _ _ _ _ _ _ _ _ _)
      | (with_reducible exact impl_BodySpeed.mono _ _ _ _ _ _ _ _ _ _ _ _ _)
      | (with_reducible exact spec_BodyOk.mono _ _ _ _ _ _ _ _ _ _ _ _ _)
      | (with_reducible exact spec_BodySleeps.mono _ _ _ _ _ _ _ _ _ _ _ _ _)
      | (with_reducible exact spec_BodySpeed.mono _ _ _ _ _ _ _ _ _ _ _ _ _)
      | (with_reducible exact spec_DrawBodySpeed.mono _ _)
      | (with_reducible exact LeO.refl _)
      | (with_reducible exact LeO.none _)
      | (with_reducible refine LeO.ite ?_ ?_)
      | (with_reducible refine LeO.bind ?_ (fun _ => ?_))
      | exact ih0 _ _ _ _ _ _ _ _ _ _ _ _ _ _ _
      | exact ih1 _ _ _ _ _ _ _ _ _ _ _ _ _ _ _
      | exact impl_BodyOk.mono _ _ _ _ _ _ _ _ _ _ _ _ _
      | exact impl_BodySleeps.mono _ _ _ _ _ _ _ _ _ _ _ _ _
      | exact impl_BodySpeed.mono _ _ _ _ _ _ _ _ _ _ _ _ _
      | exact spec_BodyOk.mono _ _ _ _ _ _ _ _ _ _ _ _ _
      | exact spec_BodySleeps.mono _ _ _ _ _ _ _ _ _ _ _ _ _
      | exact spec_BodySpeed.mono _ _ _ _ _ _ _ _ _ _ _ _ _
      | exact spec_DrawBodySpeed.mono _ _
      | exact LeO.none _
      | refine LeO.ite ?_ ?_
      | refine LeO.bind ?_ (fun _ => ?_)
theorem laws_FnBodySpeed.mono : ∀ a0 k, LeO (laws_FnBodySpeed.f k a0) (laws_FnBodySpeed.f (k + 1) a0) := by
  intro a0 k
  obtain ⟨ih0, ih1⟩ := laws_FnBodySpeed.mono_l k
  unfold laws_FnBodySpeed.f
  repeat' first
      | (with_reducible exact ih0 _ _ _ _ _ _ _ _ _ _ _ _ _ _ _)
      | (with_reducible exact ih1 _ _ _ _ _ _ _ _ _ _ _ _ _ _ _)
      | (with_reducible exact impl_BodyOk.mono _ _ _ _ _ _ _ _ _ _ _ _ _)
      | (with_reducible exact impl_BodySleeps.mono _ _ _ _ _ _ _ _ _ _ _ _ _)
      | (with_reducible exact impl_BodySpeed.mono _ _ _ _ _ _ _ _ _ _ _ _ _)
      | (with_reducible exact spec_BodyOk.mono _ _ _ _ _ _ _ _ _ _ _ _ _)
      | (with_reducible exact spec_BodySleeps.mono _ _ _ _ _ _ _ _ _ _ _ _ _)
      | (with_reducible exact spec_BodySpeed.mono _ _ _ _ _ _ _ _ _ _ _ _ _)
      | (with_reducible exact spec_DrawBodySpeed.mono _ _)
      | (with_reducible exact LeO.refl _)
      | (with_reducible exact LeO.none _)
      | (with_reducible refine LeO.ite ?_ ?_)
      | (with_reducible refine LeO.bind ?_ (fun _ => ?_))
      | exact ih0 _ _ _ _ _ _ _ _ _ _ _ _ _ _ _
      | exact ih1 _ _ _ _ _ _ _ _ _ _ _ _ _ _ _
      | exact impl_BodyOk.mono _ _ _ _ _ _ _ _ _ _ _ _ _
      | exact impl_BodySleeps.mono _ _ _ _ _ _ _ _ _ _ _ _ _
      | exact impl_BodySpeed.mono _ _ _ _ _ _ _ _ _ _ _ _ _
      | exact spec_BodyOk.mono _ _ _ _ _ _ _ _ _ _ _ _ _
      | exact spec_BodySleeps.mono _ _ _ _ _ _ _ _ _ _ _ _ _
      | exact spec_BodySpeed.mono _ _ _ _ _ _ _ _ _ _ _ _ _
      | exact spec_DrawBodySpeed.mono _ _
      | exact LeO.none _
      | refine LeO.ite ?_ ?_
      | refine LeO.bind ?_ (fun _ => ?_)
def laws_FnBodySpeed.T5 : Bool × List (List Nat × List Nat) := (true, [([], []), ([], []), ([1], [1]), ([0, 2], [0, 2]), ([3, 2], [3]), ([4], [4]), ([5, 4, 4], [4, 5]), ([4], [4]), ([7, 6, 4], [4, 7]), ([6, 8, 4], [4, 6, 8]), ([4, 9], [4, 9]), ([10, 8], [10]), ([11], [11]), ([12, 11, 11], [11, 12]), ([11], [11]), ([14, 13, 11], [11, 14]), ([13, 15, 11], [11, 13, 15]), ([11, 16], [11, 16]), ([17, 15], [17]), ([18], [18]), ([19, 18, 18], [18, 19]), ([20, 18], [18, 20]), ([18, 21], [18, 21])])
def laws_FnBodySpeed.B5 : List Nat := [0, 0, 2, 7, 15, 31, 63, 31, 255, 511, 1023, 2047, 4095, 8191, 4095, 32767, 65535, 131071, 262143, 524287, 1048575, 2097151, 4194303]
theorem laws_FnBodySpeed.tab5 : rtab .any (opsOf Try.f11 5) = laws_FnBodySpeed.T5 := by kernel_rfl
theorem laws_FnBodySpeed.bits5 : waitsOk laws_FnBodySpeed.T5.2 laws_FnBodySpeed.B5 = true := by kernel_rfl
def laws_FnBodySpeed.T6 : Bool × List (List Nat × List Nat) := (true, [([], []), ([], []), ([1], [1]), ([0, 2], [0, 2]), ([3, 2], [3]), ([4], [4]), ([5, 4, 4], [4, 5]), ([4], [4]), ([7, 6, 4], [4, 7]), ([6, 8, 4], [4, 6, 8]), ([4, 9], [4, 9]), ([10, 8], [10]), ([11], [11]), ([12, 11, 11], [11, 12]), ([11], [11]), ([14, 13, 11], [11, 14]), ([13, 15, 11], [11, 13, 15]), ([11, 16], [11, 16]), ([17, 15, 0, 1, 2, 3, 4, 5, 6, 7, 8, 9, 10, 11, 12, 13, 14, 15, 16, 17], [17])])
def laws_FnBodySpeed.B6 : List Nat := [0, 0, 2, 7, 15, 31, 63, 31, 255, 511, 1023, 2047, 4095, 8191, 4095, 32767, 65535, 131071, 262143]
theorem laws_FnBodySpeed.tab6 : rtab .any (opsOf Try.f11 6) = laws_FnBodySpeed.T6 := by kernel_rfl
theorem laws_FnBodySpeed.bits6 : waitsOk laws_FnBodySpeed.T6.2 laws_FnBodySpeed.B6 = true := by kernel_rfl
def laws_FnBodySpeed.T9 : Bool × List (List Nat × List Nat) := (true, [([], []), ([0], [0]), ([1], [1]), ([], []), ([3], [3]), ([], []), ([5], [5]), ([4, 6], [4, 6]), ([2, 7], [2, 7]), ([8], [8]), ([], []), ([10], [10]), ([9, 11], [9, 11]), ([12, 9], [12]), ([13], [13]), ([14, 13], [13, 14]), ([15, 13], [13, 15]), ([13], [13]), ([17, 13], [13, 17]), ([13], [13]), ([19, 13], [13, 19]), ([18, 20, 13], [13, 18, 20]), ([16, 21, 13], [13, 16, 21]), ([22, 13, 13], [13, 22]), ([13], [13]), ([24, 13], [13, 24]), ([23, 25, 13], [13, 23, 25]), ([13, 26], [13, 26]), ([27, 23], [27]), ([28], [28]), ([29, 28], [28, 29]), ([28], [28]), ([31, 28], [28, 31]), ([30, 32, 28], [28, 30, 32]), ([33, 28, 28], [28, 33]), ([28], [28]), ([35, 28], [28, 35]), ([36, 28], [28, 36]), ([37, 34, 28], [28, 37]), ([34, 38, 28], [28, 34, 38]), ([28, 39], [28, 39]), ([40, 38, 0, 1, 2, 3, 4, 5, 6, 7, 8, 9, 10, 11, 12, 13, 14, 15, 16, 17, 18, 19, 20, 21, 22, 23, 24, 25, 26, 27, 28, 29, 30, 31, 32, 33, 34, 35, 36, 37, 38, 39, 40], [40])])
def laws_FnBodySpeed.B9 : List Nat := [0, 1, 3, 0, 8, 0, 32, 120, 255, 511, 0, 1024, 4095, 8191, 16383, 32767, 65535, 16383, 147455, 16383, 540671, 1982463, 4194303, 8388607, 16383, 16793599, 67108863, 134217727, 268435455, 536870911, 1073741823, 536870911, 2684354559, 8589934591, 17179869183, 536870911, 34896609279, 103616086015, 274877906943, 549755813887, 1099511627775, 2199023255551]
theorem laws_FnBodySpeed.tab9 : rtab .any (opsOf Try.f11 9) = laws_FnBodySpeed.T9 := by kernel_rfl
theorem laws_FnBodySpeed.bits9 : waitsOk laws_FnBodySpeed.T9.2 laws_FnBodySpeed.B9 = true := by kernel_rfl
set_option maxHeartbeats 8000000 in
set_option maxRecDepth 100000 in
theorem laws_FnBodySpeed.calls (k : Nat) (A0 : Option Addr) (c0 : Nat) (l0 : List Int) (r : Bool) (w : World) (hr0 : Kd.C (Kd.int .u8) w A0 l0.length l0) (hc0 : l0.length ≤ c0) (h : laws_FnBodySpeed.f k l0 = some r) :
    Calls Try.prog 11 #[.slice A0 l0.length c0] w fun e w' => e = .returned (.bool r) ∧ Below w.heap.size w w' := by
  have hu41 := Try.underlying41
  have hu24 := Try.underlying24
  have HR0 := Aside0.mk hr0
  have HC0 := Aside0.mk hc0
  clear hr0 hc0
  have HB := Aside0.mk (Below.refl w.heap.size w)
  have H : (if (l0.length : Int) > 1048576 then (some true) else ((spec_DrawBodySpeed.f k l0).bind fun bt505 => ((impl_BodySpeed.f k bt505.1 bt505.2.1 bt505.2.2.1 bt505.2.2.2.1 bt505.2.2.2.2.1 bt505.2.2.2.2.2.1 bt505.2.2.2.2.2.2.1 bt505.2.2.2.2.2.2.2.1 bt505.2.2.2.2.2.2.2.2.1 bt505.2.2.2.2.2.2.2.2.2.1 bt505.2.2.2.2.2.2.2.2.2.2.1 bt505.2.2.2.2.2.2.2.2.2.2.2).bind fun bt518 => ((spec_BodySpeed.f k bt505.1 bt505.2.1 bt505.2.2.1 bt505.2.2.2.1 bt505.2.2.2.2.1 bt505.2.2.2.2.2.1 bt505.2.2.2.2.2.2.1 bt505.2.2.2.2.2.2.2.1 bt505.2.2.2.2.2.2.2.2.1 bt505.2.2.2.2.2.2.2.2.2.1 bt505.2.2.2.2.2.2.2.2.2.2.1 bt505.2.2.2.2.2.2.2.2.2.2.2).bind fun bt521 => (if (!(bt518.1 == bt521.1) || (!(bt518.2 == bt521.2))) = true then (laws_FnBodySpeed.j0 k true bt505.1 bt505.2.1 bt505.2.2.1 bt505.2.2.2.1 bt505.2.2.2.2.1 bt505.2.2.2.2.2.1 bt505.2.2.2.2.2.2.1 bt505.2.2.2.2.2.2.2.1 bt505.2.2.2.2.2.2.2.2.1 bt505.2.2.2.2.2.2.2.2.2.1 bt505.2.2.2.2.2.2.2.2.2.2.1 bt505.2.2.2.2.2.2.2.2.2.2.2 bt518.1 bt518.2) else ((impl_BodyOk.f k bt505.1 bt505.2.1 bt505.2.2.1 bt505.2.2.2.1 bt505.2.2.2.2.1 bt505.2.2.2.2.2.1 bt505.2.2.2.2.2.2.1 bt505.2.2.2.2.2.2.2.1 bt505.2.2.2.2.2.2.2.2.1 bt505.2.2.2.2.2.2.2.2.2.1 bt505.2.2.2.2.2.2.2.2.2.2.1 bt505.2.2.2.2.2.2.2.2.2.2.2).bind fun t523 => ((spec_BodyOk.f k bt505.1 bt505.2.1 bt505.2.2.1 bt505.2.2.2.1 bt505.2.2.2.2.1 bt505.2.2.2.2.2.1 bt505.2.2.2.2.2.2.1 bt505.2.2.2.2.2.2.2.1 bt505.2.2.2.2.2.2.2.2.1 bt505.2.2.2.2.2.2.2.2.2.1 bt505.2.2.2.2.2.2.2.2.2.2.1 bt505.2.2.2.2.2.2.2.2.2.2.2).bind fun t524 => (if (t523 != t524) = true then (laws_FnBodySpeed.j0 k true bt505.1 bt505.2.1 bt505.2.2.1 bt505.2.2.2.1 bt505.2.2.2.2.1 bt505.2.2.2.2.2.1 bt505.2.2.2.2.2.2.1 bt505.2.2.2.2.2.2.2.1 bt505.2.2.2.2.2.2.2.2.1 bt505.2.2.2.2.2.2.2.2.2.1 bt505.2.2.2.2.2.2.2.2.2.2.1 bt505.2.2.2.2.2.2.2.2.2.2.2 bt518.1 bt518.2) else ((impl_BodySleeps.f k bt505.1 bt505.2.1 bt505.2.2.1 bt505.2.2.2.1 bt505.2.2.2.2.1 bt505.2.2.2.2.2.1 bt505.2.2.2.2.2.2.1 bt505.2.2.2.2.2.2.2.1 bt505.2.2.2.2.2.2.2.2.1 bt505.2.2.2.2.2.2.2.2.2.1 bt505.2.2.2.2.2.2.2.2.2.2.1 bt505.2.2.2.2.2.2.2.2.2.2.2).bind fun t525 => ((spec_BodySleeps.f k bt505.1 bt505.2.1 bt505.2.2.1 bt505.2.2.2.1 bt505.2.2.2.2.1 bt505.2.2.2.2.2.1 bt505.2.2.2.2.2.2.1 bt505.2.2.2.2.2.2.2.1 bt505.2.2.2.2.2.2.2.2.1 bt505.2.2.2.2.2.2.2.2.2.1 bt505.2.2.2.2.2.2.2.2.2.2.1 bt505.2.2.2.2.2.2.2.2.2.2.2).bind fun t526 => (if (t525 != t526) = true then (laws_FnBodySpeed.j0 k true bt505.1 bt505.2.1 bt505.2.2.1 bt505.2.2.2.1 bt505.2.2.2.2.1 bt505.2.2.2.2.2.1 bt505.2.2.2.2.2.2.1 bt505.2.2.2.2.2.2.2.1 bt505.2.2.2.2.2.2.2.2.1 bt505.2.2.2.2.2.2.2.2.2.1 bt505.2.2.2.2.2.2.2.2.2.2.1 bt505.2.2.2.2.2.2.2.2.2.2.2 bt518.1 bt518.2) else ((spec_BodyOk.f k bt505.1 bt505.2.1 bt505.2.2.1 bt505.2.2.2.1 bt505.2.2.2.2.1 bt505.2.2.2.2.2.1 bt505.2.2.2.2.2.2.1 bt505.2.2.2.2.2.2.2.1 bt505.2.2.2.2.2.2.2.2.1 bt505.2.2.2.2.2.2.2.2.2.1 bt505.2.2.2.2.2.2.2.2.2.2.1 bt505.2.2.2.2.2.2.2.2.2.2.2).bind fun t527 => (laws_FnBodySpeed.j0 k (!t527) bt505.1 bt505.2.1 bt505.2.2.1 bt505.2.2.2.1 bt505.2.2.2.2.1 bt505.2.2.2.2.2.1 bt505.2.2.2.2.2.2.1 bt505.2.2.2.2.2.2.2.1 bt505.2.2.2.2.2.2.2.2.1 bt505.2.2.2.2.2.2.2.2.2.1 bt505.2.2.2.2.2.2.2.2.2.2.1 bt505.2.2.2.2.2.2.2.2.2.2.2 bt518.1 bt518.2))))))))))))) = some r := h
  clear h
  by_cases c2 : (l0.length : Int) > 1048576
  · rw [if_pos c2] at H
    have c2b0 : decide (1048576 < (l0.length : Int)) = true := decide_eq_true c2
    have c2b1 : decide (1048576 < l0.length) = true := decide_eq_true (by omega)
    clear c2
    obtain rfl := Option.some.inj H
    go_enter Try.func11, Try.ntmps11
    go_wp2
    go_ret
    exact ⟨qE, qL HB⟩
  rw [if_neg c2] at H
  have c2b0 : decide (1048576 < (l0.length : Int)) = false := decide_eq_false c2
  have c2b1 : decide (1048576 < l0.length) = false := decide_eq_false (by omega)
  clear c2
  replace H := qH H
  obtain ⟨⟨t505, t506, t507, t508, t509, t510, t511, t512, t513, t514, t515, t516⟩, A3, H⟩ := H
  try dsimp only at H
  replace H := qH H
  obtain ⟨⟨t518, t519⟩, A4, H⟩ := H
  try dsimp only at H
  have HC5 := Aside0.mk H
  clear H
  go_enter Try.func11, Try.ntmps11
  go_upto_region 5 with (first | ((with_reducible refine gate_callee (f := 51) rfl ?_); refine gl (some 9) Try.func51 #[.slice A0 l0.length c0] ?_; (with_reducible refine (spec_DrawBodySpeed.calls k _ _ l0 t505 t506 t507 t508 t509 t510 t511 t512 t513 t514 t515 t516 _ ?side1 ?side2 A3.out).mono ?_); (case side1 => repeat (first | exact HR0.out | (with_reducible refine Kd.C_alloc ?_ _) | (with_reducible refine Kd.C_drewN ?_ _) | (with_reducible refine Kd.C_drew ?_))); (case side2 => exact HC0.out); rintro e w6 ⟨rfl, hb⟩; refine ⟨_, rfl, ?_⟩; replace HB := bS HB hb; clear hb) | ((with_reducible refine gate_dst (N := 3) rfl ?_); refine bx (N := 3) (cs := #[.int .i64 0, .int .i64 0, .int .i64 0, .int .i64 0, .int .i64 0, .int .i64 0, .int .i64 0, .int .i64 0, .int .i64 0, .int .i64 0, .int .i64 0, .int .i64 0]) (t := 41) ?_; intro gb517 hg w7 hbox hb; have BK517 := Aside0.mk (hbox); have GW517 := Aside0.mk ((gE hg (qL HB) : w.heap.size ≤ gb517)); have GE517 := Aside0.mk ((gE hg (qL HB) : w.heap.size ≤ gb517)); replace HB := bS HB hb; clear hb hbox hg; obtain ⟨hcz8_0, hcz8_1, hcz8_2, hcz8_3, hcz8_4, hcz8_5, hcz8_6, hcz8_7, hcz8_8, hcz8_9, hcz8_10, hcz8_11⟩ := cz12 BK517.out; obtain ⟨hfz8_0, hfz8_1, hfz8_2, hfz8_3, hfz8_4, hfz8_5, hfz8_6, hfz8_7, hfz8_8, hfz8_9, hfz8_10, hfz8_11⟩ := fz12 BK517.out) | ((with_reducible refine gate_callee (f := 23) rfl ?_); refine gl (some 11) Try.func23 #[.agg #[.int .i64 t505, .int .i64 t506, .int .i64 t507, .int .i64 t508, .int .i64 t509, .int .i64 t510, .int .i64 t511, .int .i64 t512, .int .i64 t513, .int .i64 t514, .int .i64 t515, .int .i64 t516]] ?_; (with_reducible refine (impl_BodySpeed.calls k t505 t506 t507 t508 t509 t510 t511 t512 t513 t514 t515 t516 t518 t519 _ A4.out).mono ?_); rintro e w9 ⟨rfl, hb⟩; refine ⟨_, rfl, ?_⟩; replace BK517 := kBP (o' := .cells #[.int .i64 t505, .int .i64 t506, .int .i64 t507, .int .i64 t508, .int .i64 t509, .int .i64 t510, .int .i64 t511, .int .i64 t512, .int .i64 t513, .int .i64 t514, .int .i64 t515, .int .i64 t516] 41 (0, 0)) BK517 hb; replace HB := bS HB hb; clear hb) | ((with_reducible refine gate_dst (N := 4) rfl ?_); refine bx (N := 4) (cs := #[.int .i64 0, .int .i64 0]) (t := 24) ?_; intro gb520 hg w10 hbox hb; have BK520 := Aside0.mk (hbox); have GW520 := Aside0.mk ((gE hg (qL HB) : w.heap.size ≤ gb520)); have GE520 := Aside0.mk ((gE hg (qL HB) : w.heap.size ≤ gb520)); have NB517_520 := nLB BK517 hg; have NB520_517 := nGB BK517 hg; replace BK517 := kBB BK517 hb; replace HB := bS HB hb; clear hb hbox hg; have hnb11 := NB520_517.out; have hnc11 := NB517_520.out; obtain ⟨hcz12_0, hcz12_1⟩ := cz2 BK520.out; have hfz12_0 := blk_frozen BK520.out 0; have hfz12_1 := blk_frozen BK520.out 1))
  (try simp only [Act.put, List.setIfInBounds_toArray, List.set_cons_zero, List.set_cons_succ])
  go_cut [34] (fun v34 wc => ∃ (kq : Nat) (x34_4 : Bool), v34 = .bool x34_4 ∧ Aside0 (laws_FnBodySpeed.j0 kq x34_4 t505 t506 t507 t508 t509 t510 t511 t512 t513 t514 t515 t516 t518 t519 = some r) ∧ Aside0 (kq ≤ k) ∧ Aside0 (wc.heap[gb517]? = some (.cells #[.int .i64 t505, .int .i64 t506, .int .i64 t507, .int .i64 t508, .int .i64 t509, .int .i64 t510, .int .i64 t511, .int .i64 t512, .int .i64 t513, .int .i64 t514, .int .i64 t515, .int .i64 t516] 41 (0, 0))) ∧ Aside0 (wc.heap[gb520]? = some (.cells #[.int .i64 t518, .int .i64 t519] 24 (0, 0))) ∧ Aside0 (Below w.heap.size w wc))
  case first =>
    have H := HC5.out
    clear HC5
    replace H := qH H
    obtain ⟨⟨t521, t522⟩, A13, H⟩ := H
    try dsimp only at H
    by_cases c14 : (!(t518 == t521) || (!(t519 == t522))) = true
    · rw [if_pos c14] at H
      have c14b0 : (!(t518 == t521) || (!(t519 == t522))) = true := c14
      clear c14
      (first | rw [c14b0] | (simp only [i64_w, i32_w]; rw [c14b0]) | skip)
      have H' := Aside0.mk H
      clear H
      try go_wp2
      obtain ⟨w15, hw_⟩ : ∃ x, x = ((w10.setCell ⟨gb520, 0, none⟩ (.int .i64 t518)).setCell ⟨gb520, 1, none⟩ (.int .i64 t519)) := ⟨_, rfl⟩
      replace BK517 : Aside0 (w15.heap[gb517]? = some (.cells #[.int .i64 t505, .int .i64 t506, .int .i64 t507, .int .i64 t508, .int .i64 t509, .int .i64 t510, .int .i64 t511, .int .i64 t512, .int .i64 t513, .int .i64 t514, .int .i64 t515, .int .i64 t516] 41 (0, 0))) := ⟨by rw [hw_]; exact qF BK517⟩
      replace BK520 : Aside0 (w15.heap[gb520]? = some (.cells #[.int .i64 t518, .int .i64 t519] 24 (0, 0))) := ⟨by rw [hw_]; exact qP BK520⟩
      replace HB : Aside0 (Below w.heap.size w w15) := ⟨by rw [hw_]; exact qL HB⟩
      rw [← hw_]
      clear hw_
      replace BK517 := Aside0.mk (blk_drew BK517.out)
      replace BK520 := Aside0.mk (blk_drew BK520.out)
      replace HB := Aside0.mk (below_drew1 HB.out)
      refine start_ (n := 23) (S := fun w' => w'.cell? ⟨gb520, 0, none⟩ = some (.int .i64 t518) ∧ w'.cell? ⟨gb520, 1, none⟩ = some (.int .i64 t519) ∧ w'.cell? ⟨gb517, 0, none⟩ = some (.int .i64 t505) ∧ w'.cell? ⟨gb517, 1, none⟩ = some (.int .i64 t506) ∧ w'.cell? ⟨gb517, 2, none⟩ = some (.int .i64 t507) ∧ w'.cell? ⟨gb517, 3, none⟩ = some (.int .i64 t508) ∧ w'.cell? ⟨gb517, 4, none⟩ = some (.int .i64 t509) ∧ w'.cell? ⟨gb517, 5, none⟩ = some (.int .i64 t510) ∧ w'.cell? ⟨gb517, 6, none⟩ = some (.int .i64 t511) ∧ w'.cell? ⟨gb517, 7, none⟩ = some (.int .i64 t512) ∧ w'.cell? ⟨gb517, 8, none⟩ = some (.int .i64 t513) ∧ w'.cell? ⟨gb517, 9, none⟩ = some (.int .i64 t514) ∧ w'.cell? ⟨gb517, 10, none⟩ = some (.int .i64 t515) ∧ w'.cell? ⟨gb517, 11, none⟩ = some (.int .i64 t516)) (ds := []) #[false, false, false, false, false, false, false, false, false, false, false, false, false, false, false, false, false, false, false, false, false, false, false] (by kernel_rfl) rfl rfl ⟨bc BK520 0, bc BK520 1, bc BK517 0, bc BK517 1, bc BK517 2, bc BK517 3, bc BK517 4, bc BK517 5, bc BK517 6, bc BK517 7, bc BK517 8, bc BK517 9, bc BK517 10, bc BK517 11⟩ (fun hHeld => ?_); refine with_tabW laws_FnBodySpeed.tab5 laws_FnBodySpeed.bits5 (fun HT_ HW_ => ?_)
      generalize w15.drew = w16 at BK517 BK520 HB hHeld ⊢
      refine tk14 0 (some 12) #[true, false, false, false, false, false, false, false, false, false, false, false, false, false, false, false, false, false, false, false, false, false, false] HT_ HW_ hHeld ?_
      refine tk14 1 (some 13) #[true, true, false, false, false, false, false, false, false, false, false, false, false, false, false, false, false, false, false, false, false, false, false] HT_ HW_ hHeld ?_
      refine on 2 (some 14) #[true, true, true, false, false, false, false, false, false, false, false, false, false, false, false, false, false, false, false, false, false, false, false] HT_ (fun K hK => ?_)
      refine go1 Try.func21 #[.agg #[.int .i64 t505, .int .i64 t506, .int .i64 t507, .int .i64 t508, .int .i64 t509, .int .i64 t510, .int .i64 t511, .int .i64 t512, .int .i64 t513, .int .i64 t514, .int .i64 t515, .int .i64 t516]] ?_
      with_reducible refine (spec_BodySpeed.calls k t505 t506 t507 t508 t509 t510 t511 t512 t513 t514 t515 t516 t521 t522 _ A13.out).mono ?_
      rintro e w17 ⟨rfl, hb⟩
      refine ⟨_, rfl, ?_⟩
      replace BK517 := kBB BK517 hb
      replace BK520 := kBB BK520 hb
      replace HB := bS HB hb
      clear hb
      refine hK.out _ _ ⟨bc BK520 0, bc BK520 1, bc BK517 0, bc BK517 1, bc BK517 2, bc BK517 3, bc BK517 4, bc BK517 5, bc BK517 6, bc BK517 7, bc BK517 8, bc BK517 9, bc BK517 10, bc BK517 11⟩ (fun hHeld => ?_)
      clear hK K
      refine nm (some 14) ?_
      refine pu 3 (some 15) #[true, true, true, true, false, false, false, false, false, false, false, false, false, false, false, false, false, false, false, false, false, false, false] HT_ ?_
      refine pu 4 (some 16) #[true, true, true, true, true, false, false, false, false, false, false, false, false, false, false, false, false, false, false, false, false, false, false] HT_ ?_
      refine pv 5 (some 17) #[true, true, true, true, true, true, false, false, false, false, false, false, false, false, false, false, false, false, false, false, false, false, false] HT_ ?_
      refine pv 6 (some 18) #[true, true, true, true, true, true, true, false, false, false, false, false, false, false, false, false, false, false, false, false, false, false, false] HT_ ?_
      refine pv 7 (some 19) #[true, true, true, true, true, true, true, true, false, false, false, false, false, false, false, false, false, false, false, false, false, false, false] HT_ ?_
      refine pv 8 (some 20) #[true, true, true, true, true, true, true, true, true, false, false, false, false, false, false, false, false, false, false, false, false, false, false] HT_ ?_
      refine pv 9 (some 21) #[true, true, true, true, true, true, true, true, true, true, false, false, false, false, false, false, false, false, false, false, false, false, false] HT_ ?_
      refine pu 10 (some 22) #[true, true, true, true, true, true, true, true, true, true, true, false, false, false, false, false, false, false, false, false, false, false, false] HT_ ?_
      refine pu 11 (some 23) #[true, true, true, true, true, true, true, true, true, true, true, true, false, false, false, false, false, false, false, false, false, false, false] HT_ ?_
      refine pv 12 (some 24) #[true, true, true, true, true, true, true, true, true, true, true, true, true, false, false, false, false, false, false, false, false, false, false] HT_ ?_
      refine pv 13 (some 25) #[true, true, true, true, true, true, true, true, true, true, true, true, true, true, false, false, false, false, false, false, false, false, false] HT_ ?_
      refine pv 14 (some 26) #[true, true, true, true, true, true, true, true, true, true, true, true, true, true, true, false, false, false, false, false, false, false, false] HT_ ?_
      refine pv 15 (some 27) #[true, true, true, true, true, true, true, true, true, true, true, true, true, true, true, true, false, false, false, false, false, false, false] HT_ ?_
      refine pv 16 (some 28) #[true, true, true, true, true, true, true, true, true, true, true, true, true, true, true, true, true, false, false, false, false, false, false] HT_ ?_
      refine pu 17 (some 29) #[true, true, true, true, true, true, true, true, true, true, true, true, true, true, true, true, true, true, false, false, false, false, false] HT_ ?_
      refine pu 18 (some 30) #[true, true, true, true, true, true, true, true, true, true, true, true, true, true, true, true, true, true, true, false, false, false, false] HT_ ?_
      refine pv 19 (some 31) #[true, true, true, true, true, true, true, true, true, true, true, true, true, true, true, true, true, true, true, true, false, false, false] HT_ ?_
      refine pv 20 (some 32) #[true, true, true, true, true, true, true, true, true, true, true, true, true, true, true, true, true, true, true, true, true, false, false] HT_ ?_
      refine pv 21 (some 33) #[true, true, true, true, true, true, true, true, true, true, true, true, true, true, true, true, true, true, true, true, true, true, false] HT_ ?_
      refine pu 22 (some 34) #[true, true, true, true, true, true, true, true, true, true, true, true, true, true, true, true, true, true, true, true, true, true, true] HT_ ?_
      refine done_ (done_of HT_.out (by kernel_rfl)) ?_
      try go_wp2
      go_meet
      case rel => exact ⟨_, (true), (by first | rfl | (simp; done) | (simp [*]; done)), H', ⟨by first | omega | exact Nat.le_refl _⟩, ⟨qF BK517⟩, ⟨qF BK520⟩, ⟨qL HB⟩⟩
    rw [if_neg c14] at H
    have c14b0 : (!(t518 == t521) || (!(t519 == t522))) = false := by simpa using c14
    clear c14
    (first | rw [c14b0] | (simp only [i64_w, i32_w]; rw [c14b0]) | skip)
    replace H := qH H
    obtain ⟨t523, A18, H⟩ := H
    try dsimp only at H
    replace H := qH H
    obtain ⟨t524, A19, H⟩ := H
    try dsimp only at H
    by_cases c20 : (t523 != t524) = true
    · rw [if_pos c20] at H
      have c20b0 : (t523 != t524) = true := c20
      (try (have c20b1 : decide (t523 = t524) = false := by simpa using c20))
      (try (have c20b2 : (t523 == t524) = false := by simpa using c20))
      (try (have c20b3 : ¬ (t523 = t524) := by simpa using c20))
      clear c20
      have H' := Aside0.mk H
      clear H
      try go_wp2
      obtain ⟨w21, hw_⟩ : ∃ x, x = ((w10.setCell ⟨gb520, 0, none⟩ (.int .i64 t518)).setCell ⟨gb520, 1, none⟩ (.int .i64 t519)) := ⟨_, rfl⟩
      replace BK517 : Aside0 (w21.heap[gb517]? = some (.cells #[.int .i64 t505, .int .i64 t506, .int .i64 t507, .int .i64 t508, .int .i64 t509, .int .i64 t510, .int .i64 t511, .int .i64 t512, .int .i64 t513, .int .i64 t514, .int .i64 t515, .int .i64 t516] 41 (0, 0))) := ⟨by rw [hw_]; exact qF BK517⟩
      replace BK520 : Aside0 (w21.heap[gb520]? = some (.cells #[.int .i64 t518, .int .i64 t519] 24 (0, 0))) := ⟨by rw [hw_]; exact qP BK520⟩
      replace HB : Aside0 (Below w.heap.size w w21) := ⟨by rw [hw_]; exact qL HB⟩
      rw [← hw_]
      clear hw_
      replace BK517 := Aside0.mk (blk_drew BK517.out)
      replace BK520 := Aside0.mk (blk_drew BK520.out)
      replace HB := Aside0.mk (below_drew1 HB.out)
      refine start_ (n := 23) (S := fun w' => w'.cell? ⟨gb520, 0, none⟩ = some (.int .i64 t518) ∧ w'.cell? ⟨gb520, 1, none⟩ = some (.int .i64 t519) ∧ w'.cell? ⟨gb517, 0, none⟩ = some (.int .i64 t505) ∧ w'.cell? ⟨gb517, 1, none⟩ = some (.int .i64 t506) ∧ w'.cell? ⟨gb517, 2, none⟩ = some (.int .i64 t507) ∧ w'.cell? ⟨gb517, 3, none⟩ = some (.int .i64 t508) ∧ w'.cell? ⟨gb517, 4, none⟩ = some (.int .i64 t509) ∧ w'.cell? ⟨gb517, 5, none⟩ = some (.int .i64 t510) ∧ w'.cell? ⟨gb517, 6, none⟩ = some (.int .i64 t511) ∧ w'.cell? ⟨gb517, 7, none⟩ = some (.int .i64 t512) ∧ w'.cell? ⟨gb517, 8, none⟩ = some (.int .i64 t513) ∧ w'.cell? ⟨gb517, 9, none⟩ = some (.int .i64 t514) ∧ w'.cell? ⟨gb517, 10, none⟩ = some (.int .i64 t515) ∧ w'.cell? ⟨gb517, 11, none⟩ = some (.int .i64 t516)) (ds := []) #[false, false, false, false, false, false, false, false, false, false, false, false, false, false, false, false, false, false, false, false, false, false, false] (by kernel_rfl) rfl rfl ⟨bc BK520 0, bc BK520 1, bc BK517 0, bc BK517 1, bc BK517 2, bc BK517 3, bc BK517 4, bc BK517 5, bc BK517 6, bc BK517 7, bc BK517 8, bc BK517 9, bc BK517 10, bc BK517 11⟩ (fun hHeld => ?_); refine with_tabW laws_FnBodySpeed.tab5 laws_FnBodySpeed.bits5 (fun HT_ HW_ => ?_)
      generalize w21.drew = w22 at BK517 BK520 HB hHeld ⊢
      refine tk14 0 (some 12) #[true, false, false, false, false, false, false, false, false, false, false, false, false, false, false, false, false, false, false, false, false, false, false] HT_ HW_ hHeld ?_
      refine tk14 1 (some 13) #[true, true, false, false, false, false, false, false, false, false, false, false, false, false, false, false, false, false, false, false, false, false, false] HT_ HW_ hHeld ?_
      refine on 2 (some 14) #[true, true, true, false, false, false, false, false, false, false, false, false, false, false, false, false, false, false, false, false, false, false, false] HT_ (fun K hK => ?_)
      refine go1 Try.func21 #[.agg #[.int .i64 t505, .int .i64 t506, .int .i64 t507, .int .i64 t508, .int .i64 t509, .int .i64 t510, .int .i64 t511, .int .i64 t512, .int .i64 t513, .int .i64 t514, .int .i64 t515, .int .i64 t516]] ?_
      with_reducible refine (spec_BodySpeed.calls k t505 t506 t507 t508 t509 t510 t511 t512 t513 t514 t515 t516 t521 t522 _ A13.out).mono ?_
      rintro e w23 ⟨rfl, hb⟩
      refine ⟨_, rfl, ?_⟩
      replace BK517 := kBB BK517 hb
      replace BK520 := kBB BK520 hb
      replace HB := bS HB hb
      clear hb
      refine hK.out _ _ ⟨bc BK520 0, bc BK520 1, bc BK517 0, bc BK517 1, bc BK517 2, bc BK517 3, bc BK517 4, bc BK517 5, bc BK517 6, bc BK517 7, bc BK517 8, bc BK517 9, bc BK517 10, bc BK517 11⟩ (fun hHeld => ?_)
      clear hK K
      refine nm (some 14) ?_
      refine pu 3 (some 15) #[true, true, true, true, false, false, false, false, false, false, false, false, false, false, false, false, false, false, false, false, false, false, false] HT_ ?_
      refine pu 4 (some 16) #[true, true, true, true, true, false, false, false, false, false, false, false, false, false, false, false, false, false, false, false, false, false, false] HT_ ?_
      refine tk14 5 (some 17) #[true, true, true, true, true, true, false, false, false, false, false, false, false, false, false, false, false, false, false, false, false, false, false] HT_ HW_ hHeld ?_
      refine tk14 7 (some 19) #[true, true, true, true, true, true, false, true, false, false, false, false, false, false, false, false, false, false, false, false, false, false, false] HT_ HW_ hHeld ?_
      refine on 6 (some 18) #[true, true, true, true, true, true, true, true, false, false, false, false, false, false, false, false, false, false, false, false, false, false, false] HT_ (fun K hK => ?_)
      refine go1 Try.func52 #[.agg #[.int .i64 t505, .int .i64 t506, .int .i64 t507, .int .i64 t508, .int .i64 t509, .int .i64 t510, .int .i64 t511, .int .i64 t512, .int .i64 t513, .int .i64 t514, .int .i64 t515, .int .i64 t516]] ?_
      with_reducible refine (impl_BodyOk.calls k t505 t506 t507 t508 t509 t510 t511 t512 t513 t514 t515 t516 t523 _ A18.out).mono ?_
      rintro e w24 ⟨rfl, hb⟩
      refine ⟨_, rfl, ?_⟩
      replace BK517 := kBB BK517 hb
      replace BK520 := kBB BK520 hb
      replace HB := bS HB hb
      clear hb
      refine hK.out _ _ ⟨bc BK520 0, bc BK520 1, bc BK517 0, bc BK517 1, bc BK517 2, bc BK517 3, bc BK517 4, bc BK517 5, bc BK517 6, bc BK517 7, bc BK517 8, bc BK517 9, bc BK517 10, bc BK517 11⟩ (fun hHeld => ?_)
      clear hK K
      refine nm (some 18) ?_
      refine on 8 (some 20) #[true, true, true, true, true, true, true, true, true, false, false, false, false, false, false, false, false, false, false, false, false, false, false] HT_ (fun K hK => ?_)
      refine go1 Try.func53 #[.agg #[.int .i64 t505, .int .i64 t506, .int .i64 t507, .int .i64 t508, .int .i64 t509, .int .i64 t510, .int .i64 t511, .int .i64 t512, .int .i64 t513, .int .i64 t514, .int .i64 t515, .int .i64 t516]] ?_
      with_reducible refine (spec_BodyOk.calls k t505 t506 t507 t508 t509 t510 t511 t512 t513 t514 t515 t516 t524 _ A19.out).mono ?_
      rintro e w25 ⟨rfl, hb⟩
      refine ⟨_, rfl, ?_⟩
      replace BK517 := kBB BK517 hb
      replace BK520 := kBB BK520 hb
      replace HB := bS HB hb
      clear hb
      refine hK.out _ _ ⟨bc BK520 0, bc BK520 1, bc BK517 0, bc BK517 1, bc BK517 2, bc BK517 3, bc BK517 4, bc BK517 5, bc BK517 6, bc BK517 7, bc BK517 8, bc BK517 9, bc BK517 10, bc BK517 11⟩ (fun hHeld => ?_)
      clear hK K
      refine nm (some 20) ?_
      refine pu 9 (some 21) #[true, true, true, true, true, true, true, true, true, true, false, false, false, false, false, false, false, false, false, false, false, false, false] HT_ ?_
      refine pu 10 (some 22) #[true, true, true, true, true, true, true, true, true, true, true, false, false, false, false, false, false, false, false, false, false, false, false] HT_ ?_
      refine pu 11 (some 23) #[true, true, true, true, true, true, true, true, true, true, true, true, false, false, false, false, false, false, false, false, false, false, false] HT_ ?_
      refine pv 12 (some 24) #[true, true, true, true, true, true, true, true, true, true, true, true, true, false, false, false, false, false, false, false, false, false, false] HT_ ?_
      refine pv 13 (some 25) #[true, true, true, true, true, true, true, true, true, true, true, true, true, true, false, false, false, false, false, false, false, false, false] HT_ ?_
      refine pv 14 (some 26) #[true, true, true, true, true, true, true, true, true, true, true, true, true, true, true, false, false, false, false, false, false, false, false] HT_ ?_
      refine pv 15 (some 27) #[true, true, true, true, true, true, true, true, true, true, true, true, true, true, true, true, false, false, false, false, false, false, false] HT_ ?_
      refine pv 16 (some 28) #[true, true, true, true, true, true, true, true, true, true, true, true, true, true, true, true, true, false, false, false, false, false, false] HT_ ?_
      refine pu 17 (some 29) #[true, true, true, true, true, true, true, true, true, true, true, true, true, true, true, true, true, true, false, false, false, false, false] HT_ ?_
      refine pu 18 (some 30) #[true, true, true, true, true, true, true, true, true, true, true, true, true, true, true, true, true, true, true, false, false, false, false] HT_ ?_
      refine pv 19 (some 31) #[true, true, true, true, true, true, true, true, true, true, true, true, true, true, true, true, true, true, true, true, false, false, false] HT_ ?_
      refine pv 20 (some 32) #[true, true, true, true, true, true, true, true, true, true, true, true, true, true, true, true, true, true, true, true, true, false, false] HT_ ?_
      refine pv 21 (some 33) #[true, true, true, true, true, true, true, true, true, true, true, true, true, true, true, true, true, true, true, true, true, true, false] HT_ ?_
      refine pu 22 (some 34) #[true, true, true, true, true, true, true, true, true, true, true, true, true, true, true, true, true, true, true, true, true, true, true] HT_ ?_
      refine done_ (done_of HT_.out (by kernel_rfl)) ?_
      try go_wp2
      go_meet
      case rel => exact ⟨_, (true), (by first | rfl | (simp; done) | (simp [*]; done)), H', ⟨by first | omega | exact Nat.le_refl _⟩, ⟨qF BK517⟩, ⟨qF BK520⟩, ⟨qL HB⟩⟩
    rw [if_neg c20] at H
    have c20b0 : (t523 != t524) = false := by simpa using c20
    (try (have c20b1 : decide (t523 = t524) = true := by simpa using c20))
    (try (have c20b2 : (t523 == t524) = true := by simpa using c20))
    clear c20
    replace H := qH H
    obtain ⟨t525, A26, H⟩ := H
    try dsimp only at H
    replace H := qH H
    obtain ⟨t526, A27, H⟩ := H
    try dsimp only at H
    by_cases c28 : (t525 != t526) = true
    · rw [if_pos c28] at H
      have c28b0 : (t525 != t526) = true := c28
      (try (have c28b1 : decide (t525 = t526) = false := by simpa using c28))
      (try (have c28b2 : (t525 == t526) = false := by simpa using c28))
      (try (have c28b3 : ¬ (t525 = t526) := by simpa using c28))
      clear c28
      have H' := Aside0.mk H
      clear H
      try go_wp2
      obtain ⟨w29, hw_⟩ : ∃ x, x = ((w10.setCell ⟨gb520, 0, none⟩ (.int .i64 t518)).setCell ⟨gb520, 1, none⟩ (.int .i64 t519)) := ⟨_, rfl⟩
      replace BK517 : Aside0 (w29.heap[gb517]? = some (.cells #[.int .i64 t505, .int .i64 t506, .int .i64 t507, .int .i64 t508, .int .i64 t509, .int .i64 t510, .int .i64 t511, .int .i64 t512, .int .i64 t513, .int .i64 t514, .int .i64 t515, .int .i64 t516] 41 (0, 0))) := ⟨by rw [hw_]; exact qF BK517⟩
      replace BK520 : Aside0 (w29.heap[gb520]? = some (.cells #[.int .i64 t518, .int .i64 t519] 24 (0, 0))) := ⟨by rw [hw_]; exact qP BK520⟩
      replace HB : Aside0 (Below w.heap.size w w29) := ⟨by rw [hw_]; exact qL HB⟩
      rw [← hw_]
      clear hw_
      replace BK517 := Aside0.mk (blk_drew BK517.out)
      replace BK520 := Aside0.mk (blk_drew BK520.out)
      replace HB := Aside0.mk (below_drew1 HB.out)
      refine start_ (n := 23) (S := fun w' => w'.cell? ⟨gb520, 0, none⟩ = some (.int .i64 t518) ∧ w'.cell? ⟨gb520, 1, none⟩ = some (.int .i64 t519) ∧ w'.cell? ⟨gb517, 0, none⟩ = some (.int .i64 t505) ∧ w'.cell? ⟨gb517, 1, none⟩ = some (.int .i64 t506) ∧ w'.cell? ⟨gb517, 2, none⟩ = some (.int .i64 t507) ∧ w'.cell? ⟨gb517, 3, none⟩ = some (.int .i64 t508) ∧ w'.cell? ⟨gb517, 4, none⟩ = some (.int .i64 t509) ∧ w'.cell? ⟨gb517, 5, none⟩ = some (.int .i64 t510) ∧ w'.cell? ⟨gb517, 6, none⟩ = some (.int .i64 t511) ∧ w'.cell? ⟨gb517, 7, none⟩ = some (.int .i64 t512) ∧ w'.cell? ⟨gb517, 8, none⟩ = some (.int .i64 t513) ∧ w'.cell? ⟨gb517, 9, none⟩ = some (.int .i64 t514) ∧ w'.cell? ⟨gb517, 10, none⟩ = some (.int .i64 t515) ∧ w'.cell? ⟨gb517, 11, none⟩ = some (.int .i64 t516)) (ds := []) #[false, false, false, false, false, false, false, false, false, false, false, false, false, false, false, false, false, false, false, false, false, false, false] (by kernel_rfl) rfl rfl ⟨bc BK520 0, bc BK520 1, bc BK517 0, bc BK517 1, bc BK517 2, bc BK517 3, bc BK517 4, bc BK517 5, bc BK517 6, bc BK517 7, bc BK517 8, bc BK517 9, bc BK517 10, bc BK517 11⟩ (fun hHeld => ?_); refine with_tabW laws_FnBodySpeed.tab5 laws_FnBodySpeed.bits5 (fun HT_ HW_ => ?_)
      generalize w29.drew = w30 at BK517 BK520 HB hHeld ⊢
      refine tk14 0 (some 12) #[true, false, false, false, false, false, false, false, false, false, false, false, false, false, false, false, false, false, false, false, false, false, false] HT_ HW_ hHeld ?_
      refine tk14 1 (some 13) #[true, true, false, false, false, false, false, false, false, false, false, false, false, false, false, false, false, false, false, false, false, false, false] HT_ HW_ hHeld ?_
      refine on 2 (some 14) #[true, true, true, false, false, false, false, false, false, false, false, false, false, false, false, false, false, false, false, false, false, false, false] HT_ (fun K hK => ?_)
      refine go1 Try.func21 #[.agg #[.int .i64 t505, .int .i64 t506, .int .i64 t507, .int .i64 t508, .int .i64 t509, .int .i64 t510, .int .i64 t511, .int .i64 t512, .int .i64 t513, .int .i64 t514, .int .i64 t515, .int .i64 t516]] ?_
      with_reducible refine (spec_BodySpeed.calls k t505 t506 t507 t508 t509 t510 t511 t512 t513 t514 t515 t516 t521 t522 _ A13.out).mono ?_
      rintro e w31 ⟨rfl, hb⟩
      refine ⟨_, rfl, ?_⟩
      replace BK517 := kBB BK517 hb
      replace BK520 := kBB BK520 hb
      replace HB := bS HB hb
      clear hb
      refine hK.out _ _ ⟨bc BK520 0, bc BK520 1, bc BK517 0, bc BK517 1, bc BK517 2, bc BK517 3, bc BK517 4, bc BK517 5, bc BK517 6, bc BK517 7, bc BK517 8, bc BK517 9, bc BK517 10, bc BK517 11⟩ (fun hHeld => ?_)
      clear hK K
      refine nm (some 14) ?_
      refine pu 3 (some 15) #[true, true, true, true, false, false, false, false, false, false, false, false, false, false, false, false, false, false, false, false, false, false, false] HT_ ?_
      refine pu 4 (some 16) #[true, true, true, true, true, false, false, false, false, false, false, false, false, false, false, false, false, false, false, false, false, false, false] HT_ ?_
      refine tk14 5 (some 17) #[true, true, true, true, true, true, false, false, false, false, false, false, false, false, false, false, false, false, false, false, false, false, false] HT_ HW_ hHeld ?_
      refine tk14 7 (some 19) #[true, true, true, true, true, true, false, true, false, false, false, false, false, false, false, false, false, false, false, false, false, false, false] HT_ HW_ hHeld ?_
      refine on 6 (some 18) #[true, true, true, true, true, true, true, true, false, false, false, false, false, false, false, false, false, false, false, false, false, false, false] HT_ (fun K hK => ?_)
      refine go1 Try.func52 #[.agg #[.int .i64 t505, .int .i64 t506, .int .i64 t507, .int .i64 t508, .int .i64 t509, .int .i64 t510, .int .i64 t511, .int .i64 t512, .int .i64 t513, .int .i64 t514, .int .i64 t515, .int .i64 t516]] ?_
      with_reducible refine (impl_BodyOk.calls k t505 t506 t507 t508 t509 t510 t511 t512 t513 t514 t515 t516 t523 _ A18.out).mono ?_
      rintro e w32 ⟨rfl, hb⟩
      refine ⟨_, rfl, ?_⟩
      replace BK517 := kBB BK517 hb
      replace BK520 := kBB BK520 hb
      replace HB := bS HB hb
      clear hb
      refine hK.out _ _ ⟨bc BK520 0, bc BK520 1, bc BK517 0, bc BK517 1, bc BK517 2, bc BK517 3, bc BK517 4, bc BK517 5, bc BK517 6, bc BK517 7, bc BK517 8, bc BK517 9, bc BK517 10, bc BK517 11⟩ (fun hHeld => ?_)
      clear hK K
      refine nm (some 18) ?_
      refine on 8 (some 20) #[true, true, true, true, true, true, true, true, true, false, false, false, false, false, false, false, false, false, false, false, false, false, false] HT_ (fun K hK => ?_)
      refine go1 Try.func53 #[.agg #[.int .i64 t505, .int .i64 t506, .int .i64 t507, .int .i64 t508, .int .i64 t509, .int .i64 t510, .int .i64 t511, .int .i64 t512, .int .i64 t513, .int .i64 t514, .int .i64 t515, .int .i64 t516]] ?_
      with_reducible refine (spec_BodyOk.calls k t505 t506 t507 t508 t509 t510 t511 t512 t513 t514 t515 t516 t524 _ A19.out).mono ?_
      rintro e w33 ⟨rfl, hb⟩
      refine ⟨_, rfl, ?_⟩
      replace BK517 := kBB BK517 hb
      replace BK520 := kBB BK520 hb
      replace HB := bS HB hb
      clear hb
      refine hK.out _ _ ⟨bc BK520 0, bc BK520 1, bc BK517 0, bc BK517 1, bc BK517 2, bc BK517 3, bc BK517 4, bc BK517 5, bc BK517 6, bc BK517 7, bc BK517 8, bc BK517 9, bc BK517 10, bc BK517 11⟩ (fun hHeld => ?_)
      clear hK K
      refine nm (some 20) ?_
      refine pu 9 (some 21) #[true, true, true, true, true, true, true, true, true, true, false, false, false, false, false, false, false, false, false, false, false, false, false] HT_ ?_
      refine pu 10 (some 22) #[true, true, true, true, true, true, true, true, true, true, true, false, false, false, false, false, false, false, false, false, false, false, false] HT_ ?_
      refine pu 11 (some 23) #[true, true, true, true, true, true, true, true, true, true, true, true, false, false, false, false, false, false, false, false, false, false, false] HT_ ?_
      refine tk14 12 (some 24) #[true, true, true, true, true, true, true, true, true, true, true, true, true, false, false, false, false, false, false, false, false, false, false] HT_ HW_ hHeld ?_
      refine tk14 14 (some 26) #[true, true, true, true, true, true, true, true, true, true, true, true, true, false, true, false, false, false, false, false, false, false, false] HT_ HW_ hHeld ?_
      refine on 13 (some 25) #[true, true, true, true, true, true, true, true, true, true, true, true, true, true, true, false, false, false, false, false, false, false, false] HT_ (fun K hK => ?_)
      refine go1 Try.func54 #[.agg #[.int .i64 t505, .int .i64 t506, .int .i64 t507, .int .i64 t508, .int .i64 t509, .int .i64 t510, .int .i64 t511, .int .i64 t512, .int .i64 t513, .int .i64 t514, .int .i64 t515, .int .i64 t516]] ?_
      with_reducible refine (impl_BodySleeps.calls k t505 t506 t507 t508 t509 t510 t511 t512 t513 t514 t515 t516 t525 _ A26.out).mono ?_
      rintro e w34 ⟨rfl, hb⟩
      refine ⟨_, rfl, ?_⟩
      replace BK517 := kBB BK517 hb
      replace BK520 := kBB BK520 hb
      replace HB := bS HB hb
      clear hb
      refine hK.out _ _ ⟨bc BK520 0, bc BK520 1, bc BK517 0, bc BK517 1, bc BK517 2, bc BK517 3, bc BK517 4, bc BK517 5, bc BK517 6, bc BK517 7, bc BK517 8, bc BK517 9, bc BK517 10, bc BK517 11⟩ (fun hHeld => ?_)
      clear hK K
      refine nm (some 25) ?_
      refine on 15 (some 27) #[true, true, true, true, true, true, true, true, true, true, true, true, true, true, true, true, false, false, false, false, false, false, false] HT_ (fun K hK => ?_)
      refine go1 Try.func55 #[.agg #[.int .i64 t505, .int .i64 t506, .int .i64 t507, .int .i64 t508, .int .i64 t509, .int .i64 t510, .int .i64 t511, .int .i64 t512, .int .i64 t513, .int .i64 t514, .int .i64 t515, .int .i64 t516]] ?_
      with_reducible refine (spec_BodySleeps.calls k t505 t506 t507 t508 t509 t510 t511 t512 t513 t514 t515 t516 t526 _ A27.out).mono ?_
      rintro e w35 ⟨rfl, hb⟩
      refine ⟨_, rfl, ?_⟩
      replace BK517 := kBB BK517 hb
      replace BK520 := kBB BK520 hb
      replace HB := bS HB hb
      clear hb
      refine hK.out _ _ ⟨bc BK520 0, bc BK520 1, bc BK517 0, bc BK517 1, bc BK517 2, bc BK517 3, bc BK517 4, bc BK517 5, bc BK517 6, bc BK517 7, bc BK517 8, bc BK517 9, bc BK517 10, bc BK517 11⟩ (fun hHeld => ?_)
      clear hK K
      refine nm (some 27) ?_
      refine pu 16 (some 28) #[true, true, true, true, true, true, true, true, true, true, true, true, true, true, true, true, true, false, false, false, false, false, false] HT_ ?_
      refine pu 17 (some 29) #[true, true, true, true, true, true, true, true, true, true, true, true, true, true, true, true, true, true, false, false, false, false, false] HT_ ?_
      refine pu 18 (some 30) #[true, true, true, true, true, true, true, true, true, true, true, true, true, true, true, true, true, true, true, false, false, false, false] HT_ ?_
      refine pv 19 (some 31) #[true, true, true, true, true, true, true, true, true, true, true, true, true, true, true, true, true, true, true, true, false, false, false] HT_ ?_
      refine pv 20 (some 32) #[true, true, true, true, true, true, true, true, true, true, true, true, true, true, true, true, true, true, true, true, true, false, false] HT_ ?_
      refine pv 21 (some 33) #[true, true, true, true, true, true, true, true, true, true, true, true, true, true, true, true, true, true, true, true, true, true, false] HT_ ?_
      refine pu 22 (some 34) #[true, true, true, true, true, true, true, true, true, true, true, true, true, true, true, true, true, true, true, true, true, true, true] HT_ ?_
      refine done_ (done_of HT_.out (by kernel_rfl)) ?_
      try go_wp2
      go_meet
      case rel => exact ⟨_, (true), (by first | rfl | (simp; done) | (simp [*]; done)), H', ⟨by first | omega | exact Nat.le_refl _⟩, ⟨qF BK517⟩, ⟨qF BK520⟩, ⟨qL HB⟩⟩
    rw [if_neg c28] at H
    have c28b0 : (t525 != t526) = false := by simpa using c28
    (try (have c28b1 : decide (t525 = t526) = true := by simpa using c28))
    (try (have c28b2 : (t525 == t526) = true := by simpa using c28))
    clear c28
    replace H := qH H
    obtain ⟨t527, A36, H⟩ := H
    try dsimp only at H
    have H' := Aside0.mk H
    clear H
    try go_wp2
    obtain ⟨w37, hw_⟩ : ∃ x, x = ((w10.setCell ⟨gb520, 0, none⟩ (.int .i64 t518)).setCell ⟨gb520, 1, none⟩ (.int .i64 t519)) := ⟨_, rfl⟩
    replace BK517 : Aside0 (w37.heap[gb517]? = some (.cells #[.int .i64 t505, .int .i64 t506, .int .i64 t507, .int .i64 t508, .int .i64 t509, .int .i64 t510, .int .i64 t511, .int .i64 t512, .int .i64 t513, .int .i64 t514, .int .i64 t515, .int .i64 t516] 41 (0, 0))) := ⟨by rw [hw_]; exact qF BK517⟩
    replace BK520 : Aside0 (w37.heap[gb520]? = some (.cells #[.int .i64 t518, .int .i64 t519] 24 (0, 0))) := ⟨by rw [hw_]; exact qP BK520⟩
    replace HB : Aside0 (Below w.heap.size w w37) := ⟨by rw [hw_]; exact qL HB⟩
    rw [← hw_]
    clear hw_
    replace BK517 := Aside0.mk (blk_drew BK517.out)
    replace BK520 := Aside0.mk (blk_drew BK520.out)
    replace HB := Aside0.mk (below_drew1 HB.out)
    refine start_ (n := 23) (S := fun w' => w'.cell? ⟨gb520, 0, none⟩ = some (.int .i64 t518) ∧ w'.cell? ⟨gb520, 1, none⟩ = some (.int .i64 t519) ∧ w'.cell? ⟨gb517, 0, none⟩ = some (.int .i64 t505) ∧ w'.cell? ⟨gb517, 1, none⟩ = some (.int .i64 t506) ∧ w'.cell? ⟨gb517, 2, none⟩ = some (.int .i64 t507) ∧ w'.cell? ⟨gb517, 3, none⟩ = some (.int .i64 t508) ∧ w'.cell? ⟨gb517, 4, none⟩ = some (.int .i64 t509) ∧ w'.cell? ⟨gb517, 5, none⟩ = some (.int .i64 t510) ∧ w'.cell? ⟨gb517, 6, none⟩ = some (.int .i64 t511) ∧ w'.cell? ⟨gb517, 7, none⟩ = some (.int .i64 t512) ∧ w'.cell? ⟨gb517, 8, none⟩ = some (.int .i64 t513) ∧ w'.cell? ⟨gb517, 9, none⟩ = some (.int .i64 t514) ∧ w'.cell? ⟨gb517, 10, none⟩ = some (.int .i64 t515) ∧ w'.cell? ⟨gb517, 11, none⟩ = some (.int .i64 t516)) (ds := []) #[false, false, false, false, false, false, false, false, false, false, false, false, false, false, false, false, false, false, false, false, false, false, false] (by kernel_rfl) rfl rfl ⟨bc BK520 0, bc BK520 1, bc BK517 0, bc BK517 1, bc BK517 2, bc BK517 3, bc BK517 4, bc BK517 5, bc BK517 6, bc BK517 7, bc BK517 8, bc BK517 9, bc BK517 10, bc BK517 11⟩ (fun hHeld => ?_); refine with_tabW laws_FnBodySpeed.tab5 laws_FnBodySpeed.bits5 (fun HT_ HW_ => ?_)
    generalize w37.drew = w38 at BK517 BK520 HB hHeld ⊢
    refine tk14 0 (some 12) #[true, false, false, false, false, false, false, false, false, false, false, false, false, false, false, false, false, false, false, false, false, false, false] HT_ HW_ hHeld ?_
    refine tk14 1 (some 13) #[true, true, false, false, false, false, false, false, false, false, false, false, false, false, false, false, false, false, false, false, false, false, false] HT_ HW_ hHeld ?_
    refine on 2 (some 14) #[true, true, true, false, false, false, false, false, false, false, false, false, false, false, false, false, false, false, false, false, false, false, false] HT_ (fun K hK => ?_)
    refine go1 Try.func21 #[.agg #[.int .i64 t505, .int .i64 t506, .int .i64 t507, .int .i64 t508, .int .i64 t509, .int .i64 t510, .int .i64 t511, .int .i64 t512, .int .i64 t513, .int .i64 t514, .int .i64 t515, .int .i64 t516]] ?_
    with_reducible refine (spec_BodySpeed.calls k t505 t506 t507 t508 t509 t510 t511 t512 t513 t514 t515 t516 t521 t522 _ A13.out).mono ?_
    rintro e w39 ⟨rfl, hb⟩
    refine ⟨_, rfl, ?_⟩
    replace BK517 := kBB BK517 hb
    replace BK520 := kBB BK520 hb
    replace HB := bS HB hb
    clear hb
    refine hK.out _ _ ⟨bc BK520 0, bc BK520 1, bc BK517 0, bc BK517 1, bc BK517 2, bc BK517 3, bc BK517 4, bc BK517 5, bc BK517 6, bc BK517 7, bc BK517 8, bc BK517 9, bc BK517 10, bc BK517 11⟩ (fun hHeld => ?_)
    clear hK K
    refine nm (some 14) ?_
    refine pu 3 (some 15) #[true, true, true, true, false, false, false, false, false, false, false, false, false, false, false, false, false, false, false, false, false, false, false] HT_ ?_
    refine pu 4 (some 16) #[true, true, true, true, true, false, false, false, false, false, false, false, false, false, false, false, false, false, false, false, false, false, false] HT_ ?_
    refine tk14 5 (some 17) #[true, true, true, true, true, true, false, false, false, false, false, false, false, false, false, false, false, false, false, false, false, false, false] HT_ HW_ hHeld ?_
    refine tk14 7 (some 19) #[true, true, true, true, true, true, false, true, false, false, false, false, false, false, false, false, false, false, false, false, false, false, false] HT_ HW_ hHeld ?_
    refine on 6 (some 18) #[true, true, true, true, true, true, true, true, false, false, false, false, false, false, false, false, false, false, false, false, false, false, false] HT_ (fun K hK => ?_)
    refine go1 Try.func52 #[.agg #[.int .i64 t505, .int .i64 t506, .int .i64 t507, .int .i64 t508, .int .i64 t509, .int .i64 t510, .int .i64 t511, .int .i64 t512, .int .i64 t513, .int .i64 t514, .int .i64 t515, .int .i64 t516]] ?_
    with_reducible refine (impl_BodyOk.calls k t505 t506 t507 t508 t509 t510 t511 t512 t513 t514 t515 t516 t523 _ A18.out).mono ?_
    rintro e w40 ⟨rfl, hb⟩
    refine ⟨_, rfl, ?_⟩
    replace BK517 := kBB BK517 hb
    replace BK520 := kBB BK520 hb
    replace HB := bS HB hb
    clear hb
    refine hK.out _ _ ⟨bc BK520 0, bc BK520 1, bc BK517 0, bc BK517 1, bc BK517 2, bc BK517 3, bc BK517 4, bc BK517 5, bc BK517 6, bc BK517 7, bc BK517 8, bc BK517 9, bc BK517 10, bc BK517 11⟩ (fun hHeld => ?_)
    clear hK K
    refine nm (some 18) ?_
    refine on 8 (some 20) #[true, true, true, true, true, true, true, true, true, false, false, false, false, false, false, false, false, false, false, false, false, false, false] HT_ (fun K hK => ?_)
    refine go1 Try.func53 #[.agg #[.int .i64 t505, .int .i64 t506, .int .i64 t507, .int .i64 t508, .int .i64 t509, .int .i64 t510, .int .i64 t511, .int .i64 t512, .int .i64 t513, .int .i64 t514, .int .i64 t515, .int .i64 t516]] ?_
    with_reducible refine (spec_BodyOk.calls k t505 t506 t507 t508 t509 t510 t511 t512 t513 t514 t515 t516 t524 _ A19.out).mono ?_
    rintro e w41 ⟨rfl, hb⟩
    refine ⟨_, rfl, ?_⟩
    replace BK517 := kBB BK517 hb
    replace BK520 := kBB BK520 hb
    replace HB := bS HB hb
    clear hb
    refine hK.out _ _ ⟨bc BK520 0, bc BK520 1, bc BK517 0, bc BK517 1, bc BK517 2, bc BK517 3, bc BK517 4, bc BK517 5, bc BK517 6, bc BK517 7, bc BK517 8, bc BK517 9, bc BK517 10, bc BK517 11⟩ (fun hHeld => ?_)
    clear hK K
    refine nm (some 20) ?_
    refine pu 9 (some 21) #[true, true, true, true, true, true, true, true, true, true, false, false, false, false, false, false, false, false, false, false, false, false, false] HT_ ?_
    refine pu 10 (some 22) #[true, true, true, true, true, true, true, true, true, true, true, false, false, false, false, false, false, false, false, false, false, false, false] HT_ ?_
    refine pu 11 (some 23) #[true, true, true, true, true, true, true, true, true, true, true, true, false, false, false, false, false, false, false, false, false, false, false] HT_ ?_
    refine tk14 12 (some 24) #[true, true, true, true, true, true, true, true, true, true, true, true, true, false, false, false, false, false, false, false, false, false, false] HT_ HW_ hHeld ?_
    refine tk14 14 (some 26) #[true, true, true, true, true, true, true, true, true, true, true, true, true, false, true, false, false, false, false, false, false, false, false] HT_ HW_ hHeld ?_
    refine on 13 (some 25) #[true, true, true, true, true, true, true, true, true, true, true, true, true, true, true, false, false, false, false, false, false, false, false] HT_ (fun K hK => ?_)
    refine go1 Try.func54 #[.agg #[.int .i64 t505, .int .i64 t506, .int .i64 t507, .int .i64 t508, .int .i64 t509, .int .i64 t510, .int .i64 t511, .int .i64 t512, .int .i64 t513, .int .i64 t514, .int .i64 t515, .int .i64 t516]] ?_
    with_reducible refine (impl_BodySleeps.calls k t505 t506 t507 t508 t509 t510 t511 t512 t513 t514 t515 t516 t525 _ A26.out).mono ?_
    rintro e w42 ⟨rfl, hb⟩
    refine ⟨_, rfl, ?_⟩
    replace BK517 := kBB BK517 hb
    replace BK520 := kBB BK520 hb
    replace HB := bS HB hb
    clear hb
    refine hK.out _ _ ⟨bc BK520 0, bc BK520 1, bc BK517 0, bc BK517 1, bc BK517 2, bc BK517 3, bc BK517 4, bc BK517 5, bc BK517 6, bc BK517 7, bc BK517 8, bc BK517 9, bc BK517 10, bc BK517 11⟩ (fun hHeld => ?_)
    clear hK K
    refine nm (some 25) ?_
    refine on 15 (some 27) #[true, true, true, true, true, true, true, true, true, true, true, true, true, true, true, true, false, false, false, false, false, false, false] HT_ (fun K hK => ?_)
    refine go1 Try.func55 #[.agg #[.int .i64 t505, .int .i64 t506, .int .i64 t507, .int .i64 t508, .int .i64 t509, .int .i64 t510, .int .i64 t511, .int .i64 t512, .int .i64 t513, .int .i64 t514, .int .i64 t515, .int .i64 t516]] ?_
    with_reducible refine (spec_BodySleeps.calls k t505 t506 t507 t508 t509 t510 t511 t512 t513 t514 t515 t516 t526 _ A27.out).mono ?_
    rintro e w43 ⟨rfl, hb⟩
    refine ⟨_, rfl, ?_⟩
    replace BK517 := kBB BK517 hb
    replace BK520 := kBB BK520 hb
    replace HB := bS HB hb
    clear hb
    refine hK.out _ _ ⟨bc BK520 0, bc BK520 1, bc BK517 0, bc BK517 1, bc BK517 2, bc BK517 3, bc BK517 4, bc BK517 5, bc BK517 6, bc BK517 7, bc BK517 8, bc BK517 9, bc BK517 10, bc BK517 11⟩ (fun hHeld => ?_)
    clear hK K
    refine nm (some 27) ?_
    refine pu 16 (some 28) #[true, true, true, true, true, true, true, true, true, true, true, true, true, true, true, true, true, false, false, false, false, false, false] HT_ ?_
    refine pu 17 (some 29) #[true, true, true, true, true, true, true, true, true, true, true, true, true, true, true, true, true, true, false, false, false, false, false] HT_ ?_
    refine pu 18 (some 30) #[true, true, true, true, true, true, true, true, true, true, true, true, true, true, true, true, true, true, true, false, false, false, false] HT_ ?_
    refine tk14 19 (some 31) #[true, true, true, true, true, true, true, true, true, true, true, true, true, true, true, true, true, true, true, true, false, false, false] HT_ HW_ hHeld ?_
    refine on 20 (some 32) #[true, true, true, true, true, true, true, true, true, true, true, true, true, true, true, true, true, true, true, true, true, false, false] HT_ (fun K hK => ?_)
    refine go1 Try.func53 #[.agg #[.int .i64 t505, .int .i64 t506, .int .i64 t507, .int .i64 t508, .int .i64 t509, .int .i64 t510, .int .i64 t511, .int .i64 t512, .int .i64 t513, .int .i64 t514, .int .i64 t515, .int .i64 t516]] ?_
    with_reducible refine (spec_BodyOk.calls k t505 t506 t507 t508 t509 t510 t511 t512 t513 t514 t515 t516 t527 _ A36.out).mono ?_
    rintro e w44 ⟨rfl, hb⟩
    refine ⟨_, rfl, ?_⟩
    replace BK517 := kBB BK517 hb
    replace BK520 := kBB BK520 hb
    replace HB := bS HB hb
    clear hb
    refine hK.out _ _ ⟨bc BK520 0, bc BK520 1, bc BK517 0, bc BK517 1, bc BK517 2, bc BK517 3, bc BK517 4, bc BK517 5, bc BK517 6, bc BK517 7, bc BK517 8, bc BK517 9, bc BK517 10, bc BK517 11⟩ (fun hHeld => ?_)
    clear hK K
    refine nm (some 32) ?_
    refine pu 21 (some 33) #[true, true, true, true, true, true, true, true, true, true, true, true, true, true, true, true, true, true, true, true, true, true, false] HT_ ?_
    refine pu 22 (some 34) #[true, true, true, true, true, true, true, true, true, true, true, true, true, true, true, true, true, true, true, true, true, true, true] HT_ ?_
    refine done_ (done_of HT_.out (by kernel_rfl)) ?_
    try go_wp2
    go_meet
    case rel => exact ⟨_, (!t527), (by first | rfl | (simp; done) | (simp [*]; done)), H', ⟨by first | omega | exact Nat.le_refl _⟩, ⟨qF BK517⟩, ⟨qF BK520⟩, ⟨qL HB⟩⟩
  case rest =>
    clear HC5
    (try clear c2); (try clear p2); (try clear c5); (try clear c21); (try clear c28); (try clear c28b0); (try clear c28b1); (try clear c28b2)
    obtain ⟨kq, x34_4, rfl, HA, HJ4, BK517, BK520, HB⟩ := hcut
    cases kq with
    | zero => exact absurd HA.out (by simp [laws_FnBodySpeed.j0])
    | succ kj4 => ?_
    have H := HA.out
    clear HA
    simp only [laws_FnBodySpeed.j0] at H
    by_cases c45 : x34_4 = true
    · subst c45
      have H1 : ((spec_BodySpeed.f kj4 t505 t506 t507 t508 t509 t510 t511 t512 t513 t514 t515 t516).bind fun bt528 => (if (t518 == bt528.1 && (t519 == bt528.2)) = true then ((impl_BodyOk.f kj4 t505 t506 t507 t508 t509 t510 t511 t512 t513 t514 t515 t516).bind fun t530 => ((spec_BodyOk.f kj4 t505 t506 t507 t508 t509 t510 t511 t512 t513 t514 t515 t516).bind fun t531 => (if (t530 == t531) = true then ((impl_BodySleeps.f kj4 t505 t506 t507 t508 t509 t510 t511 t512 t513 t514 t515 t516).bind fun t532 => ((spec_BodySleeps.f kj4 t505 t506 t507 t508 t509 t510 t511 t512 t513 t514 t515 t516).bind fun t533 => (some (t532 == t533)))) else (some false)))) else (some false))) = some r := by rw [if_pos rfl] at H; exact H
      clear H
      have H := H1
      clear H1
      replace H := qH H
      obtain ⟨⟨t528, t529⟩, A46, H⟩ := H
      try dsimp only at H
      by_cases c47 : (t518 == t528 && (t519 == t529)) = true
      · rw [if_pos c47] at H
        have c47b0 : (t518 == t528 && (t519 == t529)) = true := c47
        (try (have c47b1 : decide (t518 = t528 && (t519 == t529)) = true := by simpa using c47))
        (try (have c47b2 : (t518 == t528 && (t519 == t529)) = true := by simpa using c47))
        clear c47
        replace H := qH H
        obtain ⟨t530, A48, H⟩ := H
        try dsimp only at H
        replace H := qH H
        obtain ⟨t531, A49, H⟩ := H
        try dsimp only at H
        by_cases c50 : (t530 == t531) = true
        · rw [if_pos c50] at H
          have c50b0 : (t530 == t531) = true := c50
          (try (have c50b1 : decide (t530 = t531) = true := by simpa using c50))
          (try (have c50b2 : (t530 == t531) = true := by simpa using c50))
          clear c50
          replace H := qH H
          obtain ⟨t532, A51, H⟩ := H
          try dsimp only at H
          replace H := qH H
          obtain ⟨t533, A52, H⟩ := H
          try dsimp only at H
          obtain rfl := Option.some.inj H
          try go_wp2
          replace BK517 := Aside0.mk (blk_drew BK517.out)
          replace BK520 := Aside0.mk (blk_drew BK520.out)
          replace HB := Aside0.mk (below_drew1 HB.out)
          refine start_ (n := 19) (S := fun w' => w'.cell? ⟨gb520, 0, none⟩ = some (.int .i64 t518) ∧ w'.cell? ⟨gb520, 1, none⟩ = some (.int .i64 t519) ∧ w'.cell? ⟨gb517, 0, none⟩ = some (.int .i64 t505) ∧ w'.cell? ⟨gb517, 1, none⟩ = some (.int .i64 t506) ∧ w'.cell? ⟨gb517, 2, none⟩ = some (.int .i64 t507) ∧ w'.cell? ⟨gb517, 3, none⟩ = some (.int .i64 t508) ∧ w'.cell? ⟨gb517, 4, none⟩ = some (.int .i64 t509) ∧ w'.cell? ⟨gb517, 5, none⟩ = some (.int .i64 t510) ∧ w'.cell? ⟨gb517, 6, none⟩ = some (.int .i64 t511) ∧ w'.cell? ⟨gb517, 7, none⟩ = some (.int .i64 t512) ∧ w'.cell? ⟨gb517, 8, none⟩ = some (.int .i64 t513) ∧ w'.cell? ⟨gb517, 9, none⟩ = some (.int .i64 t514) ∧ w'.cell? ⟨gb517, 10, none⟩ = some (.int .i64 t515) ∧ w'.cell? ⟨gb517, 11, none⟩ = some (.int .i64 t516)) (ds := []) #[false, false, false, false, false, false, false, false, false, false, false, false, false, false, false, false, false, false, false] (by kernel_rfl) rfl rfl ⟨bc BK520 0, bc BK520 1, bc BK517 0, bc BK517 1, bc BK517 2, bc BK517 3, bc BK517 4, bc BK517 5, bc BK517 6, bc BK517 7, bc BK517 8, bc BK517 9, bc BK517 10, bc BK517 11⟩ (fun hHeld => ?_); refine with_tabW laws_FnBodySpeed.tab6 laws_FnBodySpeed.bits6 (fun HT_ HW_ => ?_)
          generalize wc.drew = w53 at BK517 BK520 HB hHeld ⊢
          refine tk14 0 (some 35) #[true, false, false, false, false, false, false, false, false, false, false, false, false, false, false, false, false, false, false] HT_ HW_ hHeld ?_
          refine tk14 1 (some 36) #[true, true, false, false, false, false, false, false, false, false, false, false, false, false, false, false, false, false, false] HT_ HW_ hHeld ?_
          refine on 2 (some 37) #[true, true, true, false, false, false, false, false, false, false, false, false, false, false, false, false, false, false, false] HT_ (fun K hK => ?_)
          refine go1 Try.func21 #[.agg #[.int .i64 t505, .int .i64 t506, .int .i64 t507, .int .i64 t508, .int .i64 t509, .int .i64 t510, .int .i64 t511, .int .i64 t512, .int .i64 t513, .int .i64 t514, .int .i64 t515, .int .i64 t516]] ?_
          with_reducible refine (spec_BodySpeed.calls kj4 t505 t506 t507 t508 t509 t510 t511 t512 t513 t514 t515 t516 t528 t529 _ A46.out).mono ?_
          rintro e w54 ⟨rfl, hb⟩
          refine ⟨_, rfl, ?_⟩
          replace BK517 := kBB BK517 hb
          replace BK520 := kBB BK520 hb
          replace HB := bS HB hb
          clear hb
          refine hK.out _ _ ⟨bc BK520 0, bc BK520 1, bc BK517 0, bc BK517 1, bc BK517 2, bc BK517 3, bc BK517 4, bc BK517 5, bc BK517 6, bc BK517 7, bc BK517 8, bc BK517 9, bc BK517 10, bc BK517 11⟩ (fun hHeld => ?_)
          clear hK K
          refine nm (some 37) ?_
          refine pu 3 (some 38) #[true, true, true, true, false, false, false, false, false, false, false, false, false, false, false, false, false, false, false] HT_ ?_
          refine pu 4 (some 39) #[true, true, true, true, true, false, false, false, false, false, false, false, false, false, false, false, false, false, false] HT_ ?_
          refine tk14 5 (some 40) #[true, true, true, true, true, true, false, false, false, false, false, false, false, false, false, false, false, false, false] HT_ HW_ hHeld ?_
          refine tk14 7 (some 42) #[true, true, true, true, true, true, false, true, false, false, false, false, false, false, false, false, false, false, false] HT_ HW_ hHeld ?_
          refine on 6 (some 41) #[true, true, true, true, true, true, true, true, false, false, false, false, false, false, false, false, false, false, false] HT_ (fun K hK => ?_)
          refine go1 Try.func52 #[.agg #[.int .i64 t505, .int .i64 t506, .int .i64 t507, .int .i64 t508, .int .i64 t509, .int .i64 t510, .int .i64 t511, .int .i64 t512, .int .i64 t513, .int .i64 t514, .int .i64 t515, .int .i64 t516]] ?_
          with_reducible refine (impl_BodyOk.calls kj4 t505 t506 t507 t508 t509 t510 t511 t512 t513 t514 t515 t516 t530 _ A48.out).mono ?_
          rintro e w55 ⟨rfl, hb⟩
          refine ⟨_, rfl, ?_⟩
          replace BK517 := kBB BK517 hb
          replace BK520 := kBB BK520 hb
          replace HB := bS HB hb
          clear hb
          refine hK.out _ _ ⟨bc BK520 0, bc BK520 1, bc BK517 0, bc BK517 1, bc BK517 2, bc BK517 3, bc BK517 4, bc BK517 5, bc BK517 6, bc BK517 7, bc BK517 8, bc BK517 9, bc BK517 10, bc BK517 11⟩ (fun hHeld => ?_)
          clear hK K
          refine nm (some 41) ?_
          refine on 8 (some 43) #[true, true, true, true, true, true, true, true, true, false, false, false, false, false, false, false, false, false, false] HT_ (fun K hK => ?_)
          refine go1 Try.func53 #[.agg #[.int .i64 t505, .int .i64 t506, .int .i64 t507, .int .i64 t508, .int .i64 t509, .int .i64 t510, .int .i64 t511, .int .i64 t512, .int .i64 t513, .int .i64 t514, .int .i64 t515, .int .i64 t516]] ?_
          with_reducible refine (spec_BodyOk.calls kj4 t505 t506 t507 t508 t509 t510 t511 t512 t513 t514 t515 t516 t531 _ A49.out).mono ?_
          rintro e w56 ⟨rfl, hb⟩
          refine ⟨_, rfl, ?_⟩
          replace BK517 := kBB BK517 hb
          replace BK520 := kBB BK520 hb
          replace HB := bS HB hb
          clear hb
          refine hK.out _ _ ⟨bc BK520 0, bc BK520 1, bc BK517 0, bc BK517 1, bc BK517 2, bc BK517 3, bc BK517 4, bc BK517 5, bc BK517 6, bc BK517 7, bc BK517 8, bc BK517 9, bc BK517 10, bc BK517 11⟩ (fun hHeld => ?_)
          clear hK K
          refine nm (some 43) ?_
          refine pu 9 (some 44) #[true, true, true, true, true, true, true, true, true, true, false, false, false, false, false, false, false, false, false] HT_ ?_
          refine pu 10 (some 45) #[true, true, true, true, true, true, true, true, true, true, true, false, false, false, false, false, false, false, false] HT_ ?_
          refine pu 11 (some 46) #[true, true, true, true, true, true, true, true, true, true, true, true, false, false, false, false, false, false, false] HT_ ?_
          refine tk14 12 (some 47) #[true, true, true, true, true, true, true, true, true, true, true, true, true, false, false, false, false, false, false] HT_ HW_ hHeld ?_
          refine tk14 14 (some 49) #[true, true, true, true, true, true, true, true, true, true, true, true, true, false, true, false, false, false, false] HT_ HW_ hHeld ?_
          refine on 13 (some 48) #[true, true, true, true, true, true, true, true, true, true, true, true, true, true, true, false, false, false, false] HT_ (fun K hK => ?_)
          refine go1 Try.func54 #[.agg #[.int .i64 t505, .int .i64 t506, .int .i64 t507, .int .i64 t508, .int .i64 t509, .int .i64 t510, .int .i64 t511, .int .i64 t512, .int .i64 t513, .int .i64 t514, .int .i64 t515, .int .i64 t516]] ?_
          with_reducible refine (impl_BodySleeps.calls kj4 t505 t506 t507 t508 t509 t510 t511 t512 t513 t514 t515 t516 t532 _ A51.out).mono ?_
          rintro e w57 ⟨rfl, hb⟩
          refine ⟨_, rfl, ?_⟩
          replace BK517 := kBB BK517 hb
          replace BK520 := kBB BK520 hb
          replace HB := bS HB hb
          clear hb
          refine hK.out _ _ ⟨bc BK520 0, bc BK520 1, bc BK517 0, bc BK517 1, bc BK517 2, bc BK517 3, bc BK517 4, bc BK517 5, bc BK517 6, bc BK517 7, bc BK517 8, bc BK517 9, bc BK517 10, bc BK517 11⟩ (fun hHeld => ?_)
          clear hK K
          refine nm (some 48) ?_
          refine on 15 (some 50) #[true, true, true, true, true, true, true, true, true, true, true, true, true, true, true, true, false, false, false] HT_ (fun K hK => ?_)
          refine go1 Try.func55 #[.agg #[.int .i64 t505, .int .i64 t506, .int .i64 t507, .int .i64 t508, .int .i64 t509, .int .i64 t510, .int .i64 t511, .int .i64 t512, .int .i64 t513, .int .i64 t514, .int .i64 t515, .int .i64 t516]] ?_
          with_reducible refine (spec_BodySleeps.calls kj4 t505 t506 t507 t508 t509 t510 t511 t512 t513 t514 t515 t516 t533 _ A52.out).mono ?_
          rintro e w58 ⟨rfl, hb⟩
          refine ⟨_, rfl, ?_⟩
          replace BK517 := kBB BK517 hb
          replace BK520 := kBB BK520 hb
          replace HB := bS HB hb
          clear hb
          refine hK.out _ _ ⟨bc BK520 0, bc BK520 1, bc BK517 0, bc BK517 1, bc BK517 2, bc BK517 3, bc BK517 4, bc BK517 5, bc BK517 6, bc BK517 7, bc BK517 8, bc BK517 9, bc BK517 10, bc BK517 11⟩ (fun hHeld => ?_)
          clear hK K
          refine nm (some 50) ?_
          refine pu 16 (some 51) #[true, true, true, true, true, true, true, true, true, true, true, true, true, true, true, true, true, false, false] HT_ ?_
          refine pu 17 (some 52) #[true, true, true, true, true, true, true, true, true, true, true, true, true, true, true, true, true, true, false] HT_ ?_
          refine pu 18 (some 2) #[true, true, true, true, true, true, true, true, true, true, true, true, true, true, true, true, true, true, true] HT_ ?_
          refine done_ (done_of HT_.out (by kernel_rfl)) ?_
          try go_wp2
          go_ret
          exact ⟨qE, qL HB⟩
        rw [if_neg c50] at H
        have c50b0 : (t530 == t531) = false := by simpa using c50
        (try (have c50b1 : decide (t530 = t531) = false := by simpa using c50))
        (try (have c50b2 : (t530 == t531) = false := by simpa using c50))
        (try (have c50b3 : ¬ (t530 = t531) := by simpa using c50))
        clear c50
        obtain rfl := Option.some.inj H
        try go_wp2
        replace BK517 := Aside0.mk (blk_drew BK517.out)
        replace BK520 := Aside0.mk (blk_drew BK520.out)
        replace HB := Aside0.mk (below_drew1 HB.out)
        refine start_ (n := 19) (S := fun w' => w'.cell? ⟨gb520, 0, none⟩ = some (.int .i64 t518) ∧ w'.cell? ⟨gb520, 1, none⟩ = some (.int .i64 t519) ∧ w'.cell? ⟨gb517, 0, none⟩ = some (.int .i64 t505) ∧ w'.cell? ⟨gb517, 1, none⟩ = some (.int .i64 t506) ∧ w'.cell? ⟨gb517, 2, none⟩ = some (.int .i64 t507) ∧ w'.cell? ⟨gb517, 3, none⟩ = some (.int .i64 t508) ∧ w'.cell? ⟨gb517, 4, none⟩ = some (.int .i64 t509) ∧ w'.cell? ⟨gb517, 5, none⟩ = some (.int .i64 t510) ∧ w'.cell? ⟨gb517, 6, none⟩ = some (.int .i64 t511) ∧ w'.cell? ⟨gb517, 7, none⟩ = some (.int .i64 t512) ∧ w'.cell? ⟨gb517, 8, none⟩ = some (.int .i64 t513) ∧ w'.cell? ⟨gb517, 9, none⟩ = some (.int .i64 t514) ∧ w'.cell? ⟨gb517, 10, none⟩ = some (.int .i64 t515) ∧ w'.cell? ⟨gb517, 11, none⟩ = some (.int .i64 t516)) (ds := []) #[false, false, false, false, false, false, false, false, false, false, false, false, false, false, false, false, false, false, false] (by kernel_rfl) rfl rfl ⟨bc BK520 0, bc BK520 1, bc BK517 0, bc BK517 1, bc BK517 2, bc BK517 3, bc BK517 4, bc BK517 5, bc BK517 6, bc BK517 7, bc BK517 8, bc BK517 9, bc BK517 10, bc BK517 11⟩ (fun hHeld => ?_); refine with_tabW laws_FnBodySpeed.tab6 laws_FnBodySpeed.bits6 (fun HT_ HW_ => ?_)
        generalize wc.drew = w59 at BK517 BK520 HB hHeld ⊢
        refine tk14 0 (some 35) #[true, false, false, false, false, false, false, false, false, false, false, false, false, false, false, false, false, false, false] HT_ HW_ hHeld ?_
        refine tk14 1 (some 36) #[true, true, false, false, false, false, false, false, false, false, false, false, false, false, false, false, false, false, false] HT_ HW_ hHeld ?_
        refine on 2 (some 37) #[true, true, true, false, false, false, false, false, false, false, false, false, false, false, false, false, false, false, false] HT_ (fun K hK => ?_)
        refine go1 Try.func21 #[.agg #[.int .i64 t505, .int .i64 t506, .int .i64 t507, .int .i64 t508, .int .i64 t509, .int .i64 t510, .int .i64 t511, .int .i64 t512, .int .i64 t513, .int .i64 t514, .int .i64 t515, .int .i64 t516]] ?_
        with_reducible refine (spec_BodySpeed.calls kj4 t505 t506 t507 t508 t509 t510 t511 t512 t513 t514 t515 t516 t528 t529 _ A46.out).mono ?_
        rintro e w60 ⟨rfl, hb⟩
        refine ⟨_, rfl, ?_⟩
        replace BK517 := kBB BK517 hb
        replace BK520 := kBB BK520 hb
        replace HB := bS HB hb
        clear hb
        refine hK.out _ _ ⟨bc BK520 0, bc BK520 1, bc BK517 0, bc BK517 1, bc BK517 2, bc BK517 3, bc BK517 4, bc BK517 5, bc BK517 6, bc BK517 7, bc BK517 8, bc BK517 9, bc BK517 10, bc BK517 11⟩ (fun hHeld => ?_)
        clear hK K
        refine nm (some 37) ?_
        refine pu 3 (some 38) #[true, true, true, true, false, false, false, false, false, false, false, false, false, false, false, false, false, false, false] HT_ ?_
        refine pu 4 (some 39) #[true, true, true, true, true, false, false, false, false, false, false, false, false, false, false, false, false, false, false] HT_ ?_
        refine tk14 5 (some 40) #[true, true, true, true, true, true, false, false, false, false, false, false, false, false, false, false, false, false, false] HT_ HW_ hHeld ?_
        refine tk14 7 (some 42) #[true, true, true, true, true, true, false, true, false, false, false, false, false, false, false, false, false, false, false] HT_ HW_ hHeld ?_
        refine on 6 (some 41) #[true, true, true, true, true, true, true, true, false, false, false, false, false, false, false, false, false, false, false] HT_ (fun K hK => ?_)
        refine go1 Try.func52 #[.agg #[.int .i64 t505, .int .i64 t506, .int .i64 t507, .int .i64 t508, .int .i64 t509, .int .i64 t510, .int .i64 t511, .int .i64 t512, .int .i64 t513, .int .i64 t514, .int .i64 t515, .int .i64 t516]] ?_
        with_reducible refine (impl_BodyOk.calls kj4 t505 t506 t507 t508 t509 t510 t511 t512 t513 t514 t515 t516 t530 _ A48.out).mono ?_
        rintro e w61 ⟨rfl, hb⟩
        refine ⟨_, rfl, ?_⟩
        replace BK517 := kBB BK517 hb
        replace BK520 := kBB BK520 hb
        replace HB := bS HB hb
        clear hb
        refine hK.out _ _ ⟨bc BK520 0, bc BK520 1, bc BK517 0, bc BK517 1, bc BK517 2, bc BK517 3, bc BK517 4, bc BK517 5, bc BK517 6, bc BK517 7, bc BK517 8, bc BK517 9, bc BK517 10, bc BK517 11⟩ (fun hHeld => ?_)
        clear hK K
        refine nm (some 41) ?_
        refine on 8 (some 43) #[true, true, true, true, true, true, true, true, true, false, false, false, false, false, false, false, false, false, false] HT_ (fun K hK => ?_)
        refine go1 Try.func53 #[.agg #[.int .i64 t505, .int .i64 t506, .int .i64 t507, .int .i64 t508, .int .i64 t509, .int .i64 t510, .int .i64 t511, .int .i64 t512, .int .i64 t513, .int .i64 t514, .int .i64 t515, .int .i64 t516]] ?_
        with_reducible refine (spec_BodyOk.calls kj4 t505 t506 t507 t508 t509 t510 t511 t512 t513 t514 t515 t516 t531 _ A49.out).mono ?_
        rintro e w62 ⟨rfl, hb⟩
        refine ⟨_, rfl, ?_⟩
        replace BK517 := kBB BK517 hb
        replace BK520 := kBB BK520 hb
        replace HB := bS HB hb
        clear hb
        refine hK.out _ _ ⟨bc BK520 0, bc BK520 1, bc BK517 0, bc BK517 1, bc BK517 2, bc BK517 3, bc BK517 4, bc BK517 5, bc BK517 6, bc BK517 7, bc BK517 8, bc BK517 9, bc BK517 10, bc BK517 11⟩ (fun hHeld => ?_)
        clear hK K
        refine nm (some 43) ?_
        refine pu 9 (some 44) #[true, true, true, true, true, true, true, true, true, true, false, false, false, false, false, false, false, false, false] HT_ ?_
        refine pu 10 (some 45) #[true, true, true, true, true, true, true, true, true, true, true, false, false, false, false, false, false, false, false] HT_ ?_
        refine pu 11 (some 46) #[true, true, true, true, true, true, true, true, true, true, true, true, false, false, false, false, false, false, false] HT_ ?_
        refine pv 12 (some 47) #[true, true, true, true, true, true, true, true, true, true, true, true, true, false, false, false, false, false, false] HT_ ?_
        refine pv 13 (some 48) #[true, true, true, true, true, true, true, true, true, true, true, true, true, true, false, false, false, false, false] HT_ ?_
        refine pv 14 (some 49) #[true, true, true, true, true, true, true, true, true, true, true, true, true, true, true, false, false, false, false] HT_ ?_
        refine pv 15 (some 50) #[true, true, true, true, true, true, true, true, true, true, true, true, true, true, true, true, false, false, false] HT_ ?_
        refine pv 16 (some 51) #[true, true, true, true, true, true, true, true, true, true, true, true, true, true, true, true, true, false, false] HT_ ?_
        refine pu 17 (some 52) #[true, true, true, true, true, true, true, true, true, true, true, true, true, true, true, true, true, true, false] HT_ ?_
        refine pu 18 (some 2) #[true, true, true, true, true, true, true, true, true, true, true, true, true, true, true, true, true, true, true] HT_ ?_
        refine done_ (done_of HT_.out (by kernel_rfl)) ?_
        try go_wp2
        go_ret
        exact ⟨qE, qL HB⟩
      rw [if_neg c47] at H
      have c47b0 : (t518 == t528 && (t519 == t529)) = false := by simpa using c47
      (try (have c47b1 : decide (t518 = t528 && (t519 == t529)) = false := by simpa using c47))
      (try (have c47b2 : (t518 == t528 && (t519 == t529)) = false := by simpa using c47))
      (try (have c47b3 : ¬ (t518 = t528 && (t519 == t529)) := by simpa using c47))
      clear c47
      obtain rfl := Option.some.inj H
      try go_wp2
      replace BK517 := Aside0.mk (blk_drew BK517.out)
      replace BK520 := Aside0.mk (blk_drew BK520.out)
      replace HB := Aside0.mk (below_drew1 HB.out)
      refine start_ (n := 19) (S := fun w' => w'.cell? ⟨gb520, 0, none⟩ = some (.int .i64 t518) ∧ w'.cell? ⟨gb520, 1, none⟩ = some (.int .i64 t519) ∧ w'.cell? ⟨gb517, 0, none⟩ = some (.int .i64 t505) ∧ w'.cell? ⟨gb517, 1, none⟩ = some (.int .i64 t506) ∧ w'.cell? ⟨gb517, 2, none⟩ = some (.int .i64 t507) ∧ w'.cell? ⟨gb517, 3, none⟩ = some (.int .i64 t508) ∧ w'.cell? ⟨gb517, 4, none⟩ = some (.int .i64 t509) ∧ w'.cell? ⟨gb517, 5, none⟩ = some (.int .i64 t510) ∧ w'.cell? ⟨gb517, 6, none⟩ = some (.int .i64 t511) ∧ w'.cell? ⟨gb517, 7, none⟩ = some (.int .i64 t512) ∧ w'.cell? ⟨gb517, 8, none⟩ = some (.int .i64 t513) ∧ w'.cell? ⟨gb517, 9, none⟩ = some (.int .i64 t514) ∧ w'.cell? ⟨gb517, 10, none⟩ = some (.int .i64 t515) ∧ w'.cell? ⟨gb517, 11, none⟩ = some (.int .i64 t516)) (ds := []) #[false, false, false, false, false, false, false, false, false, false, false, false, false, false, false, false, false, false, false] (by kernel_rfl) rfl rfl ⟨bc BK520 0, bc BK520 1, bc BK517 0, bc BK517 1, bc BK517 2, bc BK517 3, bc BK517 4, bc BK517 5, bc BK517 6, bc BK517 7, bc BK517 8, bc BK517 9, bc BK517 10, bc BK517 11⟩ (fun hHeld => ?_); refine with_tabW laws_FnBodySpeed.tab6 laws_FnBodySpeed.bits6 (fun HT_ HW_ => ?_)
      generalize wc.drew = w63 at BK517 BK520 HB hHeld ⊢
      refine tk14 0 (some 35) #[true, false, false, false, false, false, false, false, false, false, false, false, false, false, false, false, false, false, false] HT_ HW_ hHeld ?_
      refine tk14 1 (some 36) #[true, true, false, false, false, false, false, false, false, false, false, false, false, false, false, false, false, false, false] HT_ HW_ hHeld ?_
      refine on 2 (some 37) #[true, true, true, false, false, false, false, false, false, false, false, false, false, false, false, false, false, false, false] HT_ (fun K hK => ?_)
      refine go1 Try.func21 #[.agg #[.int .i64 t505, .int .i64 t506, .int .i64 t507, .int .i64 t508, .int .i64 t509, .int .i64 t510, .int .i64 t511, .int .i64 t512, .int .i64 t513, .int .i64 t514, .int .i64 t515, .int .i64 t516]] ?_
      with_reducible refine (spec_BodySpeed.calls kj4 t505 t506 t507 t508 t509 t510 t511 t512 t513 t514 t515 t516 t528 t529 _ A46.out).mono ?_
      rintro e w64 ⟨rfl, hb⟩
      refine ⟨_, rfl, ?_⟩
      replace BK517 := kBB BK517 hb
      replace BK520 := kBB BK520 hb
      replace HB := bS HB hb
      clear hb
      refine hK.out _ _ ⟨bc BK520 0, bc BK520 1, bc BK517 0, bc BK517 1, bc BK517 2, bc BK517 3, bc BK517 4, bc BK517 5, bc BK517 6, bc BK517 7, bc BK517 8, bc BK517 9, bc BK517 10, bc BK517 11⟩ (fun hHeld => ?_)
      clear hK K
      refine nm (some 37) ?_
      refine pu 3 (some 38) #[true, true, true, true, false, false, false, false, false, false, false, false, false, false, false, false, false, false, false] HT_ ?_
      refine pu 4 (some 39) #[true, true, true, true, true, false, false, false, false, false, false, false, false, false, false, false, false, false, false] HT_ ?_
      refine pv 5 (some 40) #[true, true, true, true, true, true, false, false, false, false, false, false, false, false, false, false, false, false, false] HT_ ?_
      refine pv 6 (some 41) #[true, true, true, true, true, true, true, false, false, false, false, false, false, false, false, false, false, false, false] HT_ ?_
      refine pv 7 (some 42) #[true, true, true, true, true, true, true, true, false, false, false, false, false, false, false, false, false, false, false] HT_ ?_
      refine pv 8 (some 43) #[true, true, true, true, true, true, true, true, true, false, false, false, false, false, false, false, false, false, false] HT_ ?_
      refine pv 9 (some 44) #[true, true, true, true, true, true, true, true, true, true, false, false, false, false, false, false, false, false, false] HT_ ?_
      refine pu 10 (some 45) #[true, true, true, true, true, true, true, true, true, true, true, false, false, false, false, false, false, false, false] HT_ ?_
      refine pu 11 (some 46) #[true, true, true, true, true, true, true, true, true, true, true, true, false, false, false, false, false, false, false] HT_ ?_
      refine pv 12 (some 47) #[true, true, true, true, true, true, true, true, true, true, true, true, true, false, false, false, false, false, false] HT_ ?_
      refine pv 13 (some 48) #[true, true, true, true, true, true, true, true, true, true, true, true, true, true, false, false, false, false, false] HT_ ?_
      refine pv 14 (some 49) #[true, true, true, true, true, true, true, true, true, true, true, true, true, true, true, false, false, false, false] HT_ ?_
      refine pv 15 (some 50) #[true, true, true, true, true, true, true, true, true, true, true, true, true, true, true, true, false, false, false] HT_ ?_
      refine pv 16 (some 51) #[true, true, true, true, true, true, true, true, true, true, true, true, true, true, true, true, true, false, false] HT_ ?_
      refine pu 17 (some 52) #[true, true, true, true, true, true, true, true, true, true, true, true, true, true, true, true, true, true, false] HT_ ?_
      refine pu 18 (some 2) #[true, true, true, true, true, true, true, true, true, true, true, true, true, true, true, true, true, true, true] HT_ ?_
      refine done_ (done_of HT_.out (by kernel_rfl)) ?_
      try go_wp2
      go_ret
      exact ⟨qE, qL HB⟩
    replace c45 := Bool.eq_false_iff.mpr c45
    subst c45
    have H1 : (if t513 = 0 then (laws_FnBodySpeed.j1 kj4 true t505 t506 t507 t508 t509 t510 t511 t512 t513 t514 t515 t516 t518 t519) else ((impl_BodySleeps.f kj4 t505 t506 t507 t508 t509 t510 t511 t512 t513 t514 t515 t516).bind fun t534 => (laws_FnBodySpeed.j1 kj4 t534 t505 t506 t507 t508 t509 t510 t511 t512 t513 t514 t515 t516 t518 t519))) = some r := by rw [if_neg (show ¬ (false = true) by decide)] at H; exact H
    clear H
    have H := H1
    clear H1
    have HC65 := Aside0.mk H
    clear H
    go_upto_region 7 with (fail)
    go_cut [59] (fun v59 wc => ∃ (kq : Nat) (x59_64 : Bool), v59 = .bool x59_64 ∧ Aside0 (laws_FnBodySpeed.j1 kq x59_64 t505 t506 t507 t508 t509 t510 t511 t512 t513 t514 t515 t516 t518 t519 = some r) ∧ Aside0 (kq ≤ kj4) ∧ Aside0 (wc.heap[gb517]? = some (.cells #[.int .i64 t505, .int .i64 t506, .int .i64 t507, .int .i64 t508, .int .i64 t509, .int .i64 t510, .int .i64 t511, .int .i64 t512, .int .i64 t513, .int .i64 t514, .int .i64 t515, .int .i64 t516] 41 (0, 0))) ∧ Aside0 (wc.heap[gb520]? = some (.cells #[.int .i64 t518, .int .i64 t519] 24 (0, 0))) ∧ Aside0 (Below w.heap.size w wc))
    case first =>
      have H := HC65.out
      clear HC65
      by_cases c66 : t513 = 0
      · rw [if_pos c66] at H
        have c66b0 : (t513 == 0) = true := beq_iff_eq.mpr c66
        have c66b1 : (t513 != 0) = false := bne_eq_false_iff_eq.mpr c66
        clear c66
        (first | rw [c66b0] | (simp only [i64_w, i32_w]; rw [c66b0]) | skip)
        have H' := Aside0.mk H
        clear H
        have hnb67 := NB517_520.out
        have hnc67 := NB520_517.out
        obtain ⟨hcz68_0, hcz68_1, hcz68_2, hcz68_3, hcz68_4, hcz68_5, hcz68_6, hcz68_7, hcz68_8, hcz68_9, hcz68_10, hcz68_11⟩ := cz12 BK517.out
        obtain ⟨hfz68_0, hfz68_1, hfz68_2, hfz68_3, hfz68_4, hfz68_5, hfz68_6, hfz68_7, hfz68_8, hfz68_9, hfz68_10, hfz68_11⟩ := fz12 BK517.out
        go_wp2
        go_meet
        case rel => exact ⟨_, (true), (by first | rfl | (simp; done) | (simp [*]; done)), H', ⟨by have := HJ4.out; first | omega | exact Nat.le_refl _⟩, ⟨qF BK517⟩, ⟨qF BK520⟩, ⟨qL HB⟩⟩
      rw [if_neg c66] at H
      have c66b0 : (t513 == 0) = false := beq_eq_false_iff_ne.mpr c66
      have c66b1 : (t513 != 0) = true := bne_iff_ne.mpr c66
      (first | rw [c66b0] | (simp only [i64_w, i32_w]; rw [c66b0]) | skip)
      replace H := qH H
      obtain ⟨t534, A69, H⟩ := H
      try dsimp only at H
      have H' := Aside0.mk H
      clear H
      have hnb70 := NB517_520.out
      have hnc70 := NB520_517.out
      obtain ⟨hcz71_0, hcz71_1, hcz71_2, hcz71_3, hcz71_4, hcz71_5, hcz71_6, hcz71_7, hcz71_8, hcz71_9, hcz71_10, hcz71_11⟩ := cz12 BK517.out
      obtain ⟨hfz71_0, hfz71_1, hfz71_2, hfz71_3, hfz71_4, hfz71_5, hfz71_6, hfz71_7, hfz71_8, hfz71_9, hfz71_10, hfz71_11⟩ := fz12 BK517.out
      go_wp2_with (first | (go_at_call 54; (with_reducible refine (impl_BodySleeps.calls kj4 t505 t506 t507 t508 t509 t510 t511 t512 t513 t514 t515 t516 t534 _ A69.out).mono ?_); rintro e w72 ⟨rfl, hb⟩; replace BK517 := kBB BK517 hb; replace BK520 := kBB BK520 hb; replace HB := bS HB hb; clear hb))
      go_meet
      case rel => exact ⟨_, (t534), (by first | rfl | (simp; done) | (simp [*]; done)), H', ⟨by have := HJ4.out; first | omega | exact Nat.le_refl _⟩, ⟨qF BK517⟩, ⟨qF BK520⟩, ⟨qL HB⟩⟩
    case rest =>
      clear HC65
      (try clear c2); (try clear p2); (try clear c4); (try clear c5); (try clear c6); (try clear c7); (try clear c21); (try clear c45); (try clear c47); (try clear c47b0); (try clear c47b1); (try clear c47b2); (try clear c50); (try clear c50b0); (try clear c50b1); (try clear c50b2); (try clear c52); (try clear c53); (try clear c54); (try clear c55); (try clear c66); (try clear c66b0); (try clear c66b1); (try clear c67); (try clear c70); (try clear hcz68_0); (try clear hcz68_1); (try clear hcz68_10); (try clear hcz68_11); (try clear hcz68_2); (try clear hcz68_3); (try clear hcz68_4); (try clear hcz68_5); (try clear hcz68_6); (try clear hcz68_7); (try clear hcz68_8); (try clear hcz68_9); (try clear hcz71_0); (try clear hcz71_1); (try clear hcz71_10); (try clear hcz71_11); (try clear hcz71_2); (try clear hcz71_3); (try clear hcz71_4); (try clear hcz71_5); (try clear hcz71_6); (try clear hcz71_7); (try clear hcz71_8); (try clear hcz71_9); (try clear hfz68_0); (try clear hfz68_1); (try clear hfz68_10); (try clear hfz68_11); (try clear hfz68_2); (try clear hfz68_3); (try clear hfz68_4); (try clear hfz68_5); (try clear hfz68_6); (try clear hfz68_7); (try clear hfz68_8); (try clear hfz68_9); (try clear hfz71_0); (try clear hfz71_1); (try clear hfz71_10); (try clear hfz71_11); (try clear hfz71_2); (try clear hfz71_3); (try clear hfz71_4); (try clear hfz71_5); (try clear hfz71_6); (try clear hfz71_7); (try clear hfz71_8); (try clear hfz71_9)
      obtain ⟨kq, x59_64, rfl, HA, HJ64, BK517, BK520, HB⟩ := hcut
      cases kq with
      | zero => exact absurd HA.out (by simp [laws_FnBodySpeed.j1])
      | succ kj64 => ?_
      have H := HA.out
      clear HA
      simp only [laws_FnBodySpeed.j1] at H
      by_cases c73 : x59_64 = true
      · subst c73
        have H1 : (some (t518 == 0 && (t519 == 0))) = some r := by rw [if_pos rfl] at H; exact H
        clear H
        have H := H1
        clear H1
        obtain rfl := Option.some.inj H
        have hnb74 := NB520_517.out
        have hnc74 := NB517_520.out
        obtain ⟨hcz75_0, hcz75_1⟩ := cz2 BK520.out
        have hfz75_0 := blk_frozen BK520.out 0
        have hfz75_1 := blk_frozen BK520.out 1
        go_wp2
        go_ret
        exact ⟨qE, qL HB⟩
      replace c73 := Bool.eq_false_iff.mpr c73
      subst c73
      have H1 : ((laws_pqAbs.f (wrap64 (t511 - (wrap64 (t518 * t513))))).bind fun t535 => (if t535 < t513 then ((laws_pqAbs.f (wrap64 (t512 - (wrap64 (t519 * t513))))).bind fun t536 => (if t536 < t513 then ((laws_pqAbs.f (wrap64 (t518 * t513))).bind fun t537 => ((laws_pqAbs.f t511).bind fun t538 => (some (decide (t537 ≤ t538))))) else (some false))) else (some false))) = some r := by rw [if_neg (show ¬ (false = true) by decide)] at H; exact H
      clear H
      have H := H1
      clear H1
      replace H := qH H
      obtain ⟨t535, A76, H⟩ := H
      try dsimp only at H
      by_cases c77 : t535 < t513
      · rw [if_pos c77] at H
        have c77b0 : decide (t535 < t513) = true := decide_eq_true c77
        clear c77
        replace H := qH H
        obtain ⟨t536, A78, H⟩ := H
        try dsimp only at H
        by_cases c79 : t536 < t513
        · rw [if_pos c79] at H
          have c79b0 : decide (t536 < t513) = true := decide_eq_true c79
          clear c79
          replace H := qH H
          obtain ⟨t537, A80, H⟩ := H
          try dsimp only at H
          replace H := qH H
          obtain ⟨t538, A81, H⟩ := H
          try dsimp only at H
          obtain rfl := Option.some.inj H
          try go_wp2
          replace BK517 := Aside0.mk (blk_drew BK517.out)
          replace BK520 := Aside0.mk (blk_drew BK520.out)
          replace HB := Aside0.mk (below_drew1 HB.out)
          refine start_ (n := 42) (S := fun w' => w'.cell? ⟨gb517, 0, none⟩ = some (.int .i64 t505) ∧ w'.cell? ⟨gb517, 1, none⟩ = some (.int .i64 t506) ∧ w'.cell? ⟨gb517, 2, none⟩ = some (.int .i64 t507) ∧ w'.cell? ⟨gb517, 3, none⟩ = some (.int .i64 t508) ∧ w'.cell? ⟨gb517, 4, none⟩ = some (.int .i64 t509) ∧ w'.cell? ⟨gb517, 5, none⟩ = some (.int .i64 t510) ∧ w'.cell? ⟨gb517, 6, none⟩ = some (.int .i64 t511) ∧ w'.cell? ⟨gb517, 7, none⟩ = some (.int .i64 t512) ∧ w'.cell? ⟨gb517, 8, none⟩ = some (.int .i64 t513) ∧ w'.cell? ⟨gb517, 9, none⟩ = some (.int .i64 t514) ∧ w'.cell? ⟨gb517, 10, none⟩ = some (.int .i64 t515) ∧ w'.cell? ⟨gb517, 11, none⟩ = some (.int .i64 t516) ∧ w'.cell? ⟨gb520, 0, none⟩ = some (.int .i64 t518) ∧ w'.cell? ⟨gb520, 1, none⟩ = some (.int .i64 t519)) (ds := []) #[false, false, false, false, false, false, false, false, false, false, false, false, false, false, false, false, false, false, false, false, false, false, false, false, false, false, false, false, false, false, false, false, false, false, false, false, false, false, false, false, false, false] (by kernel_rfl) rfl rfl ⟨bc BK517 0, bc BK517 1, bc BK517 2, bc BK517 3, bc BK517 4, bc BK517 5, bc BK517 6, bc BK517 7, bc BK517 8, bc BK517 9, bc BK517 10, bc BK517 11, bc BK520 0, bc BK520 1⟩ (fun hHeld => ?_); refine with_tabW laws_FnBodySpeed.tab9 laws_FnBodySpeed.bits9 (fun HT_ HW_ => ?_)
          generalize wc.drew = w82 at BK517 BK520 HB hHeld ⊢
          refine pu 0 (some 63) #[true, false, false, false, false, false, false, false, false, false, false, false, false, false, false, false, false, false, false, false, false, false, false, false, false, false, false, false, false, false, false, false, false, false, false, false, false, false, false, false, false, false] HT_ ?_
          refine pu 1 (some 64) #[true, true, false, false, false, false, false, false, false, false, false, false, false, false, false, false, false, false, false, false, false, false, false, false, false, false, false, false, false, false, false, false, false, false, false, false, false, false, false, false, false, false] HT_ ?_
          refine pu 3 (some 66) #[true, true, false, true, false, false, false, false, false, false, false, false, false, false, false, false, false, false, false, false, false, false, false, false, false, false, false, false, false, false, false, false, false, false, false, false, false, false, false, false, false, false] HT_ ?_
          refine pu 5 (some 68) #[true, true, false, true, false, true, false, false, false, false, false, false, false, false, false, false, false, false, false, false, false, false, false, false, false, false, false, false, false, false, false, false, false, false, false, false, false, false, false, false, false, false] HT_ ?_
          refine pu 10 (some 73) #[true, true, false, true, false, true, false, false, false, false, true, false, false, false, false, false, false, false, false, false, false, false, false, false, false, false, false, false, false, false, false, false, false, false, false, false, false, false, false, false, false, false] HT_ ?_
          refine tk14 2 (some 65) #[true, true, true, true, false, true, false, false, false, false, true, false, false, false, false, false, false, false, false, false, false, false, false, false, false, false, false, false, false, false, false, false, false, false, false, false, false, false, false, false, false, false] HT_ HW_ hHeld ?_
          refine tk14 4 (some 67) #[true, true, true, true, true, true, false, false, false, false, true, false, false, false, false, false, false, false, false, false, false, false, false, false, false, false, false, false, false, false, false, false, false, false, false, false, false, false, false, false, false, false] HT_ HW_ hHeld ?_
          refine tk14 6 (some 69) #[true, true, true, true, true, true, true, false, false, false, true, false, false, false, false, false, false, false, false, false, false, false, false, false, false, false, false, false, false, false, false, false, false, false, false, false, false, false, false, false, false, false] HT_ HW_ hHeld ?_
          refine pu 7 (some 70) #[true, true, true, true, true, true, true, true, false, false, true, false, false, false, false, false, false, false, false, false, false, false, false, false, false, false, false, false, false, false, false, false, false, false, false, false, false, false, false, false, false, false] HT_ ?_
          refine pu 8 (some 71) #[true, true, true, true, true, true, true, true, true, false, true, false, false, false, false, false, false, false, false, false, false, false, false, false, false, false, false, false, false, false, false, false, false, false, false, false, false, false, false, false, false, false] HT_ ?_
          refine tk14 11 (some 74) #[true, true, true, true, true, true, true, true, true, false, true, true, false, false, false, false, false, false, false, false, false, false, false, false, false, false, false, false, false, false, false, false, false, false, false, false, false, false, false, false, false, false] HT_ HW_ hHeld ?_
          refine on 9 (some 72) #[true, true, true, true, true, true, true, true, true, true, true, true, false, false, false, false, false, false, false, false, false, false, false, false, false, false, false, false, false, false, false, false, false, false, false, false, false, false, false, false, false, false] HT_ (fun K hK => ?_)
          refine go1 Try.func29 #[.int .i64 (wrap64 (t511 - (wrap64 (t518 * t513))))] ?_
          with_reducible refine (laws_pqAbs.calls (wrap64 (t511 - (wrap64 (t518 * t513)))) t535 _ A76.out).mono ?_
          rintro e w' ⟨rfl, ⟨nd, rfl⟩⟩
          refine ⟨_, rfl, ?_⟩
          refine hK.out _ _ ⟨bc BK517 0, bc BK517 1, bc BK517 2, bc BK517 3, bc BK517 4, bc BK517 5, bc BK517 6, bc BK517 7, bc BK517 8, bc BK517 9, bc BK517 10, bc BK517 11, bc BK520 0, bc BK520 1⟩ (fun hHeld => ?_)
          clear hK K
          refine nm (some 72) ?_
          refine pu 12 (some 75) #[true, true, true, true, true, true, true, true, true, true, true, true, true, false, false, false, false, false, false, false, false, false, false, false, false, false, false, false, false, false, false, false, false, false, false, false, false, false, false, false, false, false] HT_ ?_
          refine pu 13 (some 76) #[true, true, true, true, true, true, true, true, true, true, true, true, true, true, false, false, false, false, false, false, false, false, false, false, false, false, false, false, false, false, false, false, false, false, false, false, false, false, false, false, false, false] HT_ ?_
          refine pu 14 (some 77) #[true, true, true, true, true, true, true, true, true, true, true, true, true, true, true, false, false, false, false, false, false, false, false, false, false, false, false, false, false, false, false, false, false, false, false, false, false, false, false, false, false, false] HT_ ?_
          refine pu 15 (some 78) #[true, true, true, true, true, true, true, true, true, true, true, true, true, true, true, true, false, false, false, false, false, false, false, false, false, false, false, false, false, false, false, false, false, false, false, false, false, false, false, false, false, false] HT_ ?_
          refine pu 17 (some 80) #[true, true, true, true, true, true, true, true, true, true, true, true, true, true, true, true, false, true, false, false, false, false, false, false, false, false, false, false, false, false, false, false, false, false, false, false, false, false, false, false, false, false] HT_ ?_
          refine pu 19 (some 82) #[true, true, true, true, true, true, true, true, true, true, true, true, true, true, true, true, false, true, false, true, false, false, false, false, false, false, false, false, false, false, false, false, false, false, false, false, false, false, false, false, false, false] HT_ ?_
          refine pu 24 (some 87) #[true, true, true, true, true, true, true, true, true, true, true, true, true, true, true, true, false, true, false, true, false, false, false, false, true, false, false, false, false, false, false, false, false, false, false, false, false, false, false, false, false, false] HT_ ?_
          refine tk14 16 (some 79) #[true, true, true, true, true, true, true, true, true, true, true, true, true, true, true, true, true, true, false, true, false, false, false, false, true, false, false, false, false, false, false, false, false, false, false, false, false, false, false, false, false, false] HT_ HW_ hHeld ?_
          refine tk14 18 (some 81) #[true, true, true, true, true, true, true, true, true, true, true, true, true, true, true, true, true, true, true, true, false, false, false, false, true, false, false, false, false, false, false, false, false, false, false, false, false, false, false, false, false, false] HT_ HW_ hHeld ?_
          refine tk14 20 (some 83) #[true, true, true, true, true, true, true, true, true, true, true, true, true, true, true, true, true, true, true, true, true, false, false, false, true, false, false, false, false, false, false, false, false, false, false, false, false, false, false, false, false, false] HT_ HW_ hHeld ?_
          refine pu 21 (some 84) #[true, true, true, true, true, true, true, true, true, true, true, true, true, true, true, true, true, true, true, true, true, true, false, false, true, false, false, false, false, false, false, false, false, false, false, false, false, false, false, false, false, false] HT_ ?_
          refine pu 22 (some 85) #[true, true, true, true, true, true, true, true, true, true, true, true, true, true, true, true, true, true, true, true, true, true, true, false, true, false, false, false, false, false, false, false, false, false, false, false, false, false, false, false, false, false] HT_ ?_
          refine tk14 25 (some 88) #[true, true, true, true, true, true, true, true, true, true, true, true, true, true, true, true, true, true, true, true, true, true, true, false, true, true, false, false, false, false, false, false, false, false, false, false, false, false, false, false, false, false] HT_ HW_ hHeld ?_
          refine on 23 (some 86) #[true, true, true, true, true, true, true, true, true, true, true, true, true, true, true, true, true, true, true, true, true, true, true, true, true, true, false, false, false, false, false, false, false, false, false, false, false, false, false, false, false, false] HT_ (fun K hK => ?_)
          refine go1 Try.func29 #[.int .i64 (wrap64 (t512 - (wrap64 (t519 * t513))))] ?_
          with_reducible refine (laws_pqAbs.calls (wrap64 (t512 - (wrap64 (t519 * t513)))) t536 _ A78.out).mono ?_
          rintro e w' ⟨rfl, ⟨nd, rfl⟩⟩
          refine ⟨_, rfl, ?_⟩
          refine hK.out _ _ ⟨bc BK517 0, bc BK517 1, bc BK517 2, bc BK517 3, bc BK517 4, bc BK517 5, bc BK517 6, bc BK517 7, bc BK517 8, bc BK517 9, bc BK517 10, bc BK517 11, bc BK520 0, bc BK520 1⟩ (fun hHeld => ?_)
          clear hK K
          refine nm (some 86) ?_
          refine pu 26 (some 89) #[true, true, true, true, true, true, true, true, true, true, true, true, true, true, true, true, true, true, true, true, true, true, true, true, true, true, true, false, false, false, false, false, false, false, false, false, false, false, false, false, false, false] HT_ ?_
          refine pu 27 (some 90) #[true, true, true, true, true, true, true, true, true, true, true, true, true, true, true, true, true, true, true, true, true, true, true, true, true, true, true, true, false, false, false, false, false, false, false, false, false, false, false, false, false, false] HT_ ?_
          refine pu 28 (some 91) #[true, true, true, true, true, true, true, true, true, true, true, true, true, true, true, true, true, true, true, true, true, true, true, true, true, true, true, true, true, false, false, false, false, false, false, false, false, false, false, false, false, false] HT_ ?_
          refine pu 29 (some 92) #[true, true, true, true, true, true, true, true, true, true, true, true, true, true, true, true, true, true, true, true, true, true, true, true, true, true, true, true, true, true, false, false, false, false, false, false, false, false, false, false, false, false] HT_ ?_
          refine pu 31 (some 94) #[true, true, true, true, true, true, true, true, true, true, true, true, true, true, true, true, true, true, true, true, true, true, true, true, true, true, true, true, true, true, false, true, false, false, false, false, false, false, false, false, false, false] HT_ ?_
          refine pu 35 (some 98) #[true, true, true, true, true, true, true, true, true, true, true, true, true, true, true, true, true, true, true, true, true, true, true, true, true, true, true, true, true, true, false, true, false, false, false, true, false, false, false, false, false, false] HT_ ?_
          refine pu 36 (some 99) #[true, true, true, true, true, true, true, true, true, true, true, true, true, true, true, true, true, true, true, true, true, true, true, true, true, true, true, true, true, true, false, true, false, false, false, true, true, false, false, false, false, false] HT_ ?_
          refine tk14 30 (some 93) #[true, true, true, true, true, true, true, true, true, true, true, true, true, true, true, true, true, true, true, true, true, true, true, true, true, true, true, true, true, true, true, true, false, false, false, true, true, false, false, false, false, false] HT_ HW_ hHeld ?_
          refine tk14 32 (some 95) #[true, true, true, true, true, true, true, true, true, true, true, true, true, true, true, true, true, true, true, true, true, true, true, true, true, true, true, true, true, true, true, true, true, false, false, true, true, false, false, false, false, false] HT_ HW_ hHeld ?_
          refine pu 33 (some 96) #[true, true, true, true, true, true, true, true, true, true, true, true, true, true, true, true, true, true, true, true, true, true, true, true, true, true, true, true, true, true, true, true, true, true, false, true, true, false, false, false, false, false] HT_ ?_
          refine tk14 37 (some 100) #[true, true, true, true, true, true, true, true, true, true, true, true, true, true, true, true, true, true, true, true, true, true, true, true, true, true, true, true, true, true, true, true, true, true, false, true, true, true, false, false, false, false] HT_ HW_ hHeld ?_
          refine on 34 (some 97) #[true, true, true, true, true, true, true, true, true, true, true, true, true, true, true, true, true, true, true, true, true, true, true, true, true, true, true, true, true, true, true, true, true, true, true, true, true, true, false, false, false, false] HT_ (fun K hK => ?_)
          refine go1 Try.func29 #[.int .i64 (wrap64 (t518 * t513))] ?_
          with_reducible refine (laws_pqAbs.calls (wrap64 (t518 * t513)) t537 _ A80.out).mono ?_
          rintro e w' ⟨rfl, ⟨nd, rfl⟩⟩
          refine ⟨_, rfl, ?_⟩
          refine hK.out _ _ ⟨bc BK517 0, bc BK517 1, bc BK517 2, bc BK517 3, bc BK517 4, bc BK517 5, bc BK517 6, bc BK517 7, bc BK517 8, bc BK517 9, bc BK517 10, bc BK517 11, bc BK520 0, bc BK520 1⟩ (fun hHeld => ?_)
          clear hK K
          refine nm (some 97) ?_
          refine on 38 (some 101) #[true, true, true, true, true, true, true, true, true, true, true, true, true, true, true, true, true, true, true, true, true, true, true, true, true, true, true, true, true, true, true, true, true, true, true, true, true, true, true, false, false, false] HT_ (fun K hK => ?_)
          refine go1 Try.func29 #[.int .i64 t511] ?_
          with_reducible refine (laws_pqAbs.calls t511 t538 _ A81.out).mono ?_
          rintro e w' ⟨rfl, ⟨nd, rfl⟩⟩
          refine ⟨_, rfl, ?_⟩
          refine hK.out _ _ ⟨bc BK517 0, bc BK517 1, bc BK517 2, bc BK517 3, bc BK517 4, bc BK517 5, bc BK517 6, bc BK517 7, bc BK517 8, bc BK517 9, bc BK517 10, bc BK517 11, bc BK520 0, bc BK520 1⟩ (fun hHeld => ?_)
          clear hK K
          refine nm (some 101) ?_
          refine pu 39 (some 102) #[true, true, true, true, true, true, true, true, true, true, true, true, true, true, true, true, true, true, true, true, true, true, true, true, true, true, true, true, true, true, true, true, true, true, true, true, true, true, true, true, false, false] HT_ ?_
          refine pu 40 (some 103) #[true, true, true, true, true, true, true, true, true, true, true, true, true, true, true, true, true, true, true, true, true, true, true, true, true, true, true, true, true, true, true, true, true, true, true, true, true, true, true, true, true, false] HT_ ?_
          refine pu 41 (some 2) #[true, true, true, true, true, true, true, true, true, true, true, true, true, true, true, true, true, true, true, true, true, true, true, true, true, true, true, true, true, true, true, true, true, true, true, true, true, true, true, true, true, true] HT_ ?_
          refine done_ (done_of HT_.out (by kernel_rfl)) ?_
          try go_wp2
          go_ret
          exact ⟨qE, qL HB⟩
        rw [if_neg c79] at H
        have c79b0 : decide (t536 < t513) = false := decide_eq_false c79
        clear c79
        obtain rfl := Option.some.inj H
        try go_wp2
        replace BK517 := Aside0.mk (blk_drew BK517.out)
        replace BK520 := Aside0.mk (blk_drew BK520.out)
        replace HB := Aside0.mk (below_drew1 HB.out)
        refine start_ (n := 42) (S := fun w' => w'.cell? ⟨gb517, 0, none⟩ = some (.int .i64 t505) ∧ w'.cell? ⟨gb517, 1, none⟩ = some (.int .i64 t506) ∧ w'.cell? ⟨gb517, 2, none⟩ = some (.int .i64 t507) ∧ w'.cell? ⟨gb517, 3, none⟩ = some (.int .i64 t508) ∧ w'.cell? ⟨gb517, 4, none⟩ = some (.int .i64 t509) ∧ w'.cell? ⟨gb517, 5, none⟩ = some (.int .i64 t510) ∧ w'.cell? ⟨gb517, 6, none⟩ = some (.int .i64 t511) ∧ w'.cell? ⟨gb517, 7, none⟩ = some (.int .i64 t512) ∧ w'.cell? ⟨gb517, 8, none⟩ = some (.int .i64 t513) ∧ w'.cell? ⟨gb517, 9, none⟩ = some (.int .i64 t514) ∧ w'.cell? ⟨gb517, 10, none⟩ = some (.int .i64 t515) ∧ w'.cell? ⟨gb517, 11, none⟩ = some (.int .i64 t516) ∧ w'.cell? ⟨gb520, 0, none⟩ = some (.int .i64 t518) ∧ w'.cell? ⟨gb520, 1, none⟩ = some (.int .i64 t519)) (ds := []) #[false, false, false, false, false, false, false, false, false, false, false, false, false, false, false, false, false, false, false, false, false, false, false, false, false, false, false, false, false, false, false, false, false, false, false, false, false, false, false, false, false, false] (by kernel_rfl) rfl rfl ⟨bc BK517 0, bc BK517 1, bc BK517 2, bc BK517 3, bc BK517 4, bc BK517 5, bc BK517 6, bc BK517 7, bc BK517 8, bc BK517 9, bc BK517 10, bc BK517 11, bc BK520 0, bc BK520 1⟩ (fun hHeld => ?_); refine with_tabW laws_FnBodySpeed.tab9 laws_FnBodySpeed.bits9 (fun HT_ HW_ => ?_)
        generalize wc.drew = w83 at BK517 BK520 HB hHeld ⊢
        refine pu 0 (some 63) #[true, false, false, false, false, false, false, false, false, false, false, false, false, false, false, false, false, false, false, false, false, false, false, false, false, false, false, false, false, false, false, false, false, false, false, false, false, false, false, false, false, false] HT_ ?_
        refine pu 1 (some 64) #[true, true, false, false, false, false, false, false, false, false, false, false, false, false, false, false, false, false, false, false, false, false, false, false, false, false, false, false, false, false, false, false, false, false, false, false, false, false, false, false, false, false] HT_ ?_
        refine pu 3 (some 66) #[true, true, false, true, false, false, false, false, false, false, false, false, false, false, false, false, false, false, false, false, false, false, false, false, false, false, false, false, false, false, false, false, false, false, false, false, false, false, false, false, false, false] HT_ ?_
        refine pu 5 (some 68) #[true, true, false, true, false, true, false, false, false, false, false, false, false, false, false, false, false, false, false, false, false, false, false, false, false, false, false, false, false, false, false, false, false, false, false, false, false, false, false, false, false, false] HT_ ?_
        refine pu 10 (some 73) #[true, true, false, true, false, true, false, false, false, false, true, false, false, false, false, false, false, false, false, false, false, false, false, false, false, false, false, false, false, false, false, false, false, false, false, false, false, false, false, false, false, false] HT_ ?_
        refine tk14 2 (some 65) #[true, true, true, true, false, true, false, false, false, false, true, false, false, false, false, false, false, false, false, false, false, false, false, false, false, false, false, false, false, false, false, false, false, false, false, false, false, false, false, false, false, false] HT_ HW_ hHeld ?_
        refine tk14 4 (some 67) #[true, true, true, true, true, true, false, false, false, false, true, false, false, false, false, false, false, false, false, false, false, false, false, false, false, false, false, false, false, false, false, false, false, false, false, false, false, false, false, false, false, false] HT_ HW_ hHeld ?_
        refine tk14 6 (some 69) #[true, true, true, true, true, true, true, false, false, false, true, false, false, false, false, false, false, false, false, false, false, false, false, false, false, false, false, false, false, false, false, false, false, false, false, false, false, false, false, false, false, false] HT_ HW_ hHeld ?_
        refine pu 7 (some 70) #[true, true, true, true, true, true, true, true, false, false, true, false, false, false, false, false, false, false, false, false, false, false, false, false, false, false, false, false, false, false, false, false, false, false, false, false, false, false, false, false, false, false] HT_ ?_
        refine pu 8 (some 71) #[true, true, true, true, true, true, true, true, true, false, true, false, false, false, false, false, false, false, false, false, false, false, false, false, false, false, false, false, false, false, false, false, false, false, false, false, false, false, false, false, false, false] HT_ ?_
        refine tk14 11 (some 74) #[true, true, true, true, true, true, true, true, true, false, true, true, false, false, false, false, false, false, false, false, false, false, false, false, false, false, false, false, false, false, false, false, false, false, false, false, false, false, false, false, false, false] HT_ HW_ hHeld ?_
        refine on 9 (some 72) #[true, true, true, true, true, true, true, true, true, true, true, true, false, false, false, false, false, false, false, false, false, false, false, false, false, false, false, false, false, false, false, false, false, false, false, false, false, false, false, false, false, false] HT_ (fun K hK => ?_)
        refine go1 Try.func29 #[.int .i64 (wrap64 (t511 - (wrap64 (t518 * t513))))] ?_
        with_reducible refine (laws_pqAbs.calls (wrap64 (t511 - (wrap64 (t518 * t513)))) t535 _ A76.out).mono ?_
        rintro e w' ⟨rfl, ⟨nd, rfl⟩⟩
        refine ⟨_, rfl, ?_⟩
        refine hK.out _ _ ⟨bc BK517 0, bc BK517 1, bc BK517 2, bc BK517 3, bc BK517 4, bc BK517 5, bc BK517 6, bc BK517 7, bc BK517 8, bc BK517 9, bc BK517 10, bc BK517 11, bc BK520 0, bc BK520 1⟩ (fun hHeld => ?_)
        clear hK K
        refine nm (some 72) ?_
        refine pu 12 (some 75) #[true, true, true, true, true, true, true, true, true, true, true, true, true, false, false, false, false, false, false, false, false, false, false, false, false, false, false, false, false, false, false, false, false, false, false, false, false, false, false, false, false, false] HT_ ?_
        refine pu 13 (some 76) #[true, true, true, true, true, true, true, true, true, true, true, true, true, true, false, false, false, false, false, false, false, false, false, false, false, false, false, false, false, false, false, false, false, false, false, false, false, false, false, false, false, false] HT_ ?_
        refine pu 14 (some 77) #[true, true, true, true, true, true, true, true, true, true, true, true, true, true, true, false, false, false, false, false, false, false, false, false, false, false, false, false, false, false, false, false, false, false, false, false, false, false, false, false, false, false] HT_ ?_
        refine pu 15 (some 78) #[true, true, true, true, true, true, true, true, true, true, true, true, true, true, true, true, false, false, false, false, false, false, false, false, false, false, false, false, false, false, false, false, false, false, false, false, false, false, false, false, false, false] HT_ ?_
        refine pu 17 (some 80) #[true, true, true, true, true, true, true, true, true, true, true, true, true, true, true, true, false, true, false, false, false, false, false, false, false, false, false, false, false, false, false, false, false, false, false, false, false, false, false, false, false, false] HT_ ?_
        refine pu 19 (some 82) #[true, true, true, true, true, true, true, true, true, true, true, true, true, true, true, true, false, true, false, true, false, false, false, false, false, false, false, false, false, false, false, false, false, false, false, false, false, false, false, false, false, false] HT_ ?_
        refine pu 24 (some 87) #[true, true, true, true, true, true, true, true, true, true, true, true, true, true, true, true, false, true, false, true, false, false, false, false, true, false, false, false, false, false, false, false, false, false, false, false, false, false, false, false, false, false] HT_ ?_
        refine tk14 16 (some 79) #[true, true, true, true, true, true, true, true, true, true, true, true, true, true, true, true, true, true, false, true, false, false, false, false, true, false, false, false, false, false, false, false, false, false, false, false, false, false, false, false, false, false] HT_ HW_ hHeld ?_
        refine tk14 18 (some 81) #[true, true, true, true, true, true, true, true, true, true, true, true, true, true, true, true, true, true, true, true, false, false, false, false, true, false, false, false, false, false, false, false, false, false, false, false, false, false, false, false, false, false] HT_ HW_ hHeld ?_
        refine tk14 20 (some 83) #[true, true, true, true, true, true, true, true, true, true, true, true, true, true, true, true, true, true, true, true, true, false, false, false, true, false, false, false, false, false, false, false, false, false, false, false, false, false, false, false, false, false] HT_ HW_ hHeld ?_
        refine pu 21 (some 84) #[true, true, true, true, true, true, true, true, true, true, true, true, true, true, true, true, true, true, true, true, true, true, false, false, true, false, false, false, false, false, false, false, false, false, false, false, false, false, false, false, false, false] HT_ ?_
        refine pu 22 (some 85) #[true, true, true, true, true, true, true, true, true, true, true, true, true, true, true, true, true, true, true, true, true, true, true, false, true, false, false, false, false, false, false, false, false, false, false, false, false, false, false, false, false, false] HT_ ?_
        refine tk14 25 (some 88) #[true, true, true, true, true, true, true, true, true, true, true, true, true, true, true, true, true, true, true, true, true, true, true, false, true, true, false, false, false, false, false, false, false, false, false, false, false, false, false, false, false, false] HT_ HW_ hHeld ?_
        refine on 23 (some 86) #[true, true, true, true, true, true, true, true, true, true, true, true, true, true, true, true, true, true, true, true, true, true, true, true, true, true, false, false, false, false, false, false, false, false, false, false, false, false, false, false, false, false] HT_ (fun K hK => ?_)
        refine go1 Try.func29 #[.int .i64 (wrap64 (t512 - (wrap64 (t519 * t513))))] ?_
        with_reducible refine (laws_pqAbs.calls (wrap64 (t512 - (wrap64 (t519 * t513)))) t536 _ A78.out).mono ?_
        rintro e w' ⟨rfl, ⟨nd, rfl⟩⟩
        refine ⟨_, rfl, ?_⟩
        refine hK.out _ _ ⟨bc BK517 0, bc BK517 1, bc BK517 2, bc BK517 3, bc BK517 4, bc BK517 5, bc BK517 6, bc BK517 7, bc BK517 8, bc BK517 9, bc BK517 10, bc BK517 11, bc BK520 0, bc BK520 1⟩ (fun hHeld => ?_)
        clear hK K
        refine nm (some 86) ?_
        refine pu 26 (some 89) #[true, true, true, true, true, true, true, true, true, true, true, true, true, true, true, true, true, true, true, true, true, true, true, true, true, true, true, false, false, false, false, false, false, false, false, false, false, false, false, false, false, false] HT_ ?_
        refine pu 27 (some 90) #[true, true, true, true, true, true, true, true, true, true, true, true, true, true, true, true, true, true, true, true, true, true, true, true, true, true, true, true, false, false, false, false, false, false, false, false, false, false, false, false, false, false] HT_ ?_
        refine pu 28 (some 91) #[true, true, true, true, true, true, true, true, true, true, true, true, true, true, true, true, true, true, true, true, true, true, true, true, true, true, true, true, true, false, false, false, false, false, false, false, false, false, false, false, false, false] HT_ ?_
        refine pv 29 (some 92) #[true, true, true, true, true, true, true, true, true, true, true, true, true, true, true, true, true, true, true, true, true, true, true, true, true, true, true, true, true, true, false, false, false, false, false, false, false, false, false, false, false, false] HT_ ?_
        refine pv 30 (some 93) #[true, true, true, true, true, true, true, true, true, true, true, true, true, true, true, true, true, true, true, true, true, true, true, true, true, true, true, true, true, true, true, false, false, false, false, false, false, false, false, false, false, false] HT_ ?_
        refine pv 31 (some 94) #[true, true, true, true, true, true, true, true, true, true, true, true, true, true, true, true, true, true, true, true, true, true, true, true, true, true, true, true, true, true, true, true, false, false, false, false, false, false, false, false, false, false] HT_ ?_
        refine pv 32 (some 95) #[true, true, true, true, true, true, true, true, true, true, true, true, true, true, true, true, true, true, true, true, true, true, true, true, true, true, true, true, true, true, true, true, true, false, false, false, false, false, false, false, false, false] HT_ ?_
        refine pv 33 (some 96) #[true, true, true, true, true, true, true, true, true, true, true, true, true, true, true, true, true, true, true, true, true, true, true, true, true, true, true, true, true, true, true, true, true, true, false, false, false, false, false, false, false, false] HT_ ?_
        refine pv 34 (some 97) #[true, true, true, true, true, true, true, true, true, true, true, true, true, true, true, true, true, true, true, true, true, true, true, true, true, true, true, true, true, true, true, true, true, true, true, false, false, false, false, false, false, false] HT_ ?_
        refine pv 35 (some 98) #[true, true, true, true, true, true, true, true, true, true, true, true, true, true, true, true, true, true, true, true, true, true, true, true, true, true, true, true, true, true, true, true, true, true, true, true, false, false, false, false, false, false] HT_ ?_
        refine pv 36 (some 99) #[true, true, true, true, true, true, true, true, true, true, true, true, true, true, true, true, true, true, true, true, true, true, true, true, true, true, true, true, true, true, true, true, true, true, true, true, true, false, false, false, false, false] HT_ ?_
        refine pv 37 (some 100) #[true, true, true, true, true, true, true, true, true, true, true, true, true, true, true, true, true, true, true, true, true, true, true, true, true, true, true, true, true, true, true, true, true, true, true, true, true, true, false, false, false, false] HT_ ?_
        refine pv 38 (some 101) #[true, true, true, true, true, true, true, true, true, true, true, true, true, true, true, true, true, true, true, true, true, true, true, true, true, true, true, true, true, true, true, true, true, true, true, true, true, true, true, false, false, false] HT_ ?_
        refine pv 39 (some 102) #[true, true, true, true, true, true, true, true, true, true, true, true, true, true, true, true, true, true, true, true, true, true, true, true, true, true, true, true, true, true, true, true, true, true, true, true, true, true, true, true, false, false] HT_ ?_
        refine pu 40 (some 103) #[true, true, true, true, true, true, true, true, true, true, true, true, true, true, true, true, true, true, true, true, true, true, true, true, true, true, true, true, true, true, true, true, true, true, true, true, true, true, true, true, true, false] HT_ ?_
        refine pu 41 (some 2) #[true, true, true, true, true, true, true, true, true, true, true, true, true, true, true, true, true, true, true, true, true, true, true, true, true, true, true, true, true, true, true, true, true, true, true, true, true, true, true, true, true, true] HT_ ?_
        refine done_ (done_of HT_.out (by kernel_rfl)) ?_
        try go_wp2
        go_ret
        exact ⟨qE, qL HB⟩
      rw [if_neg c77] at H
      have c77b0 : decide (t535 < t513) = false := decide_eq_false c77
      clear c77
      obtain rfl := Option.some.inj H
      try go_wp2
      replace BK517 := Aside0.mk (blk_drew BK517.out)
      replace BK520 := Aside0.mk (blk_drew BK520.out)
      replace HB := Aside0.mk (below_drew1 HB.out)
      refine start_ (n := 42) (S := fun w' => w'.cell? ⟨gb517, 0, none⟩ = some (.int .i64 t505) ∧ w'.cell? ⟨gb517, 1, none⟩ = some (.int .i64 t506) ∧ w'.cell? ⟨gb517, 2, none⟩ = some (.int .i64 t507) ∧ w'.cell? ⟨gb517, 3, none⟩ = some (.int .i64 t508) ∧ w'.cell? ⟨gb517, 4, none⟩ = some (.int .i64 t509) ∧ w'.cell? ⟨gb517, 5, none⟩ = some (.int .i64 t510) ∧ w'.cell? ⟨gb517, 6, none⟩ = some (.int .i64 t511) ∧ w'.cell? ⟨gb517, 7, none⟩ = some (.int .i64 t512) ∧ w'.cell? ⟨gb517, 8, none⟩ = some (.int .i64 t513) ∧ w'.cell? ⟨gb517, 9, none⟩ = some (.int .i64 t514) ∧ w'.cell? ⟨gb517, 10, none⟩ = some (.int .i64 t515) ∧ w'.cell? ⟨gb517, 11, none⟩ = some (.int .i64 t516) ∧ w'.cell? ⟨gb520, 0, none⟩ = some (.int .i64 t518) ∧ w'.cell? ⟨gb520, 1, none⟩ = some (.int .i64 t519)) (ds := []) #[false, false, false, false, false, false, false, false, false, false, false, false, false, false, false, false, false, false, false, false, false, false, false, false, false, false, false, false, false, false, false, false, false, false, false, false, false, false, false, false, false, false] (by kernel_rfl) rfl rfl ⟨bc BK517 0, bc BK517 1, bc BK517 2, bc BK517 3, bc BK517 4, bc BK517 5, bc BK517 6, bc BK517 7, bc BK517 8, bc BK517 9, bc BK517 10, bc BK517 11, bc BK520 0, bc BK520 1⟩ (fun hHeld => ?_); refine with_tabW laws_FnBodySpeed.tab9 laws_FnBodySpeed.bits9 (fun HT_ HW_ => ?_)
      generalize wc.drew = w84 at BK517 BK520 HB hHeld ⊢
      refine pu 0 (some 63) #[true, false, false, false, false, false, false, false, false, false, false, false, false, false, false, false, false, false, false, false, false, false, false, false, false, false, false, false, false, false, false, false, false, false, false, false, false, false, false, false, false, false] HT_ ?_
      refine pu 1 (some 64) #[true, true, false, false, false, false, false, false, false, false, false, false, false, false, false, false, false, false, false, false, false, false, false, false, false, false, false, false, false, false, false, false, false, false, false, false, false, false, false, false, false, false] HT_ ?_
      refine pu 3 (some 66) #[true, true, false, true, false, false, false, false, false, false, false, false, false, false, false, false, false, false, false, false, false, false, false, false, false, false, false, false, false, false, false, false, false, false, false, false, false, false, false, false, false, false] HT_ ?_
      refine pu 5 (some 68) #[true, true, false, true, false, true, false, false, false, false, false, false, false, false, false, false, false, false, false, false, false, false, false, false, false, false, false, false, false, false, false, false, false, false, false, false, false, false, false, false, false, false] HT_ ?_
      refine pu 10 (some 73) #[true, true, false, true, false, true, false, false, false, false, true, false, false, false, false, false, false, false, false, false, false, false, false, false, false, false, false, false, false, false, false, false, false, false, false, false, false, false, false, false, false, false] HT_ ?_
      refine tk14 2 (some 65) #[true, true, true, true, false, true, false, false, false, false, true, false, false, false, false, false, false, false, false, false, false, false, false, false, false, false, false, false, false, false, false, false, false, false, false, false, false, false, false, false, false, false] HT_ HW_ hHeld ?_
      refine tk14 4 (some 67) #[true, true, true, true, true, true, false, false, false, false, true, false, false, false, false, false, false, false, false, false, false, false, false, false, false, false, false, false, false, false, false, false, false, false, false, false, false, false, false, false, false, false] HT_ HW_ hHeld ?_
      refine tk14 6 (some 69) #[true, true, true, true, true, true, true, false, false, false, true, false, false, false, false, false, false, false, false, false, false, false, false, false, false, false, false, false, false, false, false, false, false, false, false, false, false, false, false, false, false, false] HT_ HW_ hHeld ?_
      refine pu 7 (some 70) #[true, true, true, true, true, true, true, true, false, false, true, false, false, false, false, false, false, false, false, false, false, false, false, false, false, false, false, false, false, false, false, false, false, false, false, false, false, false, false, false, false, false] HT_ ?_
      refine pu 8 (some 71) #[true, true, true, true, true, true, true, true, true, false, true, false, false, false, false, false, false, false, false, false, false, false, false, false, false, false, false, false, false, false, false, false, false, false, false, false, false, false, false, false, false, false] HT_ ?_
      refine tk14 11 (some 74) #[true, true, true, true, true, true, true, true, true, false, true, true, false, false, false, false, false, false, false, false, false, false, false, false, false, false, false, false, false, false, false, false, false, false, false, false, false, false, false, false, false, false] HT_ HW_ hHeld ?_
      refine on 9 (some 72) #[true, true, true, true, true, true, true, true, true, true, true, true, false, false, false, false, false, false, false, false, false, false, false, false, false, false, false, false, false, false, false, false, false, false, false, false, false, false, false, false, false, false] HT_ (fun K hK => ?_)
      refine go1 Try.func29 #[.int .i64 (wrap64 (t511 - (wrap64 (t518 * t513))))] ?_
      with_reducible refine (laws_pqAbs.calls (wrap64 (t511 - (wrap64 (t518 * t513)))) t535 _ A76.out).mono ?_
      rintro e w' ⟨rfl, ⟨nd, rfl⟩⟩
      refine ⟨_, rfl, ?_⟩
      refine hK.out _ _ ⟨bc BK517 0, bc BK517 1, bc BK517 2, bc BK517 3, bc BK517 4, bc BK517 5, bc BK517 6, bc BK517 7, bc BK517 8, bc BK517 9, bc BK517 10, bc BK517 11, bc BK520 0, bc BK520 1⟩ (fun hHeld => ?_)
      clear hK K
      refine nm (some 72) ?_
      refine pu 12 (some 75) #[true, true, true, true, true, true, true, true, true, true, true, true, true, false, false, false, false, false, false, false, false, false, false, false, false, false, false, false, false, false, false, false, false, false, false, false, false, false, false, false, false, false] HT_ ?_
      refine pu 13 (some 76) #[true, true, true, true, true, true, true, true, true, true, true, true, true, true, false, false, false, false, false, false, false, false, false, false, false, false, false, false, false, false, false, false, false, false, false, false, false, false, false, false, false, false] HT_ ?_
      refine pv 14 (some 77) #[true, true, true, true, true, true, true, true, true, true, true, true, true, true, true, false, false, false, false, false, false, false, false, false, false, false, false, false, false, false, false, false, false, false, false, false, false, false, false, false, false, false] HT_ ?_
      refine pv 15 (some 78) #[true, true, true, true, true, true, true, true, true, true, true, true, true, true, true, true, false, false, false, false, false, false, false, false, false, false, false, false, false, false, false, false, false, false, false, false, false, false, false, false, false, false] HT_ ?_
      refine pv 16 (some 79) #[true, true, true, true, true, true, true, true, true, true, true, true, true, true, true, true, true, false, false, false, false, false, false, false, false, false, false, false, false, false, false, false, false, false, false, false, false, false, false, false, false, false] HT_ ?_
      refine pv 17 (some 80) #[true, true, true, true, true, true, true, true, true, true, true, true, true, true, true, true, true, true, false, false, false, false, false, false, false, false, false, false, false, false, false, false, false, false, false, false, false, false, false, false, false, false] HT_ ?_
      refine pv 18 (some 81) #[true, true, true, true, true, true, true, true, true, true, true, true, true, true, true, true, true, true, true, false, false, false, false, false, false, false, false, false, false, false, false, false, false, false, false, false, false, false, false, false, false, false] HT_ ?_
      refine pv 19 (some 82) #[true, true, true, true, true, true, true, true, true, true, true, true, true, true, true, true, true, true, true, true, false, false, false, false, false, false, false, false, false, false, false, false, false, false, false, false, false, false, false, false, false, false] HT_ ?_
      refine pv 20 (some 83) #[true, true, true, true, true, true, true, true, true, true, true, true, true, true, true, true, true, true, true, true, true, false, false, false, false, false, false, false, false, false, false, false, false, false, false, false, false, false, false, false, false, false] HT_ ?_
      refine pv 21 (some 84) #[true, true, true, true, true, true, true, true, true, true, true, true, true, true, true, true, true, true, true, true, true, true, false, false, false, false, false, false, false, false, false, false, false, false, false, false, false, false, false, false, false, false] HT_ ?_
      refine pv 22 (some 85) #[true, true, true, true, true, true, true, true, true, true, true, true, true, true, true, true, true, true, true, true, true, true, true, false, false, false, false, false, false, false, false, false, false, false, false, false, false, false, false, false, false, false] HT_ ?_
      refine pv 23 (some 86) #[true, true, true, true, true, true, true, true, true, true, true, true, true, true, true, true, true, true, true, true, true, true, true, true, false, false, false, false, false, false, false, false, false, false, false, false, false, false, false, false, false, false] HT_ ?_
      refine pv 24 (some 87) #[true, true, true, true, true, true, true, true, true, true, true, true, true, true, true, true, true, true, true, true, true, true, true, true, true, false, false, false, false, false, false, false, false, false, false, false, false, false, false, false, false, false] HT_ ?_
      refine pv 25 (some 88) #[true, true, true, true, true, true, true, true, true, true, true, true, true, true, true, true, true, true, true, true, true, true, true, true, true, true, false, false, false, false, false, false, false, false, false, false, false, false, false, false, false, false] HT_ ?_
      refine pv 26 (some 89) #[true, true, true, true, true, true, true, true, true, true, true, true, true, true, true, true, true, true, true, true, true, true, true, true, true, true, true, false, false, false, false, false, false, false, false, false, false, false, false, false, false, false] HT_ ?_
      refine pu 27 (some 90) #[true, true, true, true, true, true, true, true, true, true, true, true, true, true, true, true, true, true, true, true, true, true, true, true, true, true, true, true, false, false, false, false, false, false, false, false, false, false, false, false, false, false] HT_ ?_
      refine pu 28 (some 91) #[true, true, true, true, true, true, true, true, true, true, true, true, true, true, true, true, true, true, true, true, true, true, true, true, true, true, true, true, true, false, false, false, false, false, false, false, false, false, false, false, false, false] HT_ ?_
      refine pv 29 (some 92) #[true, true, true, true, true, true, true, true, true, true, true, true, true, true, true, true, true, true, true, true, true, true, true, true, true, true, true, true, true, true, false, false, false, false, false, false, false, false, false, false, false, false] HT_ ?_
      refine pv 30 (some 93) #[true, true, true, true, true, true, true, true, true, true, true, true, true, true, true, true, true, true, true, true, true, true, true, true, true, true, true, true, true, true, true, false, false, false, false, false, false, false, false, false, false, false] HT_ ?_
      refine pv 31 (some 94) #[true, true, true, true, true, true, true, true, true, true, true, true, true, true, true, true, true, true, true, true, true, true, true, true, true, true, true, true, true, true, true, true, false, false, false, false, false, false, false, false, false, false] HT_ ?_
      refine pv 32 (some 95) #[true, true, true, true, true, true, true, true, true, true, true, true, true, true, true, true, true, true, true, true, true, true, true, true, true, true, true, true, true, true, true, true, true, false, false, false, false, false, false, false, false, false] HT_ ?_
      refine pv 33 (some 96) #[true, true, true, true, true, true, true, true, true, true, true, true, true, true, true, true, true, true, true, true, true, true, true, true, true, true, true, true, true, true, true, true, true, true, false, false, false, false, false, false, false, false] HT_ ?_
      refine pv 34 (some 97) #[true, true, true, true, true, true, true, true, true, true, true, true, true, true, true, true, true, true, true, true, true, true, true, true, true, true, true, true, true, true, true, true, true, true, true, false, false, false, false, false, false, false] HT_ ?_
      refine pv 35 (some 98) #[true, true, true, true, true, true, true, true, true, true, true, true, true, true, true, true, true, true, true, true, true, true, true, true, true, true, true, true, true, true, true, true, true, true, true, true, false, false, false, false, false, false] HT_ ?_
      refine pv 36 (some 99) #[true, true, true, true, true, true, true, true, true, true, true, true, true, true, true, true, true, true, true, true, true, true, true, true, true, true, true, true, true, true, true, true, true, true, true, true, true, false, false, false, false, false] HT_ ?_
      refine pv 37 (some 100) #[true, true, true, true, true, true, true, true, true, true, true, true, true, true, true, true, true, true, true, true, true, true, true, true, true, true, true, true, true, true, true, true, true, true, true, true, true, true, false, false, false, false] HT_ ?_
      refine pv 38 (some 101) #[true, true, true, true, true, true, true, true, true, true, true, true, true, true, true, true, true, true, true, true, true, true, true, true, true, true, true, true, true, true, true, true, true, true, true, true, true, true, true, false, false, false] HT_ ?_
      refine pv 39 (some 102) #[true, true, true, true, true, true, true, true, true, true, true, true, true, true, true, true, true, true, true, true, true, true, true, true, true, true, true, true, true, true, true, true, true, true, true, true, true, true, true, true, false, false] HT_ ?_
      refine pu 40 (some 103) #[true, true, true, true, true, true, true, true, true, true, true, true, true, true, true, true, true, true, true, true, true, true, true, true, true, true, true, true, true, true, true, true, true, true, true, true, true, true, true, true, true, false] HT_ ?_
      refine pu 41 (some 2) #[true, true, true, true, true, true, true, true, true, true, true, true, true, true, true, true, true, true, true, true, true, true, true, true, true, true, true, true, true, true, true, true, true, true, true, true, true, true, true, true, true, true] HT_ ?_
      refine done_ (done_of HT_.out (by kernel_rfl)) ?_
      try go_wp2
      go_ret
      exact ⟨qE, qL HB⟩

/-- THE ONE PURE STATEMENT of laws_FnBodySpeed: yours. -/
def laws_FnBodySpeed.Pure : Prop := ∀ (l0 : List Int), l0.length ≤ maxLen → l0.length * 1 ≤ 140737488351232 → (∀ x ∈ l0, (Lit.int .u8 x).wf = true) → ∃ k, laws_FnBodySpeed.f k l0 = some true
theorem laws_FnBodySpeed.walk (P : laws_FnBodySpeed.Pure) (a0 : Option Addr) (len0 cap0 : Nat) (z0 : List Int) (w : World) (w0 : (a0 = none ∧ len0 = 0 ∧ cap0 = 0 ∧ z0 = []) ∨ ∃ x, a0 = some x ∧ len0 ≤ cap0 ∧ cap0 ≤ maxLen ∧ z0.length = cap0 ∧ (∀ i, i < z0.length → w.cell? (x.add i) = some (.int .u8 (z0.getD i 0))) ∧ ∀ n ∈ z0, (Lit.int .u8 n).wf = true) (y0 : len0 * 1 ≤ 140737488351232) :
    Calls Try.prog 11 #[.slice a0 len0 cap0] w fun e w' => e = .returned (.bool true) ∧ Below w.heap.size w w' := by
  obtain ⟨l0, rfl, hr0, hm0, hw0, hc0⟩ := ReadsInt.ofRowC w0
  obtain ⟨k, h⟩ := P l0 hm0 y0 hw0
  refine (laws_FnBodySpeed.calls k _ _ l0 true w (Kd.C_of_reads (d := (0 : Int)) (h1 := fun _ => rfl) hr0) hc0 h).mono ?_
  rintro e w' ⟨rfl, hd⟩
  exact ⟨rfl, hd⟩

end Go.Proofs.Ytgclkbklhopaaaa.PBig
