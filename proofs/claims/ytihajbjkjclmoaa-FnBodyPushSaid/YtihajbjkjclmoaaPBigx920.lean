/- What these functions compute, each walked once: laws_FnBodyPush; for all arguments and worlds, under the conditions that each theorem names. -/
import Derived.Test.YtihajbjkjclmoaaSq
import Derived.Test.YtihajbjkjclmoaaPBigx900
import Derived.Test.YtihajbjkjclmoaaPBigx909
import Derived.Test.YtihajbjkjclmoaaPBigx910
import Derived.Test.YtihajbjkjclmoaaPBigx911
import Derived.Test.YtihajbjkjclmoaaPBigx914
import Derived.Test.YtihajbjkjclmoaaPBigx919
namespace Go.Proofs.Ytihajbjkjclmoaa.PBig
open Go.RowKit Go.Proofs.YtihajbjkjclmoaaW.PrintWords Go.Proofs.YtihajbjkjclmoaaW.PrintLast Go.Proofs.YtihajbjkjclmoaaW.PrintMore
attribute [local go_sem] max2_int min2_int max_two min_two max_three min_three max_four min_four   -- for this text's walks alone
set_option linter.unusedVariables false
set_option linter.unusedSimpArgs false

attribute [local go_sem high] eqA24 eqA40
/-! ### laws_FnBodyPush: function 6 -/
mutual
def laws_FnBodyPush.j0 : Nat → Bool → Int → Int → Int → Int → Int → Int → Int → Int → Int → Int → Int → Int → Int → Int → Int → Int → Int → Int → Int → Int → Int → Int → Int → Int → Int → Int → Option (Bool)
  | 0, _, _, _, _, _, _, _, _, _, _, _, _, _, _, _, _, _, _, _, _, _, _, _, _, _, _, _ => none
  | k + 1, x32, x729000, x729001, x729002, x729003, x729004, x729005, x729006, x729007, x729008, x729009, x729010, x729011, x730000, x730001, x743000, x743001, x743002, x743003, x743004, x743005, x743006, x743007, x743008, x743009, x743010, x743011 => if x32 = true then ((spec_BodyPush.f k x729000 x729001 x729002 x729003 x729004 x729005 x729006 x729007 x729008 x729009 x729010 x729011 x730000 x730001).bind fun bt756 => (some (x743000 == bt756.1 && ((x743001 == bt756.2.1 && (x743002 == bt756.2.2.1 && (x743003 == bt756.2.2.2.1))) && ((x743004 == bt756.2.2.2.2.1 && (x743005 == bt756.2.2.2.2.2.1)) && ((x743006 == bt756.2.2.2.2.2.2.1 && (x743007 == bt756.2.2.2.2.2.2.2.1)) && (x743008 == bt756.2.2.2.2.2.2.2.2.1 && (x743009 == bt756.2.2.2.2.2.2.2.2.2.1 && (x743010 == bt756.2.2.2.2.2.2.2.2.2.2.1 && (x743011 == bt756.2.2.2.2.2.2.2.2.2.2.2)))))))))) else (if x729008 = 0 then (some (x743000 == x729000 && ((x743001 == x729001 && (x743002 == x729002 && (x743003 == x729003))) && ((x743004 == x729004 && (x743005 == x729005)) && ((x743006 == x729006 && (x743007 == x729007)) && (x743008 == x729008 && (x743009 == x729009 && (x743010 == x729010 && (x743011 == x729011))))))))) else ((impl_BodyOk.f k x743000 x743001 x743002 x743003 x743004 x743005 x743006 x743007 x743008 x743009 x743010 x743011).bind fun t769 => (if t769 = true then ((impl_BodySleeps.f k x743000 x743001 x743002 x743003 x743004 x743005 x743006 x743007 x743008 x743009 x743010 x743011).bind fun t770 => (if t770 = true then (laws_FnBodyPush.j1 k true x729000 x729001 x729002 x729003 x729004 x729005 x729006 x729007 x729008 x729009 x729010 x729011 x730000 x730001 x743000 x743001 x743002 x743003 x743004 x743005 x743006 x743007 x743008 x743009 x743010 x743011 (wrap64 (x729006 + x730000)) (wrap64 (x729007 + x730001))) else (if (!(x743004 == x729004) || (!(x743005 == x729005))) = true then (laws_FnBodyPush.j1 k true x729000 x729001 x729002 x729003 x729004 x729005 x729006 x729007 x729008 x729009 x729010 x729011 x730000 x730001 x743000 x743001 x743002 x743003 x743004 x743005 x743006 x743007 x743008 x743009 x743010 x743011 (wrap64 (x729006 + x730000)) (wrap64 (x729007 + x730001))) else (if x743000 = x729000 then ((laws_pqAbs.f (wrap64 (x729006 + x730000))).bind fun t771 => (if t771 > 20000000 then (laws_FnBodyPush.j1 k true x729000 x729001 x729002 x729003 x729004 x729005 x729006 x729007 x729008 x729009 x729010 x729011 x730000 x730001 x743000 x743001 x743002 x743003 x743004 x743005 x743006 x743007 x743008 x743009 x743010 x743011 (wrap64 (x729006 + x730000)) (wrap64 (x729007 + x730001))) else ((laws_pqAbs.f (wrap64 (x729007 + x730001))).bind fun t772 => (laws_FnBodyPush.j1 k (decide (t772 > 20000000)) x729000 x729001 x729002 x729003 x729004 x729005 x729006 x729007 x729008 x729009 x729010 x729011 x730000 x730001 x743000 x743001 x743002 x743003 x743004 x743005 x743006 x743007 x743008 x743009 x743010 x743011 (wrap64 (x729006 + x730000)) (wrap64 (x729007 + x730001)))))) else (laws_FnBodyPush.j1 k true x729000 x729001 x729002 x729003 x729004 x729005 x729006 x729007 x729008 x729009 x729010 x729011 x730000 x730001 x743000 x743001 x743002 x743003 x743004 x743005 x743006 x743007 x743008 x743009 x743010 x743011 (wrap64 (x729006 + x730000)) (wrap64 (x729007 + x730001))))))) else (laws_FnBodyPush.j1 k true x729000 x729001 x729002 x729003 x729004 x729005 x729006 x729007 x729008 x729009 x729010 x729011 x730000 x730001 x743000 x743001 x743002 x743003 x743004 x743005 x743006 x743007 x743008 x743009 x743010 x743011 (wrap64 (x729006 + x730000)) (wrap64 (x729007 + x730001))))))
def laws_FnBodyPush.j1 : Nat → Bool → Int → Int → Int → Int → Int → Int → Int → Int → Int → Int → Int → Int → Int → Int → Int → Int → Int → Int → Int → Int → Int → Int → Int → Int → Int → Int → Int → Int → Option (Bool)
  | 0, _, _, _, _, _, _, _, _, _, _, _, _, _, _, _, _, _, _, _, _, _, _, _, _, _, _, _, _, _ => none
  | k + 1, x89, x729000, x729001, x729002, x729003, x729004, x729005, x729006, x729007, x729008, x729009, x729010, x729011, x730000, x730001, x743000, x743001, x743002, x743003, x743004, x743005, x743006, x743007, x743008, x743009, x743010, x743011, x769000, x769001 => if x89 = true then ((impl_BodyOk.f k x743000 x743001 x743002 x743003 x743004 x743005 x743006 x743007 x743008 x743009 x743010 x743011).bind fun t773 => (if t773 = true then ((impl_BodySleeps.f k x743000 x743001 x743002 x743003 x743004 x743005 x743006 x743007 x743008 x743009 x743010 x743011).bind fun t774 => (if t774 = true then (some false) else (if (x743004 == x729004 && (x743005 == x729005)) = true then (some (x743000 == x729000)) else (some false)))) else (some false))) else (if (x743006 == x769000 && (x743007 == x769001)) = true then ((impl_BodyPush.f k x743000 x743001 x743002 x743003 x743004 x743005 x743006 x743007 x743008 x743009 x743010 x743011 (wrap64 (-x730000)) (wrap64 (-x730001))).bind fun bt775 => (some (bt775.2.2.2.2.2.2.1 == x729006 && (bt775.2.2.2.2.2.2.2.1 == x729007)))) else (some false))
end
def laws_FnBodyPush.f (k : Nat) (l0 : List Int) : Option (Bool) := if (l0.length : Int) > 1048576 then (some true) else ((spec_DrawBodyPush.f k l0).bind fun bt714 => ((impl_BodyPush.f k bt714.1 bt714.2.1 bt714.2.2.1 bt714.2.2.2.1 bt714.2.2.2.2.1 bt714.2.2.2.2.2.1 bt714.2.2.2.2.2.2.1 bt714.2.2.2.2.2.2.2.1 bt714.2.2.2.2.2.2.2.2.1 bt714.2.2.2.2.2.2.2.2.2.1 bt714.2.2.2.2.2.2.2.2.2.2.1 bt714.2.2.2.2.2.2.2.2.2.2.2.1 bt714.2.2.2.2.2.2.2.2.2.2.2.2.1 bt714.2.2.2.2.2.2.2.2.2.2.2.2.2).bind fun bt730 => ((spec_BodyPush.f k bt714.1 bt714.2.1 bt714.2.2.1 bt714.2.2.2.1 bt714.2.2.2.2.1 bt714.2.2.2.2.2.1 bt714.2.2.2.2.2.2.1 bt714.2.2.2.2.2.2.2.1 bt714.2.2.2.2.2.2.2.2.1 bt714.2.2.2.2.2.2.2.2.2.1 bt714.2.2.2.2.2.2.2.2.2.2.1 bt714.2.2.2.2.2.2.2.2.2.2.2.1 bt714.2.2.2.2.2.2.2.2.2.2.2.2.1 bt714.2.2.2.2.2.2.2.2.2.2.2.2.2).bind fun bt743 => (if (!(bt730.1 == bt743.1) || ((!(bt730.2.1 == bt743.2.1) || (!(bt730.2.2.1 == bt743.2.2.1) || (!(bt730.2.2.2.1 == bt743.2.2.2.1)))) || ((!(bt730.2.2.2.2.1 == bt743.2.2.2.2.1) || (!(bt730.2.2.2.2.2.1 == bt743.2.2.2.2.2.1))) || ((!(bt730.2.2.2.2.2.2.1 == bt743.2.2.2.2.2.2.1) || (!(bt730.2.2.2.2.2.2.2.1 == bt743.2.2.2.2.2.2.2.1))) || (!(bt730.2.2.2.2.2.2.2.2.1 == bt743.2.2.2.2.2.2.2.2.1) || (!(bt730.2.2.2.2.2.2.2.2.2.1 == bt743.2.2.2.2.2.2.2.2.2.1) || (!(bt730.2.2.2.2.2.2.2.2.2.2.1 == bt743.2.2.2.2.2.2.2.2.2.2.1) || (!(bt730.2.2.2.2.2.2.2.2.2.2.2 == bt743.2.2.2.2.2.2.2.2.2.2.2))))))))) = true then (laws_FnBodyPush.j0 k true bt714.1 bt714.2.1 bt714.2.2.1 bt714.2.2.2.1 bt714.2.2.2.2.1 bt714.2.2.2.2.2.1 bt714.2.2.2.2.2.2.1 bt714.2.2.2.2.2.2.2.1 bt714.2.2.2.2.2.2.2.2.1 bt714.2.2.2.2.2.2.2.2.2.1 bt714.2.2.2.2.2.2.2.2.2.2.1 bt714.2.2.2.2.2.2.2.2.2.2.2.1 bt714.2.2.2.2.2.2.2.2.2.2.2.2.1 bt714.2.2.2.2.2.2.2.2.2.2.2.2.2 bt730.1 bt730.2.1 bt730.2.2.1 bt730.2.2.2.1 bt730.2.2.2.2.1 bt730.2.2.2.2.2.1 bt730.2.2.2.2.2.2.1 bt730.2.2.2.2.2.2.2.1 bt730.2.2.2.2.2.2.2.2.1 bt730.2.2.2.2.2.2.2.2.2.1 bt730.2.2.2.2.2.2.2.2.2.2.1 bt730.2.2.2.2.2.2.2.2.2.2.2) else ((spec_BodyOk.f k bt714.1 bt714.2.1 bt714.2.2.1 bt714.2.2.2.1 bt714.2.2.2.2.1 bt714.2.2.2.2.2.1 bt714.2.2.2.2.2.2.1 bt714.2.2.2.2.2.2.2.1 bt714.2.2.2.2.2.2.2.2.1 bt714.2.2.2.2.2.2.2.2.2.1 bt714.2.2.2.2.2.2.2.2.2.2.1 bt714.2.2.2.2.2.2.2.2.2.2.2.1).bind fun t755 => (if t755 = true then (laws_FnBodyPush.j0 k (bt730.1 == 0 && ((bt730.2.1 == 0 && (bt730.2.2.1 == 0 && (bt730.2.2.2.1 == 0))) && ((bt730.2.2.2.2.1 == 0 && (bt730.2.2.2.2.2.1 == 0)) && ((bt730.2.2.2.2.2.2.1 == 0 && (bt730.2.2.2.2.2.2.2.1 == 0)) && (bt730.2.2.2.2.2.2.2.2.1 == 0 && (bt730.2.2.2.2.2.2.2.2.2.1 == 0 && (bt730.2.2.2.2.2.2.2.2.2.2.1 == 0 && (bt730.2.2.2.2.2.2.2.2.2.2.2 == 0)))))))) bt714.1 bt714.2.1 bt714.2.2.1 bt714.2.2.2.1 bt714.2.2.2.2.1 bt714.2.2.2.2.2.1 bt714.2.2.2.2.2.2.1 bt714.2.2.2.2.2.2.2.1 bt714.2.2.2.2.2.2.2.2.1 bt714.2.2.2.2.2.2.2.2.2.1 bt714.2.2.2.2.2.2.2.2.2.2.1 bt714.2.2.2.2.2.2.2.2.2.2.2.1 bt714.2.2.2.2.2.2.2.2.2.2.2.2.1 bt714.2.2.2.2.2.2.2.2.2.2.2.2.2 bt730.1 bt730.2.1 bt730.2.2.1 bt730.2.2.2.1 bt730.2.2.2.2.1 bt730.2.2.2.2.2.1 bt730.2.2.2.2.2.2.1 bt730.2.2.2.2.2.2.2.1 bt730.2.2.2.2.2.2.2.2.1 bt730.2.2.2.2.2.2.2.2.2.1 bt730.2.2.2.2.2.2.2.2.2.2.1 bt730.2.2.2.2.2.2.2.2.2.2.2) else (laws_FnBodyPush.j0 k true bt714.1 bt714.2.1 bt714.2.2.1 bt714.2.2.2.1 bt714.2.2.2.2.1 bt714.2.2.2.2.2.1 bt714.2.2.2.2.2.2.1 bt714.2.2.2.2.2.2.2.1 bt714.2.2.2.2.2.2.2.2.1 bt714.2.2.2.2.2.2.2.2.2.1 bt714.2.2.2.2.2.2.2.2.2.2.1 bt714.2.2.2.2.2.2.2.2.2.2.2.1 bt714.2.2.2.2.2.2.2.2.2.2.2.2.1 bt714.2.2.2.2.2.2.2.2.2.2.2.2.2 bt730.1 bt730.2.1 bt730.2.2.1 bt730.2.2.2.1 bt730.2.2.2.2.1 bt730.2.2.2.2.2.1 bt730.2.2.2.2.2.2.1 bt730.2.2.2.2.2.2.2.1 bt730.2.2.2.2.2.2.2.2.1 bt730.2.2.2.2.2.2.2.2.2.1 bt730.2.2.2.2.2.2.2.2.2.2.1 bt730.2.2.2.2.2.2.2.2.2.2.2)))))))
theorem laws_FnBodyPush.mono_l : ∀ k, (∀ y0 y1 y2 y3 y4 y5 y6 y7 y8 y9 y10 y11 y12 y13 y14 y15 y16 y17 y18 y19 y20 y21 y22 y23 y24 y25 y26, LeO (laws_FnBodyPush.j0 k y0 y1 y2 y3 y4 y5 y6 y7 y8 y9 y10 y11 y12 y13 y14 y15 y16 y17 y18 y19 y20 y21 y22 y23 y24 y25 y26) (laws_FnBodyPush.j0 (k + 1) y0 y1 y2 y3 y4 y5 y6 y7 y8 y9 y10 y11 y12 y13 y14 y15 y16 y17 y18 y19 y20 y21 y22 y23 y24 y25 y26)) ∧ (∀ y0 y1 y2 y3 y4 y5 y6 y7 y8 y9 y10 y11 y12 y13 y14 y15 y16 y17 y18 y19 y20 y21 y22 y23 y24 y25 y26 y27 y28, LeO (laws_FnBodyPush.j1 k y0 y1 y2 y3 y4 y5 y6 y7 y8 y9 y10 y11 y12 y13 y14 y15 y16 y17 y18 y19 y20 y21 y22 y23 y24 y25 y26 y27 y28) (laws_FnBodyPush.j1 (k + 1) y0 y1 y2 y3 y4 y5 y6 y7 y8 y9 y10 y11 y12 y13 y14 y15 y16 y17 y18 y19 y20 y21 y22 y23 y24 y25 y26 y27 y28))
  | 0 => ⟨fun _ _ _ _ _ _ _ _ _ _ _ _ _ _ _ _ _ _ _ _ _ _ _ _ _ _ _ r h => by simp [laws_FnBodyPush.j0] at h, fun _ _ _ _ _ _ _ _ _ _ _ _ _ _ _ _ _ _ _ _ _ _ _ _ _ _ _ _ _ r h => by simp [laws_FnBodyPush.j1] at h⟩
  | k + 1 => by
    obtain ⟨ih0, ih1⟩ := laws_FnBodyPush.mono_l k
    refine ⟨?_, ?_⟩
    · intro y0 y1 y2 y3 y4 y5 y6 y7 y8 y9 y10 y11 y12 y13 y14 y15 y16 y17 y18 y19 y20 y21 y22 y23 y24 y25 y26
      unfold laws_FnBodyPush.j0
      repeat' first
      | (with_reducible exact ih0 _ _ _ _ _ _ _ _ _ _ _ _ _ _ _ _ _ _ _ _ _ _ _ _ _ _ _)
      | (with_reducible exact ih1 _ _ _ _ _ _ _ _ _ _ _ _ _ _ _ _ _ _ _ _ _ _ _ _ _ _ _ _ _)
      | (with_reducible exact impl_BodyOk.mono _ _ _ _ _ _ _ _ _ _ _ _ _)
      | (with_reducible exact impl_BodyPush.mono _ _ _ _ _ _ _ _ _ _ _ _ _ _ _)
      | (with_reducible exact impl_BodySleeps.mono _ _ _ _ _ _ _ _ _ _ _ _ _)
      | (with_reducible exact spec_BodyOk.mono _ _ _ _ _ _ _ _ _ _ _ _ _)
      | (with_reducible exact spec_BodyPush.mono _ _ _ _ _ _ _ _ _ _ _ _ _ _ _)
      | (with_reducible exact spec_DrawBodyPush.mono _ _)
      | (with_reducible exact LeO.refl _)
      | (with_reducible exact LeO.none _)
      | (with_reducible refine LeO.ite ?_ ?_)
      | (with_reducible refine LeO.bind ?_ (fun _ => ?_))
    · intro y0 y1 y2 y3 y4 y5 y6 y7 y8 y9 y10 y11 y12 y13 y14 y15 y16 y17 y18 y19 y20 y21 y22 y23 y24 y25 y26 y27 y28
      unfold laws_FnBodyPush.j1
      repeat' first
      | (with_reducible exact ih0 _ _ _ _ _ _ _ _ _ _ _ _ _ _ _ _ _ _ _ _ _ _ _ _ _ _ _)
      | (with_reducible exact ih1 _ _ _ _ _ _ _ _ _ _ _ _ _ _ _ _ _ _ _ _ _ _ _ _ _ _ _ _ _)
      | (with_reducible exact impl_BodyOk.mono _ _ _ _ _ _ _ _ _ _ _ _ _)
      | (with_reducible exact impl_BodyPush.mono _ _ _ _ _ _ _ _ _ _ _ _ _ _ _)
      | (with_reducible exact impl_BodySleeps.mono _ _ _ _ _ _ _ _ _ _ _ _ _)
      | (with_reducible exact spec_BodyOk.mono _ _ _ _ _ _ _ _ _ _ _ _ _)
      | (with_reducible exact spec_BodyPush.mono _ _ _ _ _ _ _ _ _ _ _ _ _ _ _)
      | (with_reducible exact spec_DrawBodyPush.mono _ _)
      | (with_reducible exact LeO.refl _)
      | (with_reducible exact LeO.none _)
      | (with_reducible refine LeO.ite ?_ ?_)
      | (with_reducible refine LeO.bind ?_ (fun _ => ?_))
theorem laws_FnBodyPush.mono : ∀ a0 k, LeO (laws_FnBodyPush.f k a0) (laws_FnBodyPush.f (k + 1) a0) := by
  intro a0 k
  obtain ⟨ih0, ih1⟩ := laws_FnBodyPush.mono_l k
  unfold laws_FnBodyPush.f
  repeat' first
      | (with_reducible exact ih0 _ _ _ _ _ _ _ _ _ _ _ _ _ _ _ _ _ _ _ _ _ _ _ _ _ _ _)
      | (with_reducible exact ih1 _ _ _ _ _ _ _ _ _ _ _ _ _ _ _ _ _ _ _ _ _ _ _ _ _ _ _ _ _)
      | (with_reducible exact impl_BodyOk.mono _ _ _ _ _ _ _ _ _ _ _ _ _)
      | (with_reducible exact impl_BodyPush.mono _ _ _ _ _ _ _ _ _ _ _ _ _ _ _)
      | (with_reducible exact impl_BodySleeps.mono _ _ _ _ _ _ _ _ _ _ _ _ _)
      | (with_reducible exact spec_BodyOk.mono _ _ _ _ _ _ _ _ _ _ _ _ _)
      | (with_reducible exact spec_BodyPush.mono _ _ _ _ _ _ _ _ _ _ _ _ _ _ _)
      | (with_reducible exact spec_DrawBodyPush.mono _ _)
      | (with_reducible exact LeO.refl _)
      | (with_reducible exact LeO.none _)
      | (with_reducible refine LeO.ite ?_ ?_)
      | (with_reducible refine LeO.bind ?_ (fun _ => ?_))
def laws_FnBodyPush.T5 : Bool × List (List Nat × List Nat) := (true, [([], []), ([], []), ([], []), ([1, 2], [1, 2]), ([0, 3], [0, 3]), ([4, 3], [4]), ([5], [5]), ([6, 5, 5], [5, 6]), ([7, 5], [5, 7]), ([5, 8], [5, 8]), ([9, 7], [9]), ([10], [10]), ([10], [10]), ([11, 12, 10], [10, 11, 12]), ([10, 13], [10, 13])])
def laws_FnBodyPush.B5 : List Nat := [0, 0, 0, 6, 15, 31, 63, 127, 255, 511, 1023, 2047, 2047, 8191, 16383]
theorem laws_FnBodyPush.tab5 : rtab .any (opsOf Try.f6 5) = laws_FnBodyPush.T5 := by kernel_rfl
theorem laws_FnBodyPush.bits5 : waitsOk laws_FnBodyPush.T5.2 laws_FnBodyPush.B5 = true := by kernel_rfl
def laws_FnBodyPush.T12 : Bool × List (List Nat × List Nat) := (true, [([], []), ([0], [0]), ([], []), ([1, 2], [1, 2]), ([3], [3]), ([4], [4]), ([4], [4]), ([6, 4], [4, 6]), ([7, 4], [4, 7]), ([4], [4]), ([9, 4], [4, 9]), ([10, 4], [4, 10]), ([8, 11, 4], [4, 8, 11]), ([5, 12, 4, 4], [4, 5, 12]), ([13, 4], [4, 13]), ([4], [4]), ([15, 4], [4, 15]), ([14, 16, 4], [4, 14, 16]), ([4, 17], [4, 17]), ([18, 13, 0, 1, 2, 3, 4, 5, 6, 7, 8, 9, 10, 11, 12, 13, 14, 15, 16, 17, 18], [18])])
def laws_FnBodyPush.B12 : List Nat := [0, 1, 0, 7, 15, 31, 31, 95, 223, 31, 543, 1567, 4063, 8191, 16383, 31, 32799, 131071, 262143, 524287]
theorem laws_FnBodyPush.tab12 : rtab .any (opsOf Try.f6 12) = laws_FnBodyPush.T12 := by kernel_rfl
theorem laws_FnBodyPush.bits12 : waitsOk laws_FnBodyPush.T12.2 laws_FnBodyPush.B12 = true := by kernel_rfl
set_option maxHeartbeats 8000000 in
set_option maxRecDepth 100000 in
theorem laws_FnBodyPush.calls (k : Nat) (A0 : Option Addr) (c0 : Nat) (l0 : List Int) (r : Bool) (w : World) (hr0 : Kd.C (Kd.int .u8) w A0 l0.length l0) (hc0 : l0.length ≤ c0) (h : laws_FnBodyPush.f k l0 = some r) :
    Calls Try.prog 6 #[.slice A0 l0.length c0] w fun e w' => e = .returned (.bool r) ∧ Below w.heap.size w w' := by
  have hu40 := Try.underlying40
  have hu24 := Try.underlying24
  have HR0 := az hr0
  have HC0 := az hc0
  clear hr0 hc0
  have HB := az (Below.refl w.heap.size w)
  have H : (if (l0.length : Int) > 1048576 then (some true) else ((spec_DrawBodyPush.f k l0).bind fun bt714 => ((impl_BodyPush.f k bt714.1 bt714.2.1 bt714.2.2.1 bt714.2.2.2.1 bt714.2.2.2.2.1 bt714.2.2.2.2.2.1 bt714.2.2.2.2.2.2.1 bt714.2.2.2.2.2.2.2.1 bt714.2.2.2.2.2.2.2.2.1 bt714.2.2.2.2.2.2.2.2.2.1 bt714.2.2.2.2.2.2.2.2.2.2.1 bt714.2.2.2.2.2.2.2.2.2.2.2.1 bt714.2.2.2.2.2.2.2.2.2.2.2.2.1 bt714.2.2.2.2.2.2.2.2.2.2.2.2.2).bind fun bt730 => ((spec_BodyPush.f k bt714.1 bt714.2.1 bt714.2.2.1 bt714.2.2.2.1 bt714.2.2.2.2.1 bt714.2.2.2.2.2.1 bt714.2.2.2.2.2.2.1 bt714.2.2.2.2.2.2.2.1 bt714.2.2.2.2.2.2.2.2.1 bt714.2.2.2.2.2.2.2.2.2.1 bt714.2.2.2.2.2.2.2.2.2.2.1 bt714.2.2.2.2.2.2.2.2.2.2.2.1 bt714.2.2.2.2.2.2.2.2.2.2.2.2.1 bt714.2.2.2.2.2.2.2.2.2.2.2.2.2).bind fun bt743 => (if (!(bt730.1 == bt743.1) || ((!(bt730.2.1 == bt743.2.1) || (!(bt730.2.2.1 == bt743.2.2.1) || (!(bt730.2.2.2.1 == bt743.2.2.2.1)))) || ((!(bt730.2.2.2.2.1 == bt743.2.2.2.2.1) || (!(bt730.2.2.2.2.2.1 == bt743.2.2.2.2.2.1))) || ((!(bt730.2.2.2.2.2.2.1 == bt743.2.2.2.2.2.2.1) || (!(bt730.2.2.2.2.2.2.2.1 == bt743.2.2.2.2.2.2.2.1))) || (!(bt730.2.2.2.2.2.2.2.2.1 == bt743.2.2.2.2.2.2.2.2.1) || (!(bt730.2.2.2.2.2.2.2.2.2.1 == bt743.2.2.2.2.2.2.2.2.2.1) || (!(bt730.2.2.2.2.2.2.2.2.2.2.1 == bt743.2.2.2.2.2.2.2.2.2.2.1) || (!(bt730.2.2.2.2.2.2.2.2.2.2.2 == bt743.2.2.2.2.2.2.2.2.2.2.2))))))))) = true then (laws_FnBodyPush.j0 k true bt714.1 bt714.2.1 bt714.2.2.1 bt714.2.2.2.1 bt714.2.2.2.2.1 bt714.2.2.2.2.2.1 bt714.2.2.2.2.2.2.1 bt714.2.2.2.2.2.2.2.1 bt714.2.2.2.2.2.2.2.2.1 bt714.2.2.2.2.2.2.2.2.2.1 bt714.2.2.2.2.2.2.2.2.2.2.1 bt714.2.2.2.2.2.2.2.2.2.2.2.1 bt714.2.2.2.2.2.2.2.2.2.2.2.2.1 bt714.2.2.2.2.2.2.2.2.2.2.2.2.2 bt730.1 bt730.2.1 bt730.2.2.1 bt730.2.2.2.1 bt730.2.2.2.2.1 bt730.2.2.2.2.2.1 bt730.2.2.2.2.2.2.1 bt730.2.2.2.2.2.2.2.1 bt730.2.2.2.2.2.2.2.2.1 bt730.2.2.2.2.2.2.2.2.2.1 bt730.2.2.2.2.2.2.2.2.2.2.1 bt730.2.2.2.2.2.2.2.2.2.2.2) else ((spec_BodyOk.f k bt714.1 bt714.2.1 bt714.2.2.1 bt714.2.2.2.1 bt714.2.2.2.2.1 bt714.2.2.2.2.2.1 bt714.2.2.2.2.2.2.1 bt714.2.2.2.2.2.2.2.1 bt714.2.2.2.2.2.2.2.2.1 bt714.2.2.2.2.2.2.2.2.2.1 bt714.2.2.2.2.2.2.2.2.2.2.1 bt714.2.2.2.2.2.2.2.2.2.2.2.1).bind fun t755 => (if t755 = true then (laws_FnBodyPush.j0 k (bt730.1 == 0 && ((bt730.2.1 == 0 && (bt730.2.2.1 == 0 && (bt730.2.2.2.1 == 0))) && ((bt730.2.2.2.2.1 == 0 && (bt730.2.2.2.2.2.1 == 0)) && ((bt730.2.2.2.2.2.2.1 == 0 && (bt730.2.2.2.2.2.2.2.1 == 0)) && (bt730.2.2.2.2.2.2.2.2.1 == 0 && (bt730.2.2.2.2.2.2.2.2.2.1 == 0 && (bt730.2.2.2.2.2.2.2.2.2.2.1 == 0 && (bt730.2.2.2.2.2.2.2.2.2.2.2 == 0)))))))) bt714.1 bt714.2.1 bt714.2.2.1 bt714.2.2.2.1 bt714.2.2.2.2.1 bt714.2.2.2.2.2.1 bt714.2.2.2.2.2.2.1 bt714.2.2.2.2.2.2.2.1 bt714.2.2.2.2.2.2.2.2.1 bt714.2.2.2.2.2.2.2.2.2.1 bt714.2.2.2.2.2.2.2.2.2.2.1 bt714.2.2.2.2.2.2.2.2.2.2.2.1 bt714.2.2.2.2.2.2.2.2.2.2.2.2.1 bt714.2.2.2.2.2.2.2.2.2.2.2.2.2 bt730.1 bt730.2.1 bt730.2.2.1 bt730.2.2.2.1 bt730.2.2.2.2.1 bt730.2.2.2.2.2.1 bt730.2.2.2.2.2.2.1 bt730.2.2.2.2.2.2.2.1 bt730.2.2.2.2.2.2.2.2.1 bt730.2.2.2.2.2.2.2.2.2.1 bt730.2.2.2.2.2.2.2.2.2.2.1 bt730.2.2.2.2.2.2.2.2.2.2.2) else (laws_FnBodyPush.j0 k true bt714.1 bt714.2.1 bt714.2.2.1 bt714.2.2.2.1 bt714.2.2.2.2.1 bt714.2.2.2.2.2.1 bt714.2.2.2.2.2.2.1 bt714.2.2.2.2.2.2.2.1 bt714.2.2.2.2.2.2.2.2.1 bt714.2.2.2.2.2.2.2.2.2.1 bt714.2.2.2.2.2.2.2.2.2.2.1 bt714.2.2.2.2.2.2.2.2.2.2.2.1 bt714.2.2.2.2.2.2.2.2.2.2.2.2.1 bt714.2.2.2.2.2.2.2.2.2.2.2.2.2 bt730.1 bt730.2.1 bt730.2.2.1 bt730.2.2.2.1 bt730.2.2.2.2.1 bt730.2.2.2.2.2.1 bt730.2.2.2.2.2.2.1 bt730.2.2.2.2.2.2.2.1 bt730.2.2.2.2.2.2.2.2.1 bt730.2.2.2.2.2.2.2.2.2.1 bt730.2.2.2.2.2.2.2.2.2.2.1 bt730.2.2.2.2.2.2.2.2.2.2.2)))))))) = some r := h
  clear h
  by_cases c2 : (l0.length : Int) > 1048576
  · rw [if_pos c2] at H
    have c2b0 : decide (1048576 < (l0.length : Int)) = true := decide_eq_true c2
    have c2b1 : decide (1048576 < l0.length) = true := decide_eq_true (by omega)
    clear c2
    obtain rfl := Option.some.inj H
    go_enter Try.func6, Try.ntmps6
    go_wp2
    go_ret
    exact ⟨qE, qL HB⟩
  rw [if_neg c2] at H
  have c2b0 : decide (1048576 < (l0.length : Int)) = false := decide_eq_false c2
  have c2b1 : decide (1048576 < l0.length) = false := decide_eq_false (by omega)
  clear c2
  replace H := qH H
  obtain ⟨⟨t714, t715, t716, t717, t718, t719, t720, t721, t722, t723, t724, t725, t726, t727⟩, A3, H⟩ := H
  try dsimp only at H
  replace H := qH H
  obtain ⟨⟨t730, t731, t732, t733, t734, t735, t736, t737, t738, t739, t740, t741⟩, A4, H⟩ := H
  try dsimp only at H
  have HC5 := az H
  clear H
  go_enter Try.func6, Try.ntmps6
  go_upto_region 5 with (first | ((with_reducible refine gate_callee (f := 25) rfl ?_); refine gl (some 12) Try.func25 #[.slice A0 l0.length c0] ?_; (with_reducible refine (spec_DrawBodyPush.calls k _ _ l0 t714 t715 t716 t717 t718 t719 t720 t721 t722 t723 t724 t725 t726 t727 _ ?side1 ?side2 A3.out).mono ?_); (case side1 => repeat (first | exact HR0.out | (with_reducible refine Kd.C_alloc ?_ _) | (with_reducible refine Kd.C_drewN ?_ _) | (with_reducible refine Kd.C_drew ?_))); (case side2 => exact HC0.out); rintro e w6 ⟨rfl, hb⟩; refine ⟨_, rfl, ?_⟩; replace HB := bS HB hb; clear hb) | ((with_reducible refine gate_dst (N := 3) rfl ?_); refine bx (N := 3) (cs := #[.int .i64 0, .int .i64 0, .int .i64 0, .int .i64 0, .int .i64 0, .int .i64 0, .int .i64 0, .int .i64 0, .int .i64 0, .int .i64 0, .int .i64 0, .int .i64 0]) (t := 40) ?_; intro gb728 hg w7 hbox hb; have BK728 := az hbox; have GW728 := az ((gE hg (qL HB) : w.heap.size ≤ gb728)); have GE728 := GW728; replace HB := bS HB hb; clear hb hbox hg) | ((with_reducible refine gate_dst (N := 4) rfl ?_); refine bx (N := 4) (cs := #[.int .i64 0, .int .i64 0]) (t := 24) ?_; intro gb729 hg w8 hbox hb; have BK729 := az hbox; have GW729 := az ((gE hg (qL HB) : w.heap.size ≤ gb729)); have GE729 := GW729; obtain ⟨NB728_729, NB729_728⟩ := nPB BK728 hg; replace BK728 := kBB BK728 hb; replace HB := bS HB hb; clear hb hbox hg; have hnb9 := NB728_729.out; have hnc9 := NB729_728.out; obtain ⟨hcz10_0, hcz10_1, hcz10_2, hcz10_3, hcz10_4, hcz10_5, hcz10_6, hcz10_7, hcz10_8, hcz10_9, hcz10_10, hcz10_11⟩ := cz12 BK728.out; obtain ⟨hfz10_0, hfz10_1, hfz10_2, hfz10_3, hfz10_4, hfz10_5, hfz10_6, hfz10_7, hfz10_8, hfz10_9, hfz10_10, hfz10_11⟩ := fz12 BK728.out; obtain ⟨hcz11_0, hcz11_1⟩ := cz2 BK729.out; have hfz11_0 := blk_frozen BK729.out 0; have hfz11_1 := blk_frozen BK729.out 1) | ((with_reducible refine gate_callee (f := 21) rfl ?_); refine gl (some 17) Try.func21 #[.agg #[.int .i64 t714, .int .i64 t715, .int .i64 t716, .int .i64 t717, .int .i64 t718, .int .i64 t719, .int .i64 t720, .int .i64 t721, .int .i64 t722, .int .i64 t723, .int .i64 t724, .int .i64 t725], .agg #[.int .i64 t726, .int .i64 t727]] ?_; (with_reducible refine (impl_BodyPush.calls k t714 t715 t716 t717 t718 t719 t720 t721 t722 t723 t724 t725 t726 t727 t730 t731 t732 t733 t734 t735 t736 t737 t738 t739 t740 t741 _ A4.out).mono ?_); rintro e w12 ⟨rfl, hb⟩; refine ⟨_, rfl, ?_⟩; replace BK728 := kBP (o' := .cells #[.int .i64 t714, .int .i64 t715, .int .i64 t716, .int .i64 t717, .int .i64 t718, .int .i64 t719, .int .i64 t720, .int .i64 t721, .int .i64 t722, .int .i64 t723, .int .i64 t724, .int .i64 t725] 40 (0, 0)) BK728 hb; replace BK729 := kBP (o' := .cells #[.int .i64 t726, .int .i64 t727] 24 (0, 0)) BK729 hb; replace HB := bS HB hb; clear hb) | ((with_reducible refine gate_dst (N := 5) rfl ?_); refine bx (N := 5) (cs := #[.int .i64 0, .int .i64 0, .int .i64 0, .int .i64 0, .int .i64 0, .int .i64 0, .int .i64 0, .int .i64 0, .int .i64 0, .int .i64 0, .int .i64 0, .int .i64 0]) (t := 40) ?_; intro gb742 hg w13 hbox hb; have BK742 := az hbox; have GW742 := az ((gE hg (qL HB) : w.heap.size ≤ gb742)); have GE742 := GW742; obtain ⟨NB728_742, NB742_728⟩ := nPB BK728 hg; obtain ⟨NB729_742, NB742_729⟩ := nPB BK729 hg; replace BK728 := kBB BK728 hb; replace BK729 := kBB BK729 hb; replace HB := bS HB hb; clear hb hbox hg; have hnb14 := NB742_728.out; have hnc14 := NB728_742.out; have hnb15 := NB742_729.out; have hnc15 := NB729_742.out; obtain ⟨hcz16_0, hcz16_1, hcz16_2, hcz16_3, hcz16_4, hcz16_5, hcz16_6, hcz16_7, hcz16_8, hcz16_9, hcz16_10, hcz16_11⟩ := cz12 BK742.out; obtain ⟨hfz16_0, hfz16_1, hfz16_2, hfz16_3, hfz16_4, hfz16_5, hfz16_6, hfz16_7, hfz16_8, hfz16_9, hfz16_10, hfz16_11⟩ := fz12 BK742.out))
  (try simp only [Act.put, List.setIfInBounds_toArray, List.set_cons_zero, List.set_cons_succ])
  go_cut [32] (fun v32 wc => ∃ (kq : Nat) (x32_4 : Bool), v32 = .bool x32_4 ∧ Aside0 (laws_FnBodyPush.j0 kq x32_4 t714 t715 t716 t717 t718 t719 t720 t721 t722 t723 t724 t725 t726 t727 t730 t731 t732 t733 t734 t735 t736 t737 t738 t739 t740 t741 = some r) ∧ Aside0 (kq ≤ k) ∧ Aside0 (wc.heap[gb728]? = some (.cells #[.int .i64 t714, .int .i64 t715, .int .i64 t716, .int .i64 t717, .int .i64 t718, .int .i64 t719, .int .i64 t720, .int .i64 t721, .int .i64 t722, .int .i64 t723, .int .i64 t724, .int .i64 t725] 40 (0, 0))) ∧ Aside0 (wc.heap[gb729]? = some (.cells #[.int .i64 t726, .int .i64 t727] 24 (0, 0))) ∧ Aside0 (wc.heap[gb742]? = some (.cells #[.int .i64 t730, .int .i64 t731, .int .i64 t732, .int .i64 t733, .int .i64 t734, .int .i64 t735, .int .i64 t736, .int .i64 t737, .int .i64 t738, .int .i64 t739, .int .i64 t740, .int .i64 t741] 40 (0, 0))) ∧ Aside0 (Below w.heap.size w wc))
  case first =>
    have H := HC5.out
    clear HC5
    replace H := qH H
    obtain ⟨⟨t743, t744, t745, t746, t747, t748, t749, t750, t751, t752, t753, t754⟩, A17, H⟩ := H
    try dsimp only at H
    by_cases c18 : (!(t730 == t743) || ((!(t731 == t744) || (!(t732 == t745) || (!(t733 == t746)))) || ((!(t734 == t747) || (!(t735 == t748))) || ((!(t736 == t749) || (!(t737 == t750))) || (!(t738 == t751) || (!(t739 == t752) || (!(t740 == t753) || (!(t741 == t754))))))))) = true
    · rw [if_pos c18] at H
      have c18b0 : (!(t730 == t743) || ((!(t731 == t744) || (!(t732 == t745) || (!(t733 == t746)))) || ((!(t734 == t747) || (!(t735 == t748))) || ((!(t736 == t749) || (!(t737 == t750))) || (!(t738 == t751) || (!(t739 == t752) || (!(t740 == t753) || (!(t741 == t754))))))))) = true := c18
      clear c18
      (first | rw [c18b0] | (simp only [i64_w, i32_w]; rw [c18b0]) | skip)
      have H' := az H
      clear H
      try go_wp2
      obtain ⟨w19, hw_⟩ : ∃ x, x = ((((((((((((w13.setCell ⟨gb742, 0, none⟩ (.int .i64 t730)).setCell ⟨gb742, 1, none⟩ (.int .i64 t731)).setCell ⟨gb742, 2, none⟩ (.int .i64 t732)).setCell ⟨gb742, 3, none⟩ (.int .i64 t733)).setCell ⟨gb742, 4, none⟩ (.int .i64 t734)).setCell ⟨gb742, 5, none⟩ (.int .i64 t735)).setCell ⟨gb742, 6, none⟩ (.int .i64 t736)).setCell ⟨gb742, 7, none⟩ (.int .i64 t737)).setCell ⟨gb742, 8, none⟩ (.int .i64 t738)).setCell ⟨gb742, 9, none⟩ (.int .i64 t739)).setCell ⟨gb742, 10, none⟩ (.int .i64 t740)).setCell ⟨gb742, 11, none⟩ (.int .i64 t741)) := ⟨_, rfl⟩
      replace BK728 : Aside0 (w19.heap[gb728]? = some (.cells #[.int .i64 t714, .int .i64 t715, .int .i64 t716, .int .i64 t717, .int .i64 t718, .int .i64 t719, .int .i64 t720, .int .i64 t721, .int .i64 t722, .int .i64 t723, .int .i64 t724, .int .i64 t725] 40 (0, 0))) := ⟨by rw [hw_]; exact qF BK728⟩
      replace BK729 : Aside0 (w19.heap[gb729]? = some (.cells #[.int .i64 t726, .int .i64 t727] 24 (0, 0))) := ⟨by rw [hw_]; exact qF BK729⟩
      replace BK742 : Aside0 (w19.heap[gb742]? = some (.cells #[.int .i64 t730, .int .i64 t731, .int .i64 t732, .int .i64 t733, .int .i64 t734, .int .i64 t735, .int .i64 t736, .int .i64 t737, .int .i64 t738, .int .i64 t739, .int .i64 t740, .int .i64 t741] 40 (0, 0))) := ⟨by rw [hw_]; exact qP BK742⟩
      replace HB : Aside0 (Below w.heap.size w w19) := ⟨by rw [hw_]; exact qL HB⟩
      rw [← hw_]
      clear hw_
      replace BK728 := az (blk_drew BK728.out)
      replace BK729 := az (blk_drew BK729.out)
      replace BK742 := az (blk_drew BK742.out)
      replace HB := az (below_drew1 HB.out)
      refine start_ (n := 15) (S := fun w' => w'.cell? ⟨gb742, 0, none⟩ = some (.int .i64 t730) ∧ w'.cell? ⟨gb742, 1, none⟩ = some (.int .i64 t731) ∧ w'.cell? ⟨gb742, 2, none⟩ = some (.int .i64 t732) ∧ w'.cell? ⟨gb742, 3, none⟩ = some (.int .i64 t733) ∧ w'.cell? ⟨gb742, 4, none⟩ = some (.int .i64 t734) ∧ w'.cell? ⟨gb742, 5, none⟩ = some (.int .i64 t735) ∧ w'.cell? ⟨gb742, 6, none⟩ = some (.int .i64 t736) ∧ w'.cell? ⟨gb742, 7, none⟩ = some (.int .i64 t737) ∧ w'.cell? ⟨gb742, 8, none⟩ = some (.int .i64 t738) ∧ w'.cell? ⟨gb742, 9, none⟩ = some (.int .i64 t739) ∧ w'.cell? ⟨gb742, 10, none⟩ = some (.int .i64 t740) ∧ w'.cell? ⟨gb742, 11, none⟩ = some (.int .i64 t741) ∧ w'.cell? ⟨gb728, 0, none⟩ = some (.int .i64 t714) ∧ w'.cell? ⟨gb728, 1, none⟩ = some (.int .i64 t715) ∧ w'.cell? ⟨gb728, 2, none⟩ = some (.int .i64 t716) ∧ w'.cell? ⟨gb728, 3, none⟩ = some (.int .i64 t717) ∧ w'.cell? ⟨gb728, 4, none⟩ = some (.int .i64 t718) ∧ w'.cell? ⟨gb728, 5, none⟩ = some (.int .i64 t719) ∧ w'.cell? ⟨gb728, 6, none⟩ = some (.int .i64 t720) ∧ w'.cell? ⟨gb728, 7, none⟩ = some (.int .i64 t721) ∧ w'.cell? ⟨gb728, 8, none⟩ = some (.int .i64 t722) ∧ w'.cell? ⟨gb728, 9, none⟩ = some (.int .i64 t723) ∧ w'.cell? ⟨gb728, 10, none⟩ = some (.int .i64 t724) ∧ w'.cell? ⟨gb728, 11, none⟩ = some (.int .i64 t725) ∧ w'.cell? ⟨gb729, 0, none⟩ = some (.int .i64 t726) ∧ w'.cell? ⟨gb729, 1, none⟩ = some (.int .i64 t727)) (ds := []) #[false, false, false, false, false, false, false, false, false, false, false, false, false, false, false] (by kernel_rfl) rfl rfl ⟨bc BK742 0, bc BK742 1, bc BK742 2, bc BK742 3, bc BK742 4, bc BK742 5, bc BK742 6, bc BK742 7, bc BK742 8, bc BK742 9, bc BK742 10, bc BK742 11, bc BK728 0, bc BK728 1, bc BK728 2, bc BK728 3, bc BK728 4, bc BK728 5, bc BK728 6, bc BK728 7, bc BK728 8, bc BK728 9, bc BK728 10, bc BK728 11, bc BK729 0, bc BK729 1⟩ (fun hHeld => ?_); refine with_tabW laws_FnBodyPush.tab5 laws_FnBodyPush.bits5 (fun HT_ HW_ => ?_)
      generalize w19.drew = w20 at BK728 BK729 BK742 HB hHeld ⊢
      refine tk26 0 (some 18) (fl 15 1) HT_ HW_ hHeld ?_
      refine tk26 1 (some 19) (fl 15 3) HT_ HW_ hHeld ?_
      refine tk26 2 (some 20) (fl 15 7) HT_ HW_ hHeld ?_
      refine on 3 (some 21) (fl 15 15) HT_ (fun K hK => ?_)
      refine go1 Try.func18 #[.agg #[.int .i64 t714, .int .i64 t715, .int .i64 t716, .int .i64 t717, .int .i64 t718, .int .i64 t719, .int .i64 t720, .int .i64 t721, .int .i64 t722, .int .i64 t723, .int .i64 t724, .int .i64 t725], .agg #[.int .i64 t726, .int .i64 t727]] ?_
      with_reducible refine (spec_BodyPush.calls k t714 t715 t716 t717 t718 t719 t720 t721 t722 t723 t724 t725 t726 t727 t743 t744 t745 t746 t747 t748 t749 t750 t751 t752 t753 t754 _ A17.out).mono ?_
      rintro e w21 ⟨rfl, hb⟩
      refine ⟨_, rfl, ?_⟩
      replace BK728 := kBB BK728 hb
      replace BK729 := kBB BK729 hb
      replace BK742 := kBB BK742 hb
      replace HB := bS HB hb
      clear hb
      refine hK.out _ _ ⟨bc BK742 0, bc BK742 1, bc BK742 2, bc BK742 3, bc BK742 4, bc BK742 5, bc BK742 6, bc BK742 7, bc BK742 8, bc BK742 9, bc BK742 10, bc BK742 11, bc BK728 0, bc BK728 1, bc BK728 2, bc BK728 3, bc BK728 4, bc BK728 5, bc BK728 6, bc BK728 7, bc BK728 8, bc BK728 9, bc BK728 10, bc BK728 11, bc BK729 0, bc BK729 1⟩ (fun hHeld => ?_)
      clear hK K
      refine nm (some 21) ?_
      refine pu 4 (some 22) (fl 15 31) HT_ ?_
      refine pu 5 (some 23) (fl 15 63) HT_ ?_
      refine pv 6 (some 24) (fl 15 127) HT_ ?_
      refine pv 7 (some 25) (fl 15 255) HT_ ?_
      refine pv 8 (some 26) (fl 15 511) HT_ ?_
      refine pu 9 (some 27) (fl 15 1023) HT_ ?_
      refine pu 10 (some 28) (fl 15 2047) HT_ ?_
      refine pv 11 (some 29) (fl 15 4095) HT_ ?_
      refine pv 12 (some 30) (fl 15 8191) HT_ ?_
      refine pv 13 (some 31) (fl 15 16383) HT_ ?_
      refine pu 14 (some 32) (fl 15 32767) HT_ ?_
      refine done_ (done_of HT_.out (by kernel_rfl)) ?_
      try go_wp2
      go_meet
      case rel => exact ⟨_, (true), (by first | rfl | (simp; done) | (simp [*]; done)), H', ⟨by first | omega | exact Nat.le_refl _⟩, ⟨qF BK728⟩, ⟨qF BK729⟩, ⟨qF BK742⟩, ⟨qL HB⟩⟩
    rw [if_neg c18] at H
    have c18b0 : (!(t730 == t743) || ((!(t731 == t744) || (!(t732 == t745) || (!(t733 == t746)))) || ((!(t734 == t747) || (!(t735 == t748))) || ((!(t736 == t749) || (!(t737 == t750))) || (!(t738 == t751) || (!(t739 == t752) || (!(t740 == t753) || (!(t741 == t754))))))))) = false := by simpa using c18
    clear c18
    (first | rw [c18b0] | (simp only [i64_w, i32_w]; rw [c18b0]) | skip)
    replace H := qH H
    obtain ⟨t755, A22, H⟩ := H
    try dsimp only at H
    by_cases c23 : t755 = true
    · subst c23
      replace H := qT H
      have H' := az H
      clear H
      try go_wp2
      obtain ⟨w24, hw_⟩ : ∃ x, x = ((((((((((((w13.setCell ⟨gb742, 0, none⟩ (.int .i64 t730)).setCell ⟨gb742, 1, none⟩ (.int .i64 t731)).setCell ⟨gb742, 2, none⟩ (.int .i64 t732)).setCell ⟨gb742, 3, none⟩ (.int .i64 t733)).setCell ⟨gb742, 4, none⟩ (.int .i64 t734)).setCell ⟨gb742, 5, none⟩ (.int .i64 t735)).setCell ⟨gb742, 6, none⟩ (.int .i64 t736)).setCell ⟨gb742, 7, none⟩ (.int .i64 t737)).setCell ⟨gb742, 8, none⟩ (.int .i64 t738)).setCell ⟨gb742, 9, none⟩ (.int .i64 t739)).setCell ⟨gb742, 10, none⟩ (.int .i64 t740)).setCell ⟨gb742, 11, none⟩ (.int .i64 t741)) := ⟨_, rfl⟩
      replace BK728 : Aside0 (w24.heap[gb728]? = some (.cells #[.int .i64 t714, .int .i64 t715, .int .i64 t716, .int .i64 t717, .int .i64 t718, .int .i64 t719, .int .i64 t720, .int .i64 t721, .int .i64 t722, .int .i64 t723, .int .i64 t724, .int .i64 t725] 40 (0, 0))) := ⟨by rw [hw_]; exact qF BK728⟩
      replace BK729 : Aside0 (w24.heap[gb729]? = some (.cells #[.int .i64 t726, .int .i64 t727] 24 (0, 0))) := ⟨by rw [hw_]; exact qF BK729⟩
      replace BK742 : Aside0 (w24.heap[gb742]? = some (.cells #[.int .i64 t730, .int .i64 t731, .int .i64 t732, .int .i64 t733, .int .i64 t734, .int .i64 t735, .int .i64 t736, .int .i64 t737, .int .i64 t738, .int .i64 t739, .int .i64 t740, .int .i64 t741] 40 (0, 0))) := ⟨by rw [hw_]; exact qP BK742⟩
      replace HB : Aside0 (Below w.heap.size w w24) := ⟨by rw [hw_]; exact qL HB⟩
      rw [← hw_]
      clear hw_
      replace BK728 := az (blk_drew BK728.out)
      replace BK729 := az (blk_drew BK729.out)
      replace BK742 := az (blk_drew BK742.out)
      replace HB := az (below_drew1 HB.out)
      refine start_ (n := 15) (S := fun w' => w'.cell? ⟨gb742, 0, none⟩ = some (.int .i64 t730) ∧ w'.cell? ⟨gb742, 1, none⟩ = some (.int .i64 t731) ∧ w'.cell? ⟨gb742, 2, none⟩ = some (.int .i64 t732) ∧ w'.cell? ⟨gb742, 3, none⟩ = some (.int .i64 t733) ∧ w'.cell? ⟨gb742, 4, none⟩ = some (.int .i64 t734) ∧ w'.cell? ⟨gb742, 5, none⟩ = some (.int .i64 t735) ∧ w'.cell? ⟨gb742, 6, none⟩ = some (.int .i64 t736) ∧ w'.cell? ⟨gb742, 7, none⟩ = some (.int .i64 t737) ∧ w'.cell? ⟨gb742, 8, none⟩ = some (.int .i64 t738) ∧ w'.cell? ⟨gb742, 9, none⟩ = some (.int .i64 t739) ∧ w'.cell? ⟨gb742, 10, none⟩ = some (.int .i64 t740) ∧ w'.cell? ⟨gb742, 11, none⟩ = some (.int .i64 t741) ∧ w'.cell? ⟨gb728, 0, none⟩ = some (.int .i64 t714) ∧ w'.cell? ⟨gb728, 1, none⟩ = some (.int .i64 t715) ∧ w'.cell? ⟨gb728, 2, none⟩ = some (.int .i64 t716) ∧ w'.cell? ⟨gb728, 3, none⟩ = some (.int .i64 t717) ∧ w'.cell? ⟨gb728, 4, none⟩ = some (.int .i64 t718) ∧ w'.cell? ⟨gb728, 5, none⟩ = some (.int .i64 t719) ∧ w'.cell? ⟨gb728, 6, none⟩ = some (.int .i64 t720) ∧ w'.cell? ⟨gb728, 7, none⟩ = some (.int .i64 t721) ∧ w'.cell? ⟨gb728, 8, none⟩ = some (.int .i64 t722) ∧ w'.cell? ⟨gb728, 9, none⟩ = some (.int .i64 t723) ∧ w'.cell? ⟨gb728, 10, none⟩ = some (.int .i64 t724) ∧ w'.cell? ⟨gb728, 11, none⟩ = some (.int .i64 t725) ∧ w'.cell? ⟨gb729, 0, none⟩ = some (.int .i64 t726) ∧ w'.cell? ⟨gb729, 1, none⟩ = some (.int .i64 t727)) (ds := []) #[false, false, false, false, false, false, false, false, false, false, false, false, false, false, false] (by kernel_rfl) rfl rfl ⟨bc BK742 0, bc BK742 1, bc BK742 2, bc BK742 3, bc BK742 4, bc BK742 5, bc BK742 6, bc BK742 7, bc BK742 8, bc BK742 9, bc BK742 10, bc BK742 11, bc BK728 0, bc BK728 1, bc BK728 2, bc BK728 3, bc BK728 4, bc BK728 5, bc BK728 6, bc BK728 7, bc BK728 8, bc BK728 9, bc BK728 10, bc BK728 11, bc BK729 0, bc BK729 1⟩ (fun hHeld => ?_); refine with_tabW laws_FnBodyPush.tab5 laws_FnBodyPush.bits5 (fun HT_ HW_ => ?_)
      generalize w24.drew = w25 at BK728 BK729 BK742 HB hHeld ⊢
      refine tk26 0 (some 18) (fl 15 1) HT_ HW_ hHeld ?_
      refine tk26 1 (some 19) (fl 15 3) HT_ HW_ hHeld ?_
      refine tk26 2 (some 20) (fl 15 7) HT_ HW_ hHeld ?_
      refine on 3 (some 21) (fl 15 15) HT_ (fun K hK => ?_)
      refine go1 Try.func18 #[.agg #[.int .i64 t714, .int .i64 t715, .int .i64 t716, .int .i64 t717, .int .i64 t718, .int .i64 t719, .int .i64 t720, .int .i64 t721, .int .i64 t722, .int .i64 t723, .int .i64 t724, .int .i64 t725], .agg #[.int .i64 t726, .int .i64 t727]] ?_
      with_reducible refine (spec_BodyPush.calls k t714 t715 t716 t717 t718 t719 t720 t721 t722 t723 t724 t725 t726 t727 t743 t744 t745 t746 t747 t748 t749 t750 t751 t752 t753 t754 _ A17.out).mono ?_
      rintro e w26 ⟨rfl, hb⟩
      refine ⟨_, rfl, ?_⟩
      replace BK728 := kBB BK728 hb
      replace BK729 := kBB BK729 hb
      replace BK742 := kBB BK742 hb
      replace HB := bS HB hb
      clear hb
      refine hK.out _ _ ⟨bc BK742 0, bc BK742 1, bc BK742 2, bc BK742 3, bc BK742 4, bc BK742 5, bc BK742 6, bc BK742 7, bc BK742 8, bc BK742 9, bc BK742 10, bc BK742 11, bc BK728 0, bc BK728 1, bc BK728 2, bc BK728 3, bc BK728 4, bc BK728 5, bc BK728 6, bc BK728 7, bc BK728 8, bc BK728 9, bc BK728 10, bc BK728 11, bc BK729 0, bc BK729 1⟩ (fun hHeld => ?_)
      clear hK K
      refine nm (some 21) ?_
      refine pu 4 (some 22) (fl 15 31) HT_ ?_
      refine pu 5 (some 23) (fl 15 63) HT_ ?_
      refine tk26 6 (some 24) (fl 15 127) HT_ HW_ hHeld ?_
      refine on 7 (some 25) (fl 15 255) HT_ (fun K hK => ?_)
      refine go1 Try.func26 #[.agg #[.int .i64 t714, .int .i64 t715, .int .i64 t716, .int .i64 t717, .int .i64 t718, .int .i64 t719, .int .i64 t720, .int .i64 t721, .int .i64 t722, .int .i64 t723, .int .i64 t724, .int .i64 t725]] ?_
      with_reducible refine (spec_BodyOk.calls k t714 t715 t716 t717 t718 t719 t720 t721 t722 t723 t724 t725 true _ A22.out).mono ?_
      rintro e w27 ⟨rfl, hb⟩
      refine ⟨_, rfl, ?_⟩
      replace BK728 := kBB BK728 hb
      replace BK729 := kBB BK729 hb
      replace BK742 := kBB BK742 hb
      replace HB := bS HB hb
      clear hb
      refine hK.out _ _ ⟨bc BK742 0, bc BK742 1, bc BK742 2, bc BK742 3, bc BK742 4, bc BK742 5, bc BK742 6, bc BK742 7, bc BK742 8, bc BK742 9, bc BK742 10, bc BK742 11, bc BK728 0, bc BK728 1, bc BK728 2, bc BK728 3, bc BK728 4, bc BK728 5, bc BK728 6, bc BK728 7, bc BK728 8, bc BK728 9, bc BK728 10, bc BK728 11, bc BK729 0, bc BK729 1⟩ (fun hHeld => ?_)
      clear hK K
      refine nm (some 25) ?_
      refine pu 8 (some 26) (fl 15 511) HT_ ?_
      refine pu 9 (some 27) (fl 15 1023) HT_ ?_
      refine pu 10 (some 28) (fl 15 2047) HT_ ?_
      refine pu 12 (some 30) (fl 15 6143) HT_ ?_
      refine tk26 11 (some 29) (fl 15 8191) HT_ HW_ hHeld ?_
      refine pu 13 (some 31) (fl 15 16383) HT_ ?_
      refine pu 14 (some 32) (fl 15 32767) HT_ ?_
      refine done_ (done_of HT_.out (by kernel_rfl)) ?_
      try go_wp2
      go_meet
      case rel => exact ⟨_, ((t730 == 0 && ((t731 == 0 && (t732 == 0 && (t733 == 0))) && ((t734 == 0 && (t735 == 0)) && ((t736 == 0 && (t737 == 0)) && (t738 == 0 && (t739 == 0 && (t740 == 0 && (t741 == 0))))))))), (by first | rfl | (simp; done) | (simp [*]; done)), H', ⟨by first | omega | exact Nat.le_refl _⟩, ⟨qF BK728⟩, ⟨qF BK729⟩, ⟨qF BK742⟩, ⟨qL HB⟩⟩
    replace c23 := Bool.eq_false_iff.mpr c23
    subst c23
    replace H := qU H
    have H' := az H
    clear H
    try go_wp2
    obtain ⟨w28, hw_⟩ : ∃ x, x = ((((((((((((w13.setCell ⟨gb742, 0, none⟩ (.int .i64 t730)).setCell ⟨gb742, 1, none⟩ (.int .i64 t731)).setCell ⟨gb742, 2, none⟩ (.int .i64 t732)).setCell ⟨gb742, 3, none⟩ (.int .i64 t733)).setCell ⟨gb742, 4, none⟩ (.int .i64 t734)).setCell ⟨gb742, 5, none⟩ (.int .i64 t735)).setCell ⟨gb742, 6, none⟩ (.int .i64 t736)).setCell ⟨gb742, 7, none⟩ (.int .i64 t737)).setCell ⟨gb742, 8, none⟩ (.int .i64 t738)).setCell ⟨gb742, 9, none⟩ (.int .i64 t739)).setCell ⟨gb742, 10, none⟩ (.int .i64 t740)).setCell ⟨gb742, 11, none⟩ (.int .i64 t741)) := ⟨_, rfl⟩
    replace BK728 : Aside0 (w28.heap[gb728]? = some (.cells #[.int .i64 t714, .int .i64 t715, .int .i64 t716, .int .i64 t717, .int .i64 t718, .int .i64 t719, .int .i64 t720, .int .i64 t721, .int .i64 t722, .int .i64 t723, .int .i64 t724, .int .i64 t725] 40 (0, 0))) := ⟨by rw [hw_]; exact qF BK728⟩
    replace BK729 : Aside0 (w28.heap[gb729]? = some (.cells #[.int .i64 t726, .int .i64 t727] 24 (0, 0))) := ⟨by rw [hw_]; exact qF BK729⟩
    replace BK742 : Aside0 (w28.heap[gb742]? = some (.cells #[.int .i64 t730, .int .i64 t731, .int .i64 t732, .int .i64 t733, .int .i64 t734, .int .i64 t735, .int .i64 t736, .int .i64 t737, .int .i64 t738, .int .i64 t739, .int .i64 t740, .int .i64 t741] 40 (0, 0))) := ⟨by rw [hw_]; exact qP BK742⟩
    replace HB : Aside0 (Below w.heap.size w w28) := ⟨by rw [hw_]; exact qL HB⟩
    rw [← hw_]
    clear hw_
    replace BK728 := az (blk_drew BK728.out)
    replace BK729 := az (blk_drew BK729.out)
    replace BK742 := az (blk_drew BK742.out)
    replace HB := az (below_drew1 HB.out)
    refine start_ (n := 15) (S := fun w' => w'.cell? ⟨gb742, 0, none⟩ = some (.int .i64 t730) ∧ w'.cell? ⟨gb742, 1, none⟩ = some (.int .i64 t731) ∧ w'.cell? ⟨gb742, 2, none⟩ = some (.int .i64 t732) ∧ w'.cell? ⟨gb742, 3, none⟩ = some (.int .i64 t733) ∧ w'.cell? ⟨gb742, 4, none⟩ = some (.int .i64 t734) ∧ w'.cell? ⟨gb742, 5, none⟩ = some (.int .i64 t735) ∧ w'.cell? ⟨gb742, 6, none⟩ = some (.int .i64 t736) ∧ w'.cell? ⟨gb742, 7, none⟩ = some (.int .i64 t737) ∧ w'.cell? ⟨gb742, 8, none⟩ = some (.int .i64 t738) ∧ w'.cell? ⟨gb742, 9, none⟩ = some (.int .i64 t739) ∧ w'.cell? ⟨gb742, 10, none⟩ = some (.int .i64 t740) ∧ w'.cell? ⟨gb742, 11, none⟩ = some (.int .i64 t741) ∧ w'.cell? ⟨gb728, 0, none⟩ = some (.int .i64 t714) ∧ w'.cell? ⟨gb728, 1, none⟩ = some (.int .i64 t715) ∧ w'.cell? ⟨gb728, 2, none⟩ = some (.int .i64 t716) ∧ w'.cell? ⟨gb728, 3, none⟩ = some (.int .i64 t717) ∧ w'.cell? ⟨gb728, 4, none⟩ = some (.int .i64 t718) ∧ w'.cell? ⟨gb728, 5, none⟩ = some (.int .i64 t719) ∧ w'.cell? ⟨gb728, 6, none⟩ = some (.int .i64 t720) ∧ w'.cell? ⟨gb728, 7, none⟩ = some (.int .i64 t721) ∧ w'.cell? ⟨gb728, 8, none⟩ = some (.int .i64 t722) ∧ w'.cell? ⟨gb728, 9, none⟩ = some (.int .i64 t723) ∧ w'.cell? ⟨gb728, 10, none⟩ = some (.int .i64 t724) ∧ w'.cell? ⟨gb728, 11, none⟩ = some (.int .i64 t725) ∧ w'.cell? ⟨gb729, 0, none⟩ = some (.int .i64 t726) ∧ w'.cell? ⟨gb729, 1, none⟩ = some (.int .i64 t727)) (ds := []) #[false, false, false, false, false, false, false, false, false, false, false, false, false, false, false] (by kernel_rfl) rfl rfl ⟨bc BK742 0, bc BK742 1, bc BK742 2, bc BK742 3, bc BK742 4, bc BK742 5, bc BK742 6, bc BK742 7, bc BK742 8, bc BK742 9, bc BK742 10, bc BK742 11, bc BK728 0, bc BK728 1, bc BK728 2, bc BK728 3, bc BK728 4, bc BK728 5, bc BK728 6, bc BK728 7, bc BK728 8, bc BK728 9, bc BK728 10, bc BK728 11, bc BK729 0, bc BK729 1⟩ (fun hHeld => ?_); refine with_tabW laws_FnBodyPush.tab5 laws_FnBodyPush.bits5 (fun HT_ HW_ => ?_)
    generalize w28.drew = w29 at BK728 BK729 BK742 HB hHeld ⊢
    refine tk26 0 (some 18) (fl 15 1) HT_ HW_ hHeld ?_
    refine tk26 1 (some 19) (fl 15 3) HT_ HW_ hHeld ?_
    refine tk26 2 (some 20) (fl 15 7) HT_ HW_ hHeld ?_
    refine on 3 (some 21) (fl 15 15) HT_ (fun K hK => ?_)
    refine go1 Try.func18 #[.agg #[.int .i64 t714, .int .i64 t715, .int .i64 t716, .int .i64 t717, .int .i64 t718, .int .i64 t719, .int .i64 t720, .int .i64 t721, .int .i64 t722, .int .i64 t723, .int .i64 t724, .int .i64 t725], .agg #[.int .i64 t726, .int .i64 t727]] ?_
    with_reducible refine (spec_BodyPush.calls k t714 t715 t716 t717 t718 t719 t720 t721 t722 t723 t724 t725 t726 t727 t743 t744 t745 t746 t747 t748 t749 t750 t751 t752 t753 t754 _ A17.out).mono ?_
    rintro e w30 ⟨rfl, hb⟩
    refine ⟨_, rfl, ?_⟩
    replace BK728 := kBB BK728 hb
    replace BK729 := kBB BK729 hb
    replace BK742 := kBB BK742 hb
    replace HB := bS HB hb
    clear hb
    refine hK.out _ _ ⟨bc BK742 0, bc BK742 1, bc BK742 2, bc BK742 3, bc BK742 4, bc BK742 5, bc BK742 6, bc BK742 7, bc BK742 8, bc BK742 9, bc BK742 10, bc BK742 11, bc BK728 0, bc BK728 1, bc BK728 2, bc BK728 3, bc BK728 4, bc BK728 5, bc BK728 6, bc BK728 7, bc BK728 8, bc BK728 9, bc BK728 10, bc BK728 11, bc BK729 0, bc BK729 1⟩ (fun hHeld => ?_)
    clear hK K
    refine nm (some 21) ?_
    refine pu 4 (some 22) (fl 15 31) HT_ ?_
    refine pu 5 (some 23) (fl 15 63) HT_ ?_
    refine tk26 6 (some 24) (fl 15 127) HT_ HW_ hHeld ?_
    refine on 7 (some 25) (fl 15 255) HT_ (fun K hK => ?_)
    refine go1 Try.func26 #[.agg #[.int .i64 t714, .int .i64 t715, .int .i64 t716, .int .i64 t717, .int .i64 t718, .int .i64 t719, .int .i64 t720, .int .i64 t721, .int .i64 t722, .int .i64 t723, .int .i64 t724, .int .i64 t725]] ?_
    with_reducible refine (spec_BodyOk.calls k t714 t715 t716 t717 t718 t719 t720 t721 t722 t723 t724 t725 false _ A22.out).mono ?_
    rintro e w31 ⟨rfl, hb⟩
    refine ⟨_, rfl, ?_⟩
    replace BK728 := kBB BK728 hb
    replace BK729 := kBB BK729 hb
    replace BK742 := kBB BK742 hb
    replace HB := bS HB hb
    clear hb
    refine hK.out _ _ ⟨bc BK742 0, bc BK742 1, bc BK742 2, bc BK742 3, bc BK742 4, bc BK742 5, bc BK742 6, bc BK742 7, bc BK742 8, bc BK742 9, bc BK742 10, bc BK742 11, bc BK728 0, bc BK728 1, bc BK728 2, bc BK728 3, bc BK728 4, bc BK728 5, bc BK728 6, bc BK728 7, bc BK728 8, bc BK728 9, bc BK728 10, bc BK728 11, bc BK729 0, bc BK729 1⟩ (fun hHeld => ?_)
    clear hK K
    refine nm (some 25) ?_
    refine pu 8 (some 26) (fl 15 511) HT_ ?_
    refine pu 9 (some 27) (fl 15 1023) HT_ ?_
    refine pu 10 (some 28) (fl 15 2047) HT_ ?_
    refine pv 11 (some 29) (fl 15 4095) HT_ ?_
    refine pv 12 (some 30) (fl 15 8191) HT_ ?_
    refine pv 13 (some 31) (fl 15 16383) HT_ ?_
    refine pu 14 (some 32) (fl 15 32767) HT_ ?_
    refine done_ (done_of HT_.out (by kernel_rfl)) ?_
    try go_wp2
    go_meet
    case rel => exact ⟨_, (true), (by first | rfl | (simp; done) | (simp [*]; done)), H', ⟨by first | omega | exact Nat.le_refl _⟩, ⟨qF BK728⟩, ⟨qF BK729⟩, ⟨qF BK742⟩, ⟨qL HB⟩⟩
  case rest =>
    clear HC5
    (try clear c2); (try clear c2b0); (try clear c2b1); (try clear hcz10_0); (try clear hcz10_1); (try clear hcz10_10); (try clear hcz10_11); (try clear hcz10_2); (try clear hcz10_3); (try clear hcz10_4); (try clear hcz10_5); (try clear hcz10_6); (try clear hcz10_7); (try clear hcz10_8); (try clear hcz10_9); (try clear hcz11_0); (try clear hcz11_1); (try clear hcz16_0); (try clear hcz16_1); (try clear hcz16_10); (try clear hcz16_11); (try clear hcz16_2); (try clear hcz16_3); (try clear hcz16_4); (try clear hcz16_5); (try clear hcz16_6); (try clear hcz16_7); (try clear hcz16_8); (try clear hcz16_9); (try clear hfz10_0); (try clear hfz10_1); (try clear hfz10_10); (try clear hfz10_11); (try clear hfz10_2); (try clear hfz10_3); (try clear hfz10_4); (try clear hfz10_5); (try clear hfz10_6); (try clear hfz10_7); (try clear hfz10_8); (try clear hfz10_9); (try clear hfz11_0); (try clear hfz11_1); (try clear hfz16_0); (try clear hfz16_1); (try clear hfz16_10); (try clear hfz16_11); (try clear hfz16_2); (try clear hfz16_3); (try clear hfz16_4); (try clear hfz16_5); (try clear hfz16_6); (try clear hfz16_7); (try clear hfz16_8); (try clear hfz16_9)
    obtain ⟨kq, x32_4, rfl, HA, HJ4, BK728, BK729, BK742, HB⟩ := hcut
    cases kq with
    | zero => exact absurd HA.out (by simp [laws_FnBodyPush.j0])
    | succ kj4 => ?_
    have H := HA.out
    clear HA
    simp only [laws_FnBodyPush.j0] at H
    by_cases c32 : x32_4 = true
    · subst c32
      replace H := qT H
      replace H := qH H
      obtain ⟨⟨t756, t757, t758, t759, t760, t761, t762, t763, t764, t765, t766, t767⟩, A33, H⟩ := H
      try dsimp only at H
      obtain rfl := Option.some.inj H
      try go_wp2
      replace BK728 := az (blk_drew BK728.out)
      replace BK729 := az (blk_drew BK729.out)
      replace BK742 := az (blk_drew BK742.out)
      replace HB := az (below_drew1 HB.out)
      refine start_ (n := 6) (S := fun w' => w'.cell? ⟨gb742, 0, none⟩ = some (.int .i64 t730) ∧ w'.cell? ⟨gb742, 1, none⟩ = some (.int .i64 t731) ∧ w'.cell? ⟨gb742, 2, none⟩ = some (.int .i64 t732) ∧ w'.cell? ⟨gb742, 3, none⟩ = some (.int .i64 t733) ∧ w'.cell? ⟨gb742, 4, none⟩ = some (.int .i64 t734) ∧ w'.cell? ⟨gb742, 5, none⟩ = some (.int .i64 t735) ∧ w'.cell? ⟨gb742, 6, none⟩ = some (.int .i64 t736) ∧ w'.cell? ⟨gb742, 7, none⟩ = some (.int .i64 t737) ∧ w'.cell? ⟨gb742, 8, none⟩ = some (.int .i64 t738) ∧ w'.cell? ⟨gb742, 9, none⟩ = some (.int .i64 t739) ∧ w'.cell? ⟨gb742, 10, none⟩ = some (.int .i64 t740) ∧ w'.cell? ⟨gb742, 11, none⟩ = some (.int .i64 t741) ∧ w'.cell? ⟨gb728, 0, none⟩ = some (.int .i64 t714) ∧ w'.cell? ⟨gb728, 1, none⟩ = some (.int .i64 t715) ∧ w'.cell? ⟨gb728, 2, none⟩ = some (.int .i64 t716) ∧ w'.cell? ⟨gb728, 3, none⟩ = some (.int .i64 t717) ∧ w'.cell? ⟨gb728, 4, none⟩ = some (.int .i64 t718) ∧ w'.cell? ⟨gb728, 5, none⟩ = some (.int .i64 t719) ∧ w'.cell? ⟨gb728, 6, none⟩ = some (.int .i64 t720) ∧ w'.cell? ⟨gb728, 7, none⟩ = some (.int .i64 t721) ∧ w'.cell? ⟨gb728, 8, none⟩ = some (.int .i64 t722) ∧ w'.cell? ⟨gb728, 9, none⟩ = some (.int .i64 t723) ∧ w'.cell? ⟨gb728, 10, none⟩ = some (.int .i64 t724) ∧ w'.cell? ⟨gb728, 11, none⟩ = some (.int .i64 t725) ∧ w'.cell? ⟨gb729, 0, none⟩ = some (.int .i64 t726) ∧ w'.cell? ⟨gb729, 1, none⟩ = some (.int .i64 t727)) (ds := []) #[false, false, false, false, false, false] (by kernel_rfl) rfl rfl ⟨bc BK742 0, bc BK742 1, bc BK742 2, bc BK742 3, bc BK742 4, bc BK742 5, bc BK742 6, bc BK742 7, bc BK742 8, bc BK742 9, bc BK742 10, bc BK742 11, bc BK728 0, bc BK728 1, bc BK728 2, bc BK728 3, bc BK728 4, bc BK728 5, bc BK728 6, bc BK728 7, bc BK728 8, bc BK728 9, bc BK728 10, bc BK728 11, bc BK729 0, bc BK729 1⟩ (fun hHeld => ?_)
      generalize wc.drew = w34 at BK728 BK729 BK742 HB hHeld ⊢
      refine take_ (i := 0) (N := some 33) (v := ?_) (a' := ?_) #[true, false, false, false, false, false] rfl rfl (by kernel_rfl) (fun _ _ _ h => h) (Or.inl ⟨by rfl, ?_⟩) hHeld ?_ ?_
      rotate_left
      · rintro w' ⟨s0, s1, s2, s3, s4, s5, s6, s7, s8, s9, s10, s11, s12, s13, s14, s15, s16, s17, s18, s19, s20, s21, s22, s23, s24, s25⟩
        go_simp
        with_reducible rfl
      rotate_left
      · simp only [Act.put, List.setIfInBounds_toArray, List.set_cons_zero, List.set_cons_succ, i64_w, i32_w]
        rfl
      refine take_ (i := 1) (N := some 34) (v := ?_) (a' := ?_) #[true, true, false, false, false, false] rfl rfl (by kernel_rfl) (fun _ _ _ h => h) (Or.inl ⟨by rfl, ?_⟩) hHeld ?_ ?_
      rotate_left
      · rintro w' ⟨s0, s1, s2, s3, s4, s5, s6, s7, s8, s9, s10, s11, s12, s13, s14, s15, s16, s17, s18, s19, s20, s21, s22, s23, s24, s25⟩
        go_simp
        with_reducible rfl
      rotate_left
      · simp only [Act.put, List.setIfInBounds_toArray, List.set_cons_zero, List.set_cons_succ, i64_w, i32_w]
        rfl
      refine take_ (i := 2) (N := some 35) (v := ?_) (a' := ?_) #[true, true, true, false, false, false] rfl rfl (by kernel_rfl) (fun _ _ _ h => h) (Or.inl ⟨by rfl, ?_⟩) hHeld ?_ ?_
      rotate_left
      · rintro w' ⟨s0, s1, s2, s3, s4, s5, s6, s7, s8, s9, s10, s11, s12, s13, s14, s15, s16, s17, s18, s19, s20, s21, s22, s23, s24, s25⟩
        go_simp
        with_reducible rfl
      rotate_left
      · simp only [Act.put, List.setIfInBounds_toArray, List.set_cons_zero, List.set_cons_succ, i64_w, i32_w]
        rfl
      refine one_ (i := 3) (N := some 36) #[true, true, true, true, false, false] rfl rfl (by kernel_rfl) (by decide) (fun K hK => ?_)
      refine go1 Try.func18 #[.agg #[.int .i64 t714, .int .i64 t715, .int .i64 t716, .int .i64 t717, .int .i64 t718, .int .i64 t719, .int .i64 t720, .int .i64 t721, .int .i64 t722, .int .i64 t723, .int .i64 t724, .int .i64 t725], .agg #[.int .i64 t726, .int .i64 t727]] ?_
      with_reducible refine (spec_BodyPush.calls kj4 t714 t715 t716 t717 t718 t719 t720 t721 t722 t723 t724 t725 t726 t727 t756 t757 t758 t759 t760 t761 t762 t763 t764 t765 t766 t767 _ A33.out).mono ?_
      rintro e w35 ⟨rfl, hb⟩
      refine ⟨_, rfl, ?_⟩
      replace BK728 := kBB BK728 hb
      replace BK729 := kBB BK729 hb
      replace BK742 := kBB BK742 hb
      replace HB := bS HB hb
      clear hb
      refine hK.out _ _ ⟨bc BK742 0, bc BK742 1, bc BK742 2, bc BK742 3, bc BK742 4, bc BK742 5, bc BK742 6, bc BK742 7, bc BK742 8, bc BK742 9, bc BK742 10, bc BK742 11, bc BK728 0, bc BK728 1, bc BK728 2, bc BK728 3, bc BK728 4, bc BK728 5, bc BK728 6, bc BK728 7, bc BK728 8, bc BK728 9, bc BK728 10, bc BK728 11, bc BK729 0, bc BK729 1⟩ (fun hHeld => ?_)
      clear hK K
      refine nm (some 36) ?_
      refine pure_ (i := 4) (N := some 37) (v := ?_) (a' := ?_) #[true, true, true, true, true, false] rfl rfl (by kernel_rfl) (fun _ _ _ h => h) (Or.inl ⟨by rfl, ?_⟩) ?_ ?_
      rotate_left
      · intro w'
        go_simp
        with_reducible rfl
      rotate_left
      · simp only [Act.put, List.setIfInBounds_toArray, List.set_cons_zero, List.set_cons_succ, i64_w, i32_w]
        rfl
      refine pure_ (i := 5) (N := some 2) (v := ?_) (a' := ?_) #[true, true, true, true, true, true] rfl rfl (by kernel_rfl) (fun _ _ _ h => h) (Or.inl ⟨by rfl, ?_⟩) ?_ ?_
      rotate_left
      · intro w'
        go_simp
        with_reducible rfl
      rotate_left
      · simp only [Act.put, List.setIfInBounds_toArray, List.set_cons_zero, List.set_cons_succ, i64_w, i32_w]
        rfl
      refine done_ (by kernel_rfl) ?_
      try go_wp2
      go_ret
      exact ⟨qE, qL HB⟩
    replace c32 := Bool.eq_false_iff.mpr c32
    subst c32
    replace H := qU H
    by_cases c36 : t722 = 0
    · rw [if_pos c36] at H
      have c36b0 : (t722 == 0) = true := beq_iff_eq.mpr c36
      have c36b1 : (t722 != 0) = false := bne_eq_false_iff_eq.mpr c36
      clear c36
      obtain rfl := Option.some.inj H
      have hnb37 := NB728_729.out
      have hnc37 := NB729_728.out
      have hnb38 := NB728_742.out
      have hnc38 := NB742_728.out
      obtain ⟨hcz39_0, hcz39_1, hcz39_2, hcz39_3, hcz39_4, hcz39_5, hcz39_6, hcz39_7, hcz39_8, hcz39_9, hcz39_10, hcz39_11⟩ := cz12 BK728.out
      obtain ⟨hfz39_0, hfz39_1, hfz39_2, hfz39_3, hfz39_4, hfz39_5, hfz39_6, hfz39_7, hfz39_8, hfz39_9, hfz39_10, hfz39_11⟩ := fz12 BK728.out
      have hnb40 := NB742_729.out
      have hnc40 := NB729_742.out
      obtain ⟨hcz41_0, hcz41_1, hcz41_2, hcz41_3, hcz41_4, hcz41_5, hcz41_6, hcz41_7, hcz41_8, hcz41_9, hcz41_10, hcz41_11⟩ := cz12 BK742.out
      obtain ⟨hfz41_0, hfz41_1, hfz41_2, hfz41_3, hfz41_4, hfz41_5, hfz41_6, hfz41_7, hfz41_8, hfz41_9, hfz41_10, hfz41_11⟩ := fz12 BK742.out
      go_wp2
      go_ret
      exact ⟨qE, qL HB⟩
    rw [if_neg c36] at H
    have c36b0 : (t722 == 0) = false := beq_eq_false_iff_ne.mpr c36
    have c36b1 : (t722 != 0) = true := bne_iff_ne.mpr c36
    have HC42 := az H
    clear H
    have hnb43 := NB728_729.out
    have hnc43 := NB729_728.out
    have hnb44 := NB728_742.out
    have hnc44 := NB742_728.out
    obtain ⟨hcz45_0, hcz45_1, hcz45_2, hcz45_3, hcz45_4, hcz45_5, hcz45_6, hcz45_7, hcz45_8, hcz45_9, hcz45_10, hcz45_11⟩ := cz12 BK728.out
    obtain ⟨hfz45_0, hfz45_1, hfz45_2, hfz45_3, hfz45_4, hfz45_5, hfz45_6, hfz45_7, hfz45_8, hfz45_9, hfz45_10, hfz45_11⟩ := fz12 BK728.out
    have hnb46 := NB729_742.out
    have hnc46 := NB742_729.out
    obtain ⟨hcz47_0, hcz47_1⟩ := cz2 BK729.out
    have hfz47_0 := blk_frozen BK729.out 0
    have hfz47_1 := blk_frozen BK729.out 1
    go_upto_region 10 with (first | ((with_reducible refine gate_dst (N := 6) rfl ?_); refine bx (N := 6) (cs := #[.int .i64 0, .int .i64 0]) (t := 24) ?_; intro gb768 hg w48 hbox hb; have BK768 := az hbox; have GW768 := az ((gE hg (qL HB) : w.heap.size ≤ gb768)); have GE768 := GW768; obtain ⟨NB728_768, NB768_728⟩ := nPB BK728 hg; obtain ⟨NB729_768, NB768_729⟩ := nPB BK729 hg; obtain ⟨NB742_768, NB768_742⟩ := nPB BK742 hg; replace BK728 := kBB BK728 hb; replace BK729 := kBB BK729 hb; replace BK742 := kBB BK742 hb; replace HB := bS HB hb; clear hb hbox hg; have hnb49 := NB768_728.out; have hnc49 := NB728_768.out; have hnb50 := NB768_729.out; have hnc50 := NB729_768.out; have hnb51 := NB768_742.out; have hnc51 := NB742_768.out; obtain ⟨hcz52_0, hcz52_1⟩ := cz2 BK768.out; have hfz52_0 := blk_frozen BK768.out 0; have hfz52_1 := blk_frozen BK768.out 1))
    (try simp only [Act.put, List.setIfInBounds_toArray, List.set_cons_zero, List.set_cons_succ])
    go_cut [89] (fun v89 wc => ∃ (kq : Nat) (x89_41 : Bool), v89 = .bool x89_41 ∧ Aside0 (laws_FnBodyPush.j1 kq x89_41 t714 t715 t716 t717 t718 t719 t720 t721 t722 t723 t724 t725 t726 t727 t730 t731 t732 t733 t734 t735 t736 t737 t738 t739 t740 t741 (wrap64 (t720 + t726)) (wrap64 (t721 + t727)) = some r) ∧ Aside0 (kq ≤ kj4) ∧ Aside0 (wc.heap[gb728]? = some (.cells #[.int .i64 t714, .int .i64 t715, .int .i64 t716, .int .i64 t717, .int .i64 t718, .int .i64 t719, .int .i64 t720, .int .i64 t721, .int .i64 t722, .int .i64 t723, .int .i64 t724, .int .i64 t725] 40 (0, 0))) ∧ Aside0 (wc.heap[gb729]? = some (.cells #[.int .i64 t726, .int .i64 t727] 24 (0, 0))) ∧ Aside0 (wc.heap[gb742]? = some (.cells #[.int .i64 t730, .int .i64 t731, .int .i64 t732, .int .i64 t733, .int .i64 t734, .int .i64 t735, .int .i64 t736, .int .i64 t737, .int .i64 t738, .int .i64 t739, .int .i64 t740, .int .i64 t741] 40 (0, 0))) ∧ Aside0 (wc.heap[gb768]? = some (.cells #[.int .i64 (wrap64 (t720 + t726)), .int .i64 (wrap64 (t721 + t727))] 24 (0, 0))) ∧ Aside0 (Below w.heap.size w wc))
    case first =>
      have H := HC42.out
      clear HC42
      replace H := qH H
      obtain ⟨t769, A53, H⟩ := H
      try dsimp only at H
      by_cases c54 : t769 = true
      · subst c54
        replace H := qT H
        replace H := qH H
        obtain ⟨t770, A55, H⟩ := H
        try dsimp only at H
        by_cases c56 : t770 = true
        · subst c56
          replace H := qT H
          have H' := az H
          clear H
          have hnb57 := NB742_728.out
          have hnc57 := NB728_742.out
          have hnb58 := NB742_729.out
          have hnc58 := NB729_742.out
          have hnb59 := NB742_768.out
          have hnc59 := NB768_742.out
          obtain ⟨hcz60_0, hcz60_1, hcz60_2, hcz60_3, hcz60_4, hcz60_5, hcz60_6, hcz60_7, hcz60_8, hcz60_9, hcz60_10, hcz60_11⟩ := cz12 BK742.out
          obtain ⟨hfz60_0, hfz60_1, hfz60_2, hfz60_3, hfz60_4, hfz60_5, hfz60_6, hfz60_7, hfz60_8, hfz60_9, hfz60_10, hfz60_11⟩ := fz12 BK742.out
          go_wp2_with (first | ((with_reducible refine gate_callee (f := 27) rfl ?_); refine gl (some 58) Try.func27 #[.agg #[.int .i64 t730, .int .i64 t731, .int .i64 t732, .int .i64 t733, .int .i64 t734, .int .i64 t735, .int .i64 t736, .int .i64 t737, .int .i64 t738, .int .i64 t739, .int .i64 t740, .int .i64 t741]] ?_; (with_reducible refine (impl_BodyOk.calls kj4 t730 t731 t732 t733 t734 t735 t736 t737 t738 t739 t740 t741 true _ A53.out).mono ?_); rintro e w61 ⟨rfl, hb⟩; refine ⟨_, rfl, ?_⟩; replace BK728 := kBF BK728 hb; replace BK729 := kBF BK729 hb; replace BK742 := kBF BK742 hb; replace BK768 := kBP (o' := .cells #[.int .i64 (wrap64 (t720 + t726)), .int .i64 (wrap64 (t721 + t727))] 24 (0, 0)) BK768 hb; replace HB := bS HB hb; clear hb; obtain ⟨hcz62_0, hcz62_1, hcz62_2, hcz62_3, hcz62_4, hcz62_5, hcz62_6, hcz62_7, hcz62_8, hcz62_9, hcz62_10, hcz62_11⟩ := cz12 BK742.out; obtain ⟨hfz62_0, hfz62_1, hfz62_2, hfz62_3, hfz62_4, hfz62_5, hfz62_6, hfz62_7, hfz62_8, hfz62_9, hfz62_10, hfz62_11⟩ := fz12 BK742.out) | (go_at_call 28; (with_reducible refine (impl_BodySleeps.calls kj4 t730 t731 t732 t733 t734 t735 t736 t737 t738 t739 t740 t741 true _ A55.out).mono ?_); rintro e w63 ⟨rfl, hb⟩; replace BK728 := kBB BK728 hb; replace BK729 := kBB BK729 hb; replace BK742 := kBB BK742 hb; replace BK768 := kBB BK768 hb; replace HB := bS HB hb; clear hb))
          go_meet
          case rel => exact ⟨_, (true), (by first | rfl | (simp; done) | (simp [*]; done)), H', ⟨by have := HJ4.out; first | omega | exact Nat.le_refl _⟩, ⟨qF BK728⟩, ⟨qF BK729⟩, ⟨qF BK742⟩, ⟨qF BK768⟩, ⟨qL HB⟩⟩
        replace c56 := Bool.eq_false_iff.mpr c56
        subst c56
        replace H := qU H
        by_cases c64 : (!(t734 == t718) || (!(t735 == t719))) = true
        · rw [if_pos c64] at H
          have c64b0 : (!(t734 == t718) || (!(t735 == t719))) = true := c64
          clear c64
          (first | rw [c64b0] | (simp only [i64_w, i32_w]; rw [c64b0]) | skip)
          have H' := az H
          clear H
          have hnb65 := NB742_728.out
          have hnc65 := NB728_742.out
          have hnb66 := NB742_729.out
          have hnc66 := NB729_742.out
          have hnb67 := NB742_768.out
          have hnc67 := NB768_742.out
          obtain ⟨hcz68_0, hcz68_1, hcz68_2, hcz68_3, hcz68_4, hcz68_5, hcz68_6, hcz68_7, hcz68_8, hcz68_9, hcz68_10, hcz68_11⟩ := cz12 BK742.out
          obtain ⟨hfz68_0, hfz68_1, hfz68_2, hfz68_3, hfz68_4, hfz68_5, hfz68_6, hfz68_7, hfz68_8, hfz68_9, hfz68_10, hfz68_11⟩ := fz12 BK742.out
          go_wp2_with (first | ((with_reducible refine gate_callee (f := 27) rfl ?_); refine gl (some 58) Try.func27 #[.agg #[.int .i64 t730, .int .i64 t731, .int .i64 t732, .int .i64 t733, .int .i64 t734, .int .i64 t735, .int .i64 t736, .int .i64 t737, .int .i64 t738, .int .i64 t739, .int .i64 t740, .int .i64 t741]] ?_; (with_reducible refine (impl_BodyOk.calls kj4 t730 t731 t732 t733 t734 t735 t736 t737 t738 t739 t740 t741 true _ A53.out).mono ?_); rintro e w69 ⟨rfl, hb⟩; refine ⟨_, rfl, ?_⟩; replace BK728 := kBF BK728 hb; replace BK729 := kBF BK729 hb; replace BK742 := kBF BK742 hb; replace BK768 := kBP (o' := .cells #[.int .i64 (wrap64 (t720 + t726)), .int .i64 (wrap64 (t721 + t727))] 24 (0, 0)) BK768 hb; replace HB := bS HB hb; clear hb; obtain ⟨hcz70_0, hcz70_1, hcz70_2, hcz70_3, hcz70_4, hcz70_5, hcz70_6, hcz70_7, hcz70_8, hcz70_9, hcz70_10, hcz70_11⟩ := cz12 BK742.out; obtain ⟨hfz70_0, hfz70_1, hfz70_2, hfz70_3, hfz70_4, hfz70_5, hfz70_6, hfz70_7, hfz70_8, hfz70_9, hfz70_10, hfz70_11⟩ := fz12 BK742.out) | (go_at_call 28; (with_reducible refine (impl_BodySleeps.calls kj4 t730 t731 t732 t733 t734 t735 t736 t737 t738 t739 t740 t741 false _ A55.out).mono ?_); rintro e w71 ⟨rfl, hb⟩; replace BK728 := kBB BK728 hb; replace BK729 := kBB BK729 hb; replace BK742 := kBB BK742 hb; replace BK768 := kBB BK768 hb; replace HB := bS HB hb; clear hb; obtain ⟨hcz72_0, hcz72_1, hcz72_2, hcz72_3, hcz72_4, hcz72_5, hcz72_6, hcz72_7, hcz72_8, hcz72_9, hcz72_10, hcz72_11⟩ := cz12 BK742.out; obtain ⟨hfz72_0, hfz72_1, hfz72_2, hfz72_3, hfz72_4, hfz72_5, hfz72_6, hfz72_7, hfz72_8, hfz72_9, hfz72_10, hfz72_11⟩ := fz12 BK742.out; have hnb73 := NB728_729.out; have hnc73 := NB729_728.out; have hnb74 := NB728_768.out; have hnc74 := NB768_728.out; obtain ⟨hcz75_0, hcz75_1, hcz75_2, hcz75_3, hcz75_4, hcz75_5, hcz75_6, hcz75_7, hcz75_8, hcz75_9, hcz75_10, hcz75_11⟩ := cz12 BK728.out; obtain ⟨hfz75_0, hfz75_1, hfz75_2, hfz75_3, hfz75_4, hfz75_5, hfz75_6, hfz75_7, hfz75_8, hfz75_9, hfz75_10, hfz75_11⟩ := fz12 BK728.out))
          go_meet
          case rel => exact ⟨_, (true), (by first | rfl | (simp; done) | (simp [*]; done)), H', ⟨by have := HJ4.out; first | omega | exact Nat.le_refl _⟩, ⟨qF BK728⟩, ⟨qF BK729⟩, ⟨qF BK742⟩, ⟨qF BK768⟩, ⟨qL HB⟩⟩
        rw [if_neg c64] at H
        have c64b0 : (!(t734 == t718) || (!(t735 == t719))) = false := by simpa using c64
        clear c64
        (first | rw [c64b0] | (simp only [i64_w, i32_w]; rw [c64b0]) | skip)
        by_cases c76 : t730 = t714
        · rw [if_pos c76] at H
          subst c76
          have c76b0 : (t730 == t730) = true := by simp
          have c76b1 : (t730 != t730) = false := by simp
          replace H := qH H
          obtain ⟨t771, A77, H⟩ := H
          try dsimp only at H
          by_cases c78 : t771 > 20000000
          · rw [if_pos c78] at H
            have c78b0 : decide (20000000 < t771) = true := decide_eq_true c78
            clear c78
            have H' := az H
            clear H
            have hnb79 := NB742_728.out
            have hnc79 := NB728_742.out
            have hnb80 := NB742_729.out
            have hnc80 := NB729_742.out
            have hnb81 := NB742_768.out
            have hnc81 := NB768_742.out
            obtain ⟨hcz82_0, hcz82_1, hcz82_2, hcz82_3, hcz82_4, hcz82_5, hcz82_6, hcz82_7, hcz82_8, hcz82_9, hcz82_10, hcz82_11⟩ := cz12 BK742.out
            obtain ⟨hfz82_0, hfz82_1, hfz82_2, hfz82_3, hfz82_4, hfz82_5, hfz82_6, hfz82_7, hfz82_8, hfz82_9, hfz82_10, hfz82_11⟩ := fz12 BK742.out
            go_wp2_with (first | ((with_reducible refine gate_callee (f := 27) rfl ?_); refine gl (some 58) Try.func27 #[.agg #[.int .i64 t730, .int .i64 t731, .int .i64 t732, .int .i64 t733, .int .i64 t734, .int .i64 t735, .int .i64 t736, .int .i64 t737, .int .i64 t738, .int .i64 t739, .int .i64 t740, .int .i64 t741]] ?_; (with_reducible refine (impl_BodyOk.calls kj4 t730 t731 t732 t733 t734 t735 t736 t737 t738 t739 t740 t741 true _ A53.out).mono ?_); rintro e w83 ⟨rfl, hb⟩; refine ⟨_, rfl, ?_⟩; replace BK728 := kBF BK728 hb; replace BK729 := kBF BK729 hb; replace BK742 := kBF BK742 hb; replace BK768 := kBP (o' := .cells #[.int .i64 (wrap64 (t720 + t726)), .int .i64 (wrap64 (t721 + t727))] 24 (0, 0)) BK768 hb; replace HB := bS HB hb; clear hb; obtain ⟨hcz84_0, hcz84_1, hcz84_2, hcz84_3, hcz84_4, hcz84_5, hcz84_6, hcz84_7, hcz84_8, hcz84_9, hcz84_10, hcz84_11⟩ := cz12 BK742.out; obtain ⟨hfz84_0, hfz84_1, hfz84_2, hfz84_3, hfz84_4, hfz84_5, hfz84_6, hfz84_7, hfz84_8, hfz84_9, hfz84_10, hfz84_11⟩ := fz12 BK742.out) | (go_at_call 28; (with_reducible refine (impl_BodySleeps.calls kj4 t730 t731 t732 t733 t734 t735 t736 t737 t738 t739 t740 t741 false _ A55.out).mono ?_); rintro e w85 ⟨rfl, hb⟩; replace BK728 := kBB BK728 hb; replace BK729 := kBB BK729 hb; replace BK742 := kBB BK742 hb; replace BK768 := kBB BK768 hb; replace HB := bS HB hb; clear hb; obtain ⟨hcz86_0, hcz86_1, hcz86_2, hcz86_3, hcz86_4, hcz86_5, hcz86_6, hcz86_7, hcz86_8, hcz86_9, hcz86_10, hcz86_11⟩ := cz12 BK742.out; obtain ⟨hfz86_0, hfz86_1, hfz86_2, hfz86_3, hfz86_4, hfz86_5, hfz86_6, hfz86_7, hfz86_8, hfz86_9, hfz86_10, hfz86_11⟩ := fz12 BK742.out; have hnb87 := NB728_729.out; have hnc87 := NB729_728.out; have hnb88 := NB728_768.out; have hnc88 := NB768_728.out; obtain ⟨hcz89_0, hcz89_1, hcz89_2, hcz89_3, hcz89_4, hcz89_5, hcz89_6, hcz89_7, hcz89_8, hcz89_9, hcz89_10, hcz89_11⟩ := cz12 BK728.out; obtain ⟨hfz89_0, hfz89_1, hfz89_2, hfz89_3, hfz89_4, hfz89_5, hfz89_6, hfz89_7, hfz89_8, hfz89_9, hfz89_10, hfz89_11⟩ := fz12 BK728.out; have hnb90 := NB768_729.out; have hnc90 := NB729_768.out; obtain ⟨hcz91_0, hcz91_1⟩ := cz2 BK768.out; have hfz91_0 := blk_frozen BK768.out 0; have hfz91_1 := blk_frozen BK768.out 1) | (go_at_call 29; (with_reducible refine (laws_pqAbs.calls (wrap64 (t720 + t726)) t771 _ A77.out).mono ?_); rintro e w' ⟨rfl, ⟨nd, rfl⟩⟩))
            go_meet
            case rel => exact ⟨_, (true), (by first | rfl | (simp; done) | (simp [*]; done)), H', ⟨by have := HJ4.out; first | omega | exact Nat.le_refl _⟩, ⟨qF BK728⟩, ⟨qF BK729⟩, ⟨qF BK742⟩, ⟨qF BK768⟩, ⟨qL HB⟩⟩
          rw [if_neg c78] at H
          have c78b0 : decide (20000000 < t771) = false := decide_eq_false c78
          clear c78
          replace H := qH H
          obtain ⟨t772, A92, H⟩ := H
          try dsimp only at H
          have H' := az H
          clear H
          have hnb93 := NB742_728.out
          have hnc93 := NB728_742.out
          have hnb94 := NB742_729.out
          have hnc94 := NB729_742.out
          have hnb95 := NB742_768.out
          have hnc95 := NB768_742.out
          obtain ⟨hcz96_0, hcz96_1, hcz96_2, hcz96_3, hcz96_4, hcz96_5, hcz96_6, hcz96_7, hcz96_8, hcz96_9, hcz96_10, hcz96_11⟩ := cz12 BK742.out
          obtain ⟨hfz96_0, hfz96_1, hfz96_2, hfz96_3, hfz96_4, hfz96_5, hfz96_6, hfz96_7, hfz96_8, hfz96_9, hfz96_10, hfz96_11⟩ := fz12 BK742.out
          go_wp2_with (first | ((with_reducible refine gate_callee (f := 27) rfl ?_); refine gl (some 58) Try.func27 #[.agg #[.int .i64 t730, .int .i64 t731, .int .i64 t732, .int .i64 t733, .int .i64 t734, .int .i64 t735, .int .i64 t736, .int .i64 t737, .int .i64 t738, .int .i64 t739, .int .i64 t740, .int .i64 t741]] ?_; (with_reducible refine (impl_BodyOk.calls kj4 t730 t731 t732 t733 t734 t735 t736 t737 t738 t739 t740 t741 true _ A53.out).mono ?_); rintro e w97 ⟨rfl, hb⟩; refine ⟨_, rfl, ?_⟩; replace BK728 := kBF BK728 hb; replace BK729 := kBF BK729 hb; replace BK742 := kBF BK742 hb; replace BK768 := kBP (o' := .cells #[.int .i64 (wrap64 (t720 + t726)), .int .i64 (wrap64 (t721 + t727))] 24 (0, 0)) BK768 hb; replace HB := bS HB hb; clear hb; obtain ⟨hcz98_0, hcz98_1, hcz98_2, hcz98_3, hcz98_4, hcz98_5, hcz98_6, hcz98_7, hcz98_8, hcz98_9, hcz98_10, hcz98_11⟩ := cz12 BK742.out; obtain ⟨hfz98_0, hfz98_1, hfz98_2, hfz98_3, hfz98_4, hfz98_5, hfz98_6, hfz98_7, hfz98_8, hfz98_9, hfz98_10, hfz98_11⟩ := fz12 BK742.out) | (go_at_call 28; (with_reducible refine (impl_BodySleeps.calls kj4 t730 t731 t732 t733 t734 t735 t736 t737 t738 t739 t740 t741 false _ A55.out).mono ?_); rintro e w99 ⟨rfl, hb⟩; replace BK728 := kBB BK728 hb; replace BK729 := kBB BK729 hb; replace BK742 := kBB BK742 hb; replace BK768 := kBB BK768 hb; replace HB := bS HB hb; clear hb; obtain ⟨hcz100_0, hcz100_1, hcz100_2, hcz100_3, hcz100_4, hcz100_5, hcz100_6, hcz100_7, hcz100_8, hcz100_9, hcz100_10, hcz100_11⟩ := cz12 BK742.out; obtain ⟨hfz100_0, hfz100_1, hfz100_2, hfz100_3, hfz100_4, hfz100_5, hfz100_6, hfz100_7, hfz100_8, hfz100_9, hfz100_10, hfz100_11⟩ := fz12 BK742.out; have hnb101 := NB728_729.out; have hnc101 := NB729_728.out; have hnb102 := NB728_768.out; have hnc102 := NB768_728.out; obtain ⟨hcz103_0, hcz103_1, hcz103_2, hcz103_3, hcz103_4, hcz103_5, hcz103_6, hcz103_7, hcz103_8, hcz103_9, hcz103_10, hcz103_11⟩ := cz12 BK728.out; obtain ⟨hfz103_0, hfz103_1, hfz103_2, hfz103_3, hfz103_4, hfz103_5, hfz103_6, hfz103_7, hfz103_8, hfz103_9, hfz103_10, hfz103_11⟩ := fz12 BK728.out; have hnb104 := NB768_729.out; have hnc104 := NB729_768.out; obtain ⟨hcz105_0, hcz105_1⟩ := cz2 BK768.out; have hfz105_0 := blk_frozen BK768.out 0; have hfz105_1 := blk_frozen BK768.out 1) | (go_at_call 29; (with_reducible refine (laws_pqAbs.calls (wrap64 (t720 + t726)) t771 _ A77.out).mono ?_); rintro e w' ⟨rfl, ⟨nd, rfl⟩⟩) | (go_at_call 29; (with_reducible refine (laws_pqAbs.calls (wrap64 (t721 + t727)) t772 _ A92.out).mono ?_); rintro e w' ⟨rfl, ⟨nd, rfl⟩⟩))
          go_meet
          case rel => exact ⟨_, (decide (t772 > 20000000)), (by first | rfl | (simp; done) | (simp [*]; done)), H', ⟨by have := HJ4.out; first | omega | exact Nat.le_refl _⟩, ⟨qF BK728⟩, ⟨qF BK729⟩, ⟨qF BK742⟩, ⟨qF BK768⟩, ⟨qL HB⟩⟩
        rw [if_neg c76] at H
        have c76b0 : (t730 == t714) = false := beq_eq_false_iff_ne.mpr c76
        have c76b1 : (t730 != t714) = true := bne_iff_ne.mpr c76
        have H' := az H
        clear H
        have hnb106 := NB742_728.out
        have hnc106 := NB728_742.out
        have hnb107 := NB742_729.out
        have hnc107 := NB729_742.out
        have hnb108 := NB742_768.out
        have hnc108 := NB768_742.out
        obtain ⟨hcz109_0, hcz109_1, hcz109_2, hcz109_3, hcz109_4, hcz109_5, hcz109_6, hcz109_7, hcz109_8, hcz109_9, hcz109_10, hcz109_11⟩ := cz12 BK742.out
        obtain ⟨hfz109_0, hfz109_1, hfz109_2, hfz109_3, hfz109_4, hfz109_5, hfz109_6, hfz109_7, hfz109_8, hfz109_9, hfz109_10, hfz109_11⟩ := fz12 BK742.out
        go_wp2_with (first | ((with_reducible refine gate_callee (f := 27) rfl ?_); refine gl (some 58) Try.func27 #[.agg #[.int .i64 t730, .int .i64 t731, .int .i64 t732, .int .i64 t733, .int .i64 t734, .int .i64 t735, .int .i64 t736, .int .i64 t737, .int .i64 t738, .int .i64 t739, .int .i64 t740, .int .i64 t741]] ?_; (with_reducible refine (impl_BodyOk.calls kj4 t730 t731 t732 t733 t734 t735 t736 t737 t738 t739 t740 t741 true _ A53.out).mono ?_); rintro e w110 ⟨rfl, hb⟩; refine ⟨_, rfl, ?_⟩; replace BK728 := kBF BK728 hb; replace BK729 := kBF BK729 hb; replace BK742 := kBF BK742 hb; replace BK768 := kBP (o' := .cells #[.int .i64 (wrap64 (t720 + t726)), .int .i64 (wrap64 (t721 + t727))] 24 (0, 0)) BK768 hb; replace HB := bS HB hb; clear hb; obtain ⟨hcz111_0, hcz111_1, hcz111_2, hcz111_3, hcz111_4, hcz111_5, hcz111_6, hcz111_7, hcz111_8, hcz111_9, hcz111_10, hcz111_11⟩ := cz12 BK742.out; obtain ⟨hfz111_0, hfz111_1, hfz111_2, hfz111_3, hfz111_4, hfz111_5, hfz111_6, hfz111_7, hfz111_8, hfz111_9, hfz111_10, hfz111_11⟩ := fz12 BK742.out) | (go_at_call 28; (with_reducible refine (impl_BodySleeps.calls kj4 t730 t731 t732 t733 t734 t735 t736 t737 t738 t739 t740 t741 false _ A55.out).mono ?_); rintro e w112 ⟨rfl, hb⟩; replace BK728 := kBB BK728 hb; replace BK729 := kBB BK729 hb; replace BK742 := kBB BK742 hb; replace BK768 := kBB BK768 hb; replace HB := bS HB hb; clear hb; obtain ⟨hcz113_0, hcz113_1, hcz113_2, hcz113_3, hcz113_4, hcz113_5, hcz113_6, hcz113_7, hcz113_8, hcz113_9, hcz113_10, hcz113_11⟩ := cz12 BK742.out; obtain ⟨hfz113_0, hfz113_1, hfz113_2, hfz113_3, hfz113_4, hfz113_5, hfz113_6, hfz113_7, hfz113_8, hfz113_9, hfz113_10, hfz113_11⟩ := fz12 BK742.out; have hnb114 := NB728_729.out; have hnc114 := NB729_728.out; have hnb115 := NB728_768.out; have hnc115 := NB768_728.out; obtain ⟨hcz116_0, hcz116_1, hcz116_2, hcz116_3, hcz116_4, hcz116_5, hcz116_6, hcz116_7, hcz116_8, hcz116_9, hcz116_10, hcz116_11⟩ := cz12 BK728.out; obtain ⟨hfz116_0, hfz116_1, hfz116_2, hfz116_3, hfz116_4, hfz116_5, hfz116_6, hfz116_7, hfz116_8, hfz116_9, hfz116_10, hfz116_11⟩ := fz12 BK728.out))
        go_meet
        case rel => exact ⟨_, (true), (by first | rfl | (simp; done) | (simp [*]; done)), H', ⟨by have := HJ4.out; first | omega | exact Nat.le_refl _⟩, ⟨qF BK728⟩, ⟨qF BK729⟩, ⟨qF BK742⟩, ⟨qF BK768⟩, ⟨qL HB⟩⟩
      replace c54 := Bool.eq_false_iff.mpr c54
      subst c54
      replace H := qU H
      have H' := az H
      clear H
      have hnb117 := NB742_728.out
      have hnc117 := NB728_742.out
      have hnb118 := NB742_729.out
      have hnc118 := NB729_742.out
      have hnb119 := NB742_768.out
      have hnc119 := NB768_742.out
      obtain ⟨hcz120_0, hcz120_1, hcz120_2, hcz120_3, hcz120_4, hcz120_5, hcz120_6, hcz120_7, hcz120_8, hcz120_9, hcz120_10, hcz120_11⟩ := cz12 BK742.out
      obtain ⟨hfz120_0, hfz120_1, hfz120_2, hfz120_3, hfz120_4, hfz120_5, hfz120_6, hfz120_7, hfz120_8, hfz120_9, hfz120_10, hfz120_11⟩ := fz12 BK742.out
      go_wp2_with (first | ((with_reducible refine gate_callee (f := 27) rfl ?_); refine gl (some 58) Try.func27 #[.agg #[.int .i64 t730, .int .i64 t731, .int .i64 t732, .int .i64 t733, .int .i64 t734, .int .i64 t735, .int .i64 t736, .int .i64 t737, .int .i64 t738, .int .i64 t739, .int .i64 t740, .int .i64 t741]] ?_; (with_reducible refine (impl_BodyOk.calls kj4 t730 t731 t732 t733 t734 t735 t736 t737 t738 t739 t740 t741 false _ A53.out).mono ?_); rintro e w121 ⟨rfl, hb⟩; refine ⟨_, rfl, ?_⟩; replace BK728 := kBF BK728 hb; replace BK729 := kBF BK729 hb; replace BK742 := kBF BK742 hb; replace BK768 := kBP (o' := .cells #[.int .i64 (wrap64 (t720 + t726)), .int .i64 (wrap64 (t721 + t727))] 24 (0, 0)) BK768 hb; replace HB := bS HB hb; clear hb))
      go_meet
      case rel => exact ⟨_, (true), (by first | rfl | (simp; done) | (simp [*]; done)), H', ⟨by have := HJ4.out; first | omega | exact Nat.le_refl _⟩, ⟨qF BK728⟩, ⟨qF BK729⟩, ⟨qF BK742⟩, ⟨qF BK768⟩, ⟨qL HB⟩⟩
    case rest =>
      clear HC42
      (try clear c2); (try clear c2b0); (try clear c2b1); (try clear c32); (try clear c36); (try clear c36b0); (try clear c36b1); (try clear hcz10_0); (try clear hcz10_1); (try clear hcz10_10); (try clear hcz10_11); (try clear hcz10_2); (try clear hcz10_3); (try clear hcz10_4); (try clear hcz10_5); (try clear hcz10_6); (try clear hcz10_7); (try clear hcz10_8); (try clear hcz10_9); (try clear hcz11_0); (try clear hcz11_1); (try clear hcz16_0); (try clear hcz16_1); (try clear hcz16_10); (try clear hcz16_11); (try clear hcz16_2); (try clear hcz16_3); (try clear hcz16_4); (try clear hcz16_5); (try clear hcz16_6); (try clear hcz16_7); (try clear hcz16_8); (try clear hcz16_9); (try clear hcz45_0); (try clear hcz45_1); (try clear hcz45_10); (try clear hcz45_11); (try clear hcz45_2); (try clear hcz45_3); (try clear hcz45_4); (try clear hcz45_5); (try clear hcz45_6); (try clear hcz45_7); (try clear hcz45_8); (try clear hcz45_9); (try clear hcz47_0); (try clear hcz47_1); (try clear hcz52_0); (try clear hcz52_1); (try clear hfz10_0); (try clear hfz10_1); (try clear hfz10_10); (try clear hfz10_11); (try clear hfz10_2); (try clear hfz10_3); (try clear hfz10_4); (try clear hfz10_5); (try clear hfz10_6); (try clear hfz10_7); (try clear hfz10_8); (try clear hfz10_9); (try clear hfz11_0); (try clear hfz11_1); (try clear hfz16_0); (try clear hfz16_1); (try clear hfz16_10); (try clear hfz16_11); (try clear hfz16_2); (try clear hfz16_3); (try clear hfz16_4); (try clear hfz16_5); (try clear hfz16_6); (try clear hfz16_7); (try clear hfz16_8); (try clear hfz16_9); (try clear hfz45_0); (try clear hfz45_1); (try clear hfz45_10); (try clear hfz45_11); (try clear hfz45_2); (try clear hfz45_3); (try clear hfz45_4); (try clear hfz45_5); (try clear hfz45_6); (try clear hfz45_7); (try clear hfz45_8); (try clear hfz45_9); (try clear hfz47_0); (try clear hfz47_1); (try clear hfz52_0); (try clear hfz52_1)
      obtain ⟨kq, x89_41, rfl, HA, HJ41, BK728, BK729, BK742, BK768, HB⟩ := hcut
      cases kq with
      | zero => exact absurd HA.out (by simp [laws_FnBodyPush.j1])
      | succ kj41 => ?_
      have H := HA.out
      clear HA
      simp only [laws_FnBodyPush.j1] at H
      by_cases c122 : x89_41 = true
      · subst c122
        replace H := qT H
        replace H := qH H
        obtain ⟨t773, A123, H⟩ := H
        try dsimp only at H
        by_cases c124 : t773 = true
        · subst c124
          replace H := qT H
          replace H := qH H
          obtain ⟨t774, A125, H⟩ := H
          try dsimp only at H
          by_cases c126 : t774 = true
          · subst c126
            replace H := qT H
            obtain rfl := Option.some.inj H
            have hnb127 := NB742_728.out
            have hnc127 := NB728_742.out
            have hnb128 := NB742_729.out
            have hnc128 := NB729_742.out
            have hnb129 := NB742_768.out
            have hnc129 := NB768_742.out
            obtain ⟨hcz130_0, hcz130_1, hcz130_2, hcz130_3, hcz130_4, hcz130_5, hcz130_6, hcz130_7, hcz130_8, hcz130_9, hcz130_10, hcz130_11⟩ := cz12 BK742.out
            obtain ⟨hfz130_0, hfz130_1, hfz130_2, hfz130_3, hfz130_4, hfz130_5, hfz130_6, hfz130_7, hfz130_8, hfz130_9, hfz130_10, hfz130_11⟩ := fz12 BK742.out
            go_wp2_with (first | ((with_reducible refine gate_callee (f := 27) rfl ?_); refine gl (some 91) Try.func27 #[.agg #[.int .i64 t730, .int .i64 t731, .int .i64 t732, .int .i64 t733, .int .i64 t734, .int .i64 t735, .int .i64 t736, .int .i64 t737, .int .i64 t738, .int .i64 t739, .int .i64 t740, .int .i64 t741]] ?_; (with_reducible refine (impl_BodyOk.calls kj41 t730 t731 t732 t733 t734 t735 t736 t737 t738 t739 t740 t741 true _ A123.out).mono ?_); rintro e w131 ⟨rfl, hb⟩; refine ⟨_, rfl, ?_⟩; replace BK728 := kBB BK728 hb; replace BK729 := kBB BK729 hb; replace BK742 := kBB BK742 hb; replace BK768 := kBB BK768 hb; replace HB := bS HB hb; clear hb; obtain ⟨hcz132_0, hcz132_1, hcz132_2, hcz132_3, hcz132_4, hcz132_5, hcz132_6, hcz132_7, hcz132_8, hcz132_9, hcz132_10, hcz132_11⟩ := cz12 BK742.out; obtain ⟨hfz132_0, hfz132_1, hfz132_2, hfz132_3, hfz132_4, hfz132_5, hfz132_6, hfz132_7, hfz132_8, hfz132_9, hfz132_10, hfz132_11⟩ := fz12 BK742.out) | (go_at_call 28; (with_reducible refine (impl_BodySleeps.calls kj41 t730 t731 t732 t733 t734 t735 t736 t737 t738 t739 t740 t741 true _ A125.out).mono ?_); rintro e w133 ⟨rfl, hb⟩; replace BK728 := kBB BK728 hb; replace BK729 := kBB BK729 hb; replace BK742 := kBB BK742 hb; replace BK768 := kBB BK768 hb; replace HB := bS HB hb; clear hb))
            go_ret
            exact ⟨qE, qL HB⟩
          replace c126 := Bool.eq_false_iff.mpr c126
          subst c126
          replace H := qU H
          by_cases c134 : (t734 == t718 && (t735 == t719)) = true
          · rw [if_pos c134] at H
            have c134b0 : (t734 == t718 && (t735 == t719)) = true := c134
            (try (have c134b1 : decide (t734 = t718 && (t735 == t719)) = true := by simpa using c134))
            (try (have c134b2 : (t734 == t718 && (t735 == t719)) = true := by simpa using c134))
            clear c134
            obtain rfl := Option.some.inj H
            have hnb135 := NB742_728.out
            have hnc135 := NB728_742.out
            have hnb136 := NB742_729.out
            have hnc136 := NB729_742.out
            have hnb137 := NB742_768.out
            have hnc137 := NB768_742.out
            obtain ⟨hcz138_0, hcz138_1, hcz138_2, hcz138_3, hcz138_4, hcz138_5, hcz138_6, hcz138_7, hcz138_8, hcz138_9, hcz138_10, hcz138_11⟩ := cz12 BK742.out
            obtain ⟨hfz138_0, hfz138_1, hfz138_2, hfz138_3, hfz138_4, hfz138_5, hfz138_6, hfz138_7, hfz138_8, hfz138_9, hfz138_10, hfz138_11⟩ := fz12 BK742.out
            go_wp2_with (first | ((with_reducible refine gate_callee (f := 27) rfl ?_); refine gl (some 91) Try.func27 #[.agg #[.int .i64 t730, .int .i64 t731, .int .i64 t732, .int .i64 t733, .int .i64 t734, .int .i64 t735, .int .i64 t736, .int .i64 t737, .int .i64 t738, .int .i64 t739, .int .i64 t740, .int .i64 t741]] ?_; (with_reducible refine (impl_BodyOk.calls kj41 t730 t731 t732 t733 t734 t735 t736 t737 t738 t739 t740 t741 true _ A123.out).mono ?_); rintro e w139 ⟨rfl, hb⟩; refine ⟨_, rfl, ?_⟩; replace BK728 := kBB BK728 hb; replace BK729 := kBB BK729 hb; replace BK742 := kBB BK742 hb; replace BK768 := kBB BK768 hb; replace HB := bS HB hb; clear hb; obtain ⟨hcz140_0, hcz140_1, hcz140_2, hcz140_3, hcz140_4, hcz140_5, hcz140_6, hcz140_7, hcz140_8, hcz140_9, hcz140_10, hcz140_11⟩ := cz12 BK742.out; obtain ⟨hfz140_0, hfz140_1, hfz140_2, hfz140_3, hfz140_4, hfz140_5, hfz140_6, hfz140_7, hfz140_8, hfz140_9, hfz140_10, hfz140_11⟩ := fz12 BK742.out) | (go_at_call 28; (with_reducible refine (impl_BodySleeps.calls kj41 t730 t731 t732 t733 t734 t735 t736 t737 t738 t739 t740 t741 false _ A125.out).mono ?_); rintro e w141 ⟨rfl, hb⟩; replace BK728 := kBB BK728 hb; replace BK729 := kBB BK729 hb; replace BK742 := kBB BK742 hb; replace BK768 := kBB BK768 hb; replace HB := bS HB hb; clear hb; obtain ⟨hcz142_0, hcz142_1, hcz142_2, hcz142_3, hcz142_4, hcz142_5, hcz142_6, hcz142_7, hcz142_8, hcz142_9, hcz142_10, hcz142_11⟩ := cz12 BK742.out; obtain ⟨hfz142_0, hfz142_1, hfz142_2, hfz142_3, hfz142_4, hfz142_5, hfz142_6, hfz142_7, hfz142_8, hfz142_9, hfz142_10, hfz142_11⟩ := fz12 BK742.out; have hnb143 := NB728_729.out; have hnc143 := NB729_728.out; have hnb144 := NB728_768.out; have hnc144 := NB768_728.out; obtain ⟨hcz145_0, hcz145_1, hcz145_2, hcz145_3, hcz145_4, hcz145_5, hcz145_6, hcz145_7, hcz145_8, hcz145_9, hcz145_10, hcz145_11⟩ := cz12 BK728.out; obtain ⟨hfz145_0, hfz145_1, hfz145_2, hfz145_3, hfz145_4, hfz145_5, hfz145_6, hfz145_7, hfz145_8, hfz145_9, hfz145_10, hfz145_11⟩ := fz12 BK728.out))
            go_ret
            exact ⟨qE, qL HB⟩
          rw [if_neg c134] at H
          have c134b0 : (t734 == t718 && (t735 == t719)) = false := by simpa using c134
          (try (have c134b1 : decide (t734 = t718 && (t735 == t719)) = false := by simpa using c134))
          (try (have c134b2 : (t734 == t718 && (t735 == t719)) = false := by simpa using c134))
          (try (have c134b3 : ¬ (t734 = t718 && (t735 == t719)) := by simpa using c134))
          clear c134
          obtain rfl := Option.some.inj H
          have hnb146 := NB742_728.out
          have hnc146 := NB728_742.out
          have hnb147 := NB742_729.out
          have hnc147 := NB729_742.out
          have hnb148 := NB742_768.out
          have hnc148 := NB768_742.out
          obtain ⟨hcz149_0, hcz149_1, hcz149_2, hcz149_3, hcz149_4, hcz149_5, hcz149_6, hcz149_7, hcz149_8, hcz149_9, hcz149_10, hcz149_11⟩ := cz12 BK742.out
          obtain ⟨hfz149_0, hfz149_1, hfz149_2, hfz149_3, hfz149_4, hfz149_5, hfz149_6, hfz149_7, hfz149_8, hfz149_9, hfz149_10, hfz149_11⟩ := fz12 BK742.out
          go_wp2_with (first | ((with_reducible refine gate_callee (f := 27) rfl ?_); refine gl (some 91) Try.func27 #[.agg #[.int .i64 t730, .int .i64 t731, .int .i64 t732, .int .i64 t733, .int .i64 t734, .int .i64 t735, .int .i64 t736, .int .i64 t737, .int .i64 t738, .int .i64 t739, .int .i64 t740, .int .i64 t741]] ?_; (with_reducible refine (impl_BodyOk.calls kj41 t730 t731 t732 t733 t734 t735 t736 t737 t738 t739 t740 t741 true _ A123.out).mono ?_); rintro e w150 ⟨rfl, hb⟩; refine ⟨_, rfl, ?_⟩; replace BK728 := kBB BK728 hb; replace BK729 := kBB BK729 hb; replace BK742 := kBB BK742 hb; replace BK768 := kBB BK768 hb; replace HB := bS HB hb; clear hb; obtain ⟨hcz151_0, hcz151_1, hcz151_2, hcz151_3, hcz151_4, hcz151_5, hcz151_6, hcz151_7, hcz151_8, hcz151_9, hcz151_10, hcz151_11⟩ := cz12 BK742.out; obtain ⟨hfz151_0, hfz151_1, hfz151_2, hfz151_3, hfz151_4, hfz151_5, hfz151_6, hfz151_7, hfz151_8, hfz151_9, hfz151_10, hfz151_11⟩ := fz12 BK742.out) | (go_at_call 28; (with_reducible refine (impl_BodySleeps.calls kj41 t730 t731 t732 t733 t734 t735 t736 t737 t738 t739 t740 t741 false _ A125.out).mono ?_); rintro e w152 ⟨rfl, hb⟩; replace BK728 := kBB BK728 hb; replace BK729 := kBB BK729 hb; replace BK742 := kBB BK742 hb; replace BK768 := kBB BK768 hb; replace HB := bS HB hb; clear hb; obtain ⟨hcz153_0, hcz153_1, hcz153_2, hcz153_3, hcz153_4, hcz153_5, hcz153_6, hcz153_7, hcz153_8, hcz153_9, hcz153_10, hcz153_11⟩ := cz12 BK742.out; obtain ⟨hfz153_0, hfz153_1, hfz153_2, hfz153_3, hfz153_4, hfz153_5, hfz153_6, hfz153_7, hfz153_8, hfz153_9, hfz153_10, hfz153_11⟩ := fz12 BK742.out; have hnb154 := NB728_729.out; have hnc154 := NB729_728.out; have hnb155 := NB728_768.out; have hnc155 := NB768_728.out; obtain ⟨hcz156_0, hcz156_1, hcz156_2, hcz156_3, hcz156_4, hcz156_5, hcz156_6, hcz156_7, hcz156_8, hcz156_9, hcz156_10, hcz156_11⟩ := cz12 BK728.out; obtain ⟨hfz156_0, hfz156_1, hfz156_2, hfz156_3, hfz156_4, hfz156_5, hfz156_6, hfz156_7, hfz156_8, hfz156_9, hfz156_10, hfz156_11⟩ := fz12 BK728.out))
          go_ret
          exact ⟨qE, qL HB⟩
        replace c124 := Bool.eq_false_iff.mpr c124
        subst c124
        replace H := qU H
        obtain rfl := Option.some.inj H
        have hnb157 := NB742_728.out
        have hnc157 := NB728_742.out
        have hnb158 := NB742_729.out
        have hnc158 := NB729_742.out
        have hnb159 := NB742_768.out
        have hnc159 := NB768_742.out
        obtain ⟨hcz160_0, hcz160_1, hcz160_2, hcz160_3, hcz160_4, hcz160_5, hcz160_6, hcz160_7, hcz160_8, hcz160_9, hcz160_10, hcz160_11⟩ := cz12 BK742.out
        obtain ⟨hfz160_0, hfz160_1, hfz160_2, hfz160_3, hfz160_4, hfz160_5, hfz160_6, hfz160_7, hfz160_8, hfz160_9, hfz160_10, hfz160_11⟩ := fz12 BK742.out
        go_wp2_with (first | ((with_reducible refine gate_callee (f := 27) rfl ?_); refine gl (some 91) Try.func27 #[.agg #[.int .i64 t730, .int .i64 t731, .int .i64 t732, .int .i64 t733, .int .i64 t734, .int .i64 t735, .int .i64 t736, .int .i64 t737, .int .i64 t738, .int .i64 t739, .int .i64 t740, .int .i64 t741]] ?_; (with_reducible refine (impl_BodyOk.calls kj41 t730 t731 t732 t733 t734 t735 t736 t737 t738 t739 t740 t741 false _ A123.out).mono ?_); rintro e w161 ⟨rfl, hb⟩; refine ⟨_, rfl, ?_⟩; replace BK728 := kBB BK728 hb; replace BK729 := kBB BK729 hb; replace BK742 := kBB BK742 hb; replace BK768 := kBB BK768 hb; replace HB := bS HB hb; clear hb))
        go_ret
        exact ⟨qE, qL HB⟩
      replace c122 := Bool.eq_false_iff.mpr c122
      subst c122
      replace H := qU H
      by_cases c162 : (t736 == (wrap64 (t720 + t726)) && (t737 == (wrap64 (t721 + t727)))) = true
      · rw [if_pos c162] at H
        have c162b0 : (t736 == (wrap64 (t720 + t726)) && (t737 == (wrap64 (t721 + t727)))) = true := c162
        (try (have c162b1 : decide (t736 = (wrap64 (t720 + t726)) && (t737 == (wrap64 (t721 + t727)))) = true := by simpa using c162))
        (try (have c162b2 : (t736 == (wrap64 (t720 + t726)) && (t737 == (wrap64 (t721 + t727)))) = true := by simpa using c162))
        clear c162
        replace H := qH H
        obtain ⟨⟨t775, t776, t777, t778, t779, t780, t781, t782, t783, t784, t785, t786⟩, A163, H⟩ := H
        try dsimp only at H
        obtain rfl := Option.some.inj H
        try go_wp2
        replace BK728 := az (blk_drew BK728.out)
        replace BK729 := az (blk_drew BK729.out)
        replace BK742 := az (blk_drew BK742.out)
        replace BK768 := az (blk_drew BK768.out)
        replace HB := az (below_drew1 HB.out)
        refine start_ (n := 20) (S := fun w' => w'.cell? ⟨gb742, 0, none⟩ = some (.int .i64 t730) ∧ w'.cell? ⟨gb742, 1, none⟩ = some (.int .i64 t731) ∧ w'.cell? ⟨gb742, 2, none⟩ = some (.int .i64 t732) ∧ w'.cell? ⟨gb742, 3, none⟩ = some (.int .i64 t733) ∧ w'.cell? ⟨gb742, 4, none⟩ = some (.int .i64 t734) ∧ w'.cell? ⟨gb742, 5, none⟩ = some (.int .i64 t735) ∧ w'.cell? ⟨gb742, 6, none⟩ = some (.int .i64 t736) ∧ w'.cell? ⟨gb742, 7, none⟩ = some (.int .i64 t737) ∧ w'.cell? ⟨gb742, 8, none⟩ = some (.int .i64 t738) ∧ w'.cell? ⟨gb742, 9, none⟩ = some (.int .i64 t739) ∧ w'.cell? ⟨gb742, 10, none⟩ = some (.int .i64 t740) ∧ w'.cell? ⟨gb742, 11, none⟩ = some (.int .i64 t741) ∧ w'.cell? ⟨gb768, 0, none⟩ = some (.int .i64 (wrap64 (t720 + t726))) ∧ w'.cell? ⟨gb768, 1, none⟩ = some (.int .i64 (wrap64 (t721 + t727))) ∧ w'.cell? ⟨gb729, 0, none⟩ = some (.int .i64 t726) ∧ w'.cell? ⟨gb729, 1, none⟩ = some (.int .i64 t727) ∧ w'.cell? ⟨gb728, 0, none⟩ = some (.int .i64 t714) ∧ w'.cell? ⟨gb728, 1, none⟩ = some (.int .i64 t715) ∧ w'.cell? ⟨gb728, 2, none⟩ = some (.int .i64 t716) ∧ w'.cell? ⟨gb728, 3, none⟩ = some (.int .i64 t717) ∧ w'.cell? ⟨gb728, 4, none⟩ = some (.int .i64 t718) ∧ w'.cell? ⟨gb728, 5, none⟩ = some (.int .i64 t719) ∧ w'.cell? ⟨gb728, 6, none⟩ = some (.int .i64 t720) ∧ w'.cell? ⟨gb728, 7, none⟩ = some (.int .i64 t721) ∧ w'.cell? ⟨gb728, 8, none⟩ = some (.int .i64 t722) ∧ w'.cell? ⟨gb728, 9, none⟩ = some (.int .i64 t723) ∧ w'.cell? ⟨gb728, 10, none⟩ = some (.int .i64 t724) ∧ w'.cell? ⟨gb728, 11, none⟩ = some (.int .i64 t725)) (ds := []) #[false, false, false, false, false, false, false, false, false, false, false, false, false, false, false, false, false, false, false, false] (by kernel_rfl) rfl rfl ⟨bc BK742 0, bc BK742 1, bc BK742 2, bc BK742 3, bc BK742 4, bc BK742 5, bc BK742 6, bc BK742 7, bc BK742 8, bc BK742 9, bc BK742 10, bc BK742 11, bc BK768 0, bc BK768 1, bc BK729 0, bc BK729 1, bc BK728 0, bc BK728 1, bc BK728 2, bc BK728 3, bc BK728 4, bc BK728 5, bc BK728 6, bc BK728 7, bc BK728 8, bc BK728 9, bc BK728 10, bc BK728 11⟩ (fun hHeld => ?_); refine with_tabW laws_FnBodyPush.tab12 laws_FnBodyPush.bits12 (fun HT_ HW_ => ?_)
        generalize wc.drew = w164 at BK728 BK729 BK742 BK768 HB hHeld ⊢
        refine pu 0 (some 111) (fl 20 1) HT_ ?_
        refine tk28 1 (some 112) (fl 20 3) HT_ HW_ hHeld ?_
        refine tk28 2 (some 113) (fl 20 7) HT_ HW_ hHeld ?_
        refine pu 3 (some 114) (fl 20 15) HT_ ?_
        refine pu 4 (some 115) (fl 20 31) HT_ ?_
        refine pu 6 (some 117) (fl 20 95) HT_ ?_
        refine pu 9 (some 120) (fl 20 607) HT_ ?_
        refine pu 15 (some 126) (fl 20 33375) HT_ ?_
        refine tk28 5 (some 116) (fl 20 33407) HT_ HW_ hHeld ?_
        refine tk28 7 (some 118) (fl 20 33535) HT_ HW_ hHeld ?_
        refine pu 8 (some 119) (fl 20 33791) HT_ ?_
        refine tk28 10 (some 121) (fl 20 34815) HT_ HW_ hHeld ?_
        refine pu 11 (some 122) (fl 20 36863) HT_ ?_
        refine pu 12 (some 123) (fl 20 40959) HT_ ?_
        refine tk28 16 (some 127) (fl 20 106495) HT_ HW_ hHeld ?_
        refine on 13 (some 124) (fl 20 114687) HT_ (fun K hK => ?_)
        refine go1 Try.func21 #[.agg #[.int .i64 t730, .int .i64 t731, .int .i64 t732, .int .i64 t733, .int .i64 t734, .int .i64 t735, .int .i64 t736, .int .i64 t737, .int .i64 t738, .int .i64 t739, .int .i64 t740, .int .i64 t741], .agg #[.int .i64 (wrap64 (-t726)), .int .i64 (wrap64 (-t727))]] ?_
        with_reducible refine (impl_BodyPush.calls kj41 t730 t731 t732 t733 t734 t735 t736 t737 t738 t739 t740 t741 (wrap64 (-t726)) (wrap64 (-t727)) t775 t776 t777 t778 t779 t780 t781 t782 t783 t784 t785 t786 _ A163.out).mono ?_
        rintro e w165 ⟨rfl, hb⟩
        refine ⟨_, rfl, ?_⟩
        replace BK728 := kBB BK728 hb
        replace BK729 := kBB BK729 hb
        replace BK742 := kBB BK742 hb
        replace BK768 := kBB BK768 hb
        replace HB := bS HB hb
        clear hb
        refine hK.out _ _ ⟨bc BK742 0, bc BK742 1, bc BK742 2, bc BK742 3, bc BK742 4, bc BK742 5, bc BK742 6, bc BK742 7, bc BK742 8, bc BK742 9, bc BK742 10, bc BK742 11, bc BK768 0, bc BK768 1, bc BK729 0, bc BK729 1, bc BK728 0, bc BK728 1, bc BK728 2, bc BK728 3, bc BK728 4, bc BK728 5, bc BK728 6, bc BK728 7, bc BK728 8, bc BK728 9, bc BK728 10, bc BK728 11⟩ (fun hHeld => ?_)
        clear hK K
        refine nm (some 124) ?_
        refine pu 14 (some 125) (v := .agg #[.int .i64 t781, .int .i64 t782]) #[true, true, true, true, true, true, true, true, true, true, true, true, true, true, true, true, true, false, false, false] HT_ ?_ (hy := Or.inl ⟨by rfl, fun w' => by kernel_rfl⟩)
        refine pu 17 (some 128) (fl 20 262143) HT_ ?_
        refine pu 18 (some 129) (fl 20 524287) HT_ ?_
        refine pu 19 (some 2) (fl 20 1048575) HT_ ?_
        refine done_ (done_of HT_.out (by kernel_rfl)) ?_
        try go_wp2
        go_ret
        exact ⟨qE, qL HB⟩
      rw [if_neg c162] at H
      have c162b0 : (t736 == (wrap64 (t720 + t726)) && (t737 == (wrap64 (t721 + t727)))) = false := by simpa using c162
      (try (have c162b1 : decide (t736 = (wrap64 (t720 + t726)) && (t737 == (wrap64 (t721 + t727)))) = false := by simpa using c162))
      (try (have c162b2 : (t736 == (wrap64 (t720 + t726)) && (t737 == (wrap64 (t721 + t727)))) = false := by simpa using c162))
      (try (have c162b3 : ¬ (t736 = (wrap64 (t720 + t726)) && (t737 == (wrap64 (t721 + t727)))) := by simpa using c162))
      clear c162
      obtain rfl := Option.some.inj H
      try go_wp2
      replace BK728 := az (blk_drew BK728.out)
      replace BK729 := az (blk_drew BK729.out)
      replace BK742 := az (blk_drew BK742.out)
      replace BK768 := az (blk_drew BK768.out)
      replace HB := az (below_drew1 HB.out)
      refine start_ (n := 20) (S := fun w' => w'.cell? ⟨gb742, 0, none⟩ = some (.int .i64 t730) ∧ w'.cell? ⟨gb742, 1, none⟩ = some (.int .i64 t731) ∧ w'.cell? ⟨gb742, 2, none⟩ = some (.int .i64 t732) ∧ w'.cell? ⟨gb742, 3, none⟩ = some (.int .i64 t733) ∧ w'.cell? ⟨gb742, 4, none⟩ = some (.int .i64 t734) ∧ w'.cell? ⟨gb742, 5, none⟩ = some (.int .i64 t735) ∧ w'.cell? ⟨gb742, 6, none⟩ = some (.int .i64 t736) ∧ w'.cell? ⟨gb742, 7, none⟩ = some (.int .i64 t737) ∧ w'.cell? ⟨gb742, 8, none⟩ = some (.int .i64 t738) ∧ w'.cell? ⟨gb742, 9, none⟩ = some (.int .i64 t739) ∧ w'.cell? ⟨gb742, 10, none⟩ = some (.int .i64 t740) ∧ w'.cell? ⟨gb742, 11, none⟩ = some (.int .i64 t741) ∧ w'.cell? ⟨gb768, 0, none⟩ = some (.int .i64 (wrap64 (t720 + t726))) ∧ w'.cell? ⟨gb768, 1, none⟩ = some (.int .i64 (wrap64 (t721 + t727)))) (ds := []) #[false, false, false, false, false, false, false, false, false, false, false, false, false, false, false, false, false, false, false, false] (by kernel_rfl) rfl rfl ⟨bc BK742 0, bc BK742 1, bc BK742 2, bc BK742 3, bc BK742 4, bc BK742 5, bc BK742 6, bc BK742 7, bc BK742 8, bc BK742 9, bc BK742 10, bc BK742 11, bc BK768 0, bc BK768 1⟩ (fun hHeld => ?_); refine with_tabW laws_FnBodyPush.tab12 laws_FnBodyPush.bits12 (fun HT_ HW_ => ?_)
      generalize wc.drew = w166 at BK728 BK729 BK742 BK768 HB hHeld ⊢
      refine pu 0 (some 111) (fl 20 1) HT_ ?_
      refine tk14 1 (some 112) (fl 20 3) HT_ HW_ hHeld ?_
      refine tk14 2 (some 113) (fl 20 7) HT_ HW_ hHeld ?_
      refine pu 3 (some 114) (fl 20 15) HT_ ?_
      refine pu 4 (some 115) (fl 20 31) HT_ ?_
      refine pv 5 (some 116) (fl 20 63) HT_ ?_
      refine pv 6 (some 117) (fl 20 127) HT_ ?_
      refine pv 7 (some 118) (fl 20 255) HT_ ?_
      refine pv 8 (some 119) (fl 20 511) HT_ ?_
      refine pv 9 (some 120) (fl 20 1023) HT_ ?_
      refine pv 10 (some 121) (fl 20 2047) HT_ ?_
      refine pv 11 (some 122) (fl 20 4095) HT_ ?_
      refine pv 12 (some 123) (fl 20 8191) HT_ ?_
      refine pv 13 (some 124) (fl 20 16383) HT_ ?_
      refine pv 14 (some 125) (fl 20 32767) HT_ ?_
      refine pv 15 (some 126) (fl 20 65535) HT_ ?_
      refine pv 16 (some 127) (fl 20 131071) HT_ ?_
      refine pv 17 (some 128) (fl 20 262143) HT_ ?_
      refine pu 18 (some 129) (fl 20 524287) HT_ ?_
      refine pu 19 (some 2) (fl 20 1048575) HT_ ?_
      refine done_ (done_of HT_.out (by kernel_rfl)) ?_
      try go_wp2
      go_ret
      exact ⟨qE, qL HB⟩

/-- THE ONE PURE STATEMENT of laws_FnBodyPush: yours. -/
def laws_FnBodyPush.Pure : Prop := ∀ (l0 : List Int), l0.length ≤ maxLen → l0.length * 1 ≤ 140737488351232 → (∀ x ∈ l0, (Lit.int .u8 x).wf = true) → ∃ k, laws_FnBodyPush.f k l0 = some true
theorem laws_FnBodyPush.walk (P : laws_FnBodyPush.Pure) (a0 : Option Addr) (len0 cap0 : Nat) (z0 : List Int) (w : World) (w0 : (a0 = none ∧ len0 = 0 ∧ cap0 = 0 ∧ z0 = []) ∨ ∃ x, a0 = some x ∧ len0 ≤ cap0 ∧ cap0 ≤ maxLen ∧ z0.length = cap0 ∧ (∀ i, i < z0.length → w.cell? (x.add i) = some (.int .u8 (z0.getD i 0))) ∧ ∀ n ∈ z0, (Lit.int .u8 n).wf = true) (y0 : len0 * 1 ≤ 140737488351232) :
    Calls Try.prog 6 #[.slice a0 len0 cap0] w fun e w' => e = .returned (.bool true) ∧ Below w.heap.size w w' := by
  obtain ⟨l0, rfl, hr0, hm0, hw0, hc0⟩ := ReadsInt.ofRowC w0
  obtain ⟨k, h⟩ := P l0 hm0 y0 hw0
  refine (laws_FnBodyPush.calls k _ _ l0 true w (Kd.C_of_reads (d := (0 : Int)) (h1 := fun _ => rfl) hr0) hc0 h).mono ?_
  rintro e w' ⟨rfl, hd⟩
  exact ⟨rfl, hd⟩
end Go.Proofs.Ytihajbjkjclmoaa.PBig
