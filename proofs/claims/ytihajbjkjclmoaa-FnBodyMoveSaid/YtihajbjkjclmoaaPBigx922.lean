/- What these functions compute, each walked once: laws_FnBodyMove; for all arguments and worlds, under the conditions that each theorem names. -/
import Derived.Test.YtihajbjkjclmoaaSq
import Derived.Test.YtihajbjkjclmoaaPBigx900
import Derived.Test.YtihajbjkjclmoaaPBigx909
import Derived.Test.YtihajbjkjclmoaaPBigx910
import Derived.Test.YtihajbjkjclmoaaPBigx911
import Derived.Test.YtihajbjkjclmoaaPBigx913
import Derived.Test.YtihajbjkjclmoaaPBigx914
import Derived.Test.YtihajbjkjclmoaaPBigx921
namespace Go.Proofs.Ytihajbjkjclmoaa.PBig
open Go.RowKit Go.Proofs.YtihajbjkjclmoaaW.PrintWords Go.Proofs.YtihajbjkjclmoaaW.PrintLast Go.Proofs.YtihajbjkjclmoaaW.PrintMore
attribute [local go_sem] max2_int min2_int max_two min_two max_three min_three max_four min_four   -- for this text's walks alone
set_option linter.unusedVariables false
set_option linter.unusedSimpArgs false

attribute [local go_sem high] eqA40
/-! ### laws_FnBodyMove: function 7 -/
mutual
def laws_FnBodyMove.j0 : Nat → Bool → Int → Int → Int → Int → Int → Int → Int → Int → Int → Int → Int → Int → Int → Int → Int → Int → Int → Int → Int → Int → Int → Int → Int → Int → Option (Bool)
  | 0, _, _, _, _, _, _, _, _, _, _, _, _, _, _, _, _, _, _, _, _, _, _, _, _, _ => none
  | k + 1, x22, x833000, x833001, x833002, x833003, x833004, x833005, x833006, x833007, x833008, x833009, x833010, x833011, x846000, x846001, x846002, x846003, x846004, x846005, x846006, x846007, x846008, x846009, x846010, x846011 => if x22 = true then ((spec_BodyMove.f k x833000 x833001 x833002 x833003 x833004 x833005 x833006 x833007 x833008 x833009 x833010 x833011).bind fun bt859 => (some (x846000 == bt859.1 && ((x846001 == bt859.2.1 && (x846002 == bt859.2.2.1 && (x846003 == bt859.2.2.2.1))) && ((x846004 == bt859.2.2.2.2.1 && (x846005 == bt859.2.2.2.2.2.1)) && ((x846006 == bt859.2.2.2.2.2.2.1 && (x846007 == bt859.2.2.2.2.2.2.2.1)) && (x846008 == bt859.2.2.2.2.2.2.2.2.1 && (x846009 == bt859.2.2.2.2.2.2.2.2.2.1 && (x846010 == bt859.2.2.2.2.2.2.2.2.2.2.1 && (x846011 == bt859.2.2.2.2.2.2.2.2.2.2.2)))))))))) else ((impl_BodySpeed.f k x833000 x833001 x833002 x833003 x833004 x833005 x833006 x833007 x833008 x833009 x833010 x833011).bind fun bt871 => ((impl_VecAdd.f x833004 x833005 bt871.1 bt871.2).bind fun bt874 => ((laws_pqAbs.f bt874.1).bind fun t877 => (if t877 > 2560000 then (laws_FnBodyMove.j1 k true x833000 x833001 x833002 x833003 x833004 x833005 x833006 x833007 x833008 x833009 x833010 x833011 x846000 x846001 x846002 x846003 x846004 x846005 x846006 x846007 x846008 x846009 x846010 x846011 bt874.1 bt874.2) else ((laws_pqAbs.f bt874.2).bind fun t878 => (laws_FnBodyMove.j1 k (decide (t878 > 2560000)) x833000 x833001 x833002 x833003 x833004 x833005 x833006 x833007 x833008 x833009 x833010 x833011 x846000 x846001 x846002 x846003 x846004 x846005 x846006 x846007 x846008 x846009 x846010 x846011 bt874.1 bt874.2))))))
def laws_FnBodyMove.j1 : Nat → Bool → Int → Int → Int → Int → Int → Int → Int → Int → Int → Int → Int → Int → Int → Int → Int → Int → Int → Int → Int → Int → Int → Int → Int → Int → Int → Int → Option (Bool)
  | 0, _, _, _, _, _, _, _, _, _, _, _, _, _, _, _, _, _, _, _, _, _, _, _, _, _, _, _ => none
  | k + 1, x42, x833000, x833001, x833002, x833003, x833004, x833005, x833006, x833007, x833008, x833009, x833010, x833011, x846000, x846001, x846002, x846003, x846004, x846005, x846006, x846007, x846008, x846009, x846010, x846011, x877000, x877001 => if x42 = true then ((impl_BodyOk.f k x846000 x846001 x846002 x846003 x846004 x846005 x846006 x846007 x846008 x846009 x846010 x846011).bind fun t879 => (if t879 = true then ((laws_pqAbs.f x846004).bind fun t880 => (if t880 ≤ 2560000 then ((laws_pqAbs.f x846005).bind fun t881 => (some (decide (t881 ≤ 2560000)))) else (some false))) else (some false))) else (some (x846000 == x833000 && ((x846001 == x833001 && (x846002 == x833002 && (x846003 == x833003))) && ((x846004 == x877000 && (x846005 == x877001)) && ((x846006 == x833006 && (x846007 == x833007)) && (x846008 == x833008 && (x846009 == x833009 && (x846010 == x833010 && (x846011 == x833011)))))))))
end
def laws_FnBodyMove.f (k : Nat) (l0 : List Int) : Option (Bool) := if (l0.length : Int) > 1048576 then (some true) else ((spec_DrawBodyMove.f k l0).bind fun bt820 => ((impl_BodyMove.f k bt820.1 bt820.2.1 bt820.2.2.1 bt820.2.2.2.1 bt820.2.2.2.2.1 bt820.2.2.2.2.2.1 bt820.2.2.2.2.2.2.1 bt820.2.2.2.2.2.2.2.1 bt820.2.2.2.2.2.2.2.2.1 bt820.2.2.2.2.2.2.2.2.2.1 bt820.2.2.2.2.2.2.2.2.2.2.1 bt820.2.2.2.2.2.2.2.2.2.2.2).bind fun bt833 => ((spec_BodyMove.f k bt820.1 bt820.2.1 bt820.2.2.1 bt820.2.2.2.1 bt820.2.2.2.2.1 bt820.2.2.2.2.2.1 bt820.2.2.2.2.2.2.1 bt820.2.2.2.2.2.2.2.1 bt820.2.2.2.2.2.2.2.2.1 bt820.2.2.2.2.2.2.2.2.2.1 bt820.2.2.2.2.2.2.2.2.2.2.1 bt820.2.2.2.2.2.2.2.2.2.2.2).bind fun bt846 => (if (!(bt833.1 == bt846.1) || ((!(bt833.2.1 == bt846.2.1) || (!(bt833.2.2.1 == bt846.2.2.1) || (!(bt833.2.2.2.1 == bt846.2.2.2.1)))) || ((!(bt833.2.2.2.2.1 == bt846.2.2.2.2.1) || (!(bt833.2.2.2.2.2.1 == bt846.2.2.2.2.2.1))) || ((!(bt833.2.2.2.2.2.2.1 == bt846.2.2.2.2.2.2.1) || (!(bt833.2.2.2.2.2.2.2.1 == bt846.2.2.2.2.2.2.2.1))) || (!(bt833.2.2.2.2.2.2.2.2.1 == bt846.2.2.2.2.2.2.2.2.1) || (!(bt833.2.2.2.2.2.2.2.2.2.1 == bt846.2.2.2.2.2.2.2.2.2.1) || (!(bt833.2.2.2.2.2.2.2.2.2.2.1 == bt846.2.2.2.2.2.2.2.2.2.2.1) || (!(bt833.2.2.2.2.2.2.2.2.2.2.2 == bt846.2.2.2.2.2.2.2.2.2.2.2))))))))) = true then (laws_FnBodyMove.j0 k true bt820.1 bt820.2.1 bt820.2.2.1 bt820.2.2.2.1 bt820.2.2.2.2.1 bt820.2.2.2.2.2.1 bt820.2.2.2.2.2.2.1 bt820.2.2.2.2.2.2.2.1 bt820.2.2.2.2.2.2.2.2.1 bt820.2.2.2.2.2.2.2.2.2.1 bt820.2.2.2.2.2.2.2.2.2.2.1 bt820.2.2.2.2.2.2.2.2.2.2.2 bt833.1 bt833.2.1 bt833.2.2.1 bt833.2.2.2.1 bt833.2.2.2.2.1 bt833.2.2.2.2.2.1 bt833.2.2.2.2.2.2.1 bt833.2.2.2.2.2.2.2.1 bt833.2.2.2.2.2.2.2.2.1 bt833.2.2.2.2.2.2.2.2.2.1 bt833.2.2.2.2.2.2.2.2.2.2.1 bt833.2.2.2.2.2.2.2.2.2.2.2) else ((spec_BodyOk.f k bt820.1 bt820.2.1 bt820.2.2.1 bt820.2.2.2.1 bt820.2.2.2.2.1 bt820.2.2.2.2.2.1 bt820.2.2.2.2.2.2.1 bt820.2.2.2.2.2.2.2.1 bt820.2.2.2.2.2.2.2.2.1 bt820.2.2.2.2.2.2.2.2.2.1 bt820.2.2.2.2.2.2.2.2.2.2.1 bt820.2.2.2.2.2.2.2.2.2.2.2).bind fun t858 => (laws_FnBodyMove.j0 k (!t858) bt820.1 bt820.2.1 bt820.2.2.1 bt820.2.2.2.1 bt820.2.2.2.2.1 bt820.2.2.2.2.2.1 bt820.2.2.2.2.2.2.1 bt820.2.2.2.2.2.2.2.1 bt820.2.2.2.2.2.2.2.2.1 bt820.2.2.2.2.2.2.2.2.2.1 bt820.2.2.2.2.2.2.2.2.2.2.1 bt820.2.2.2.2.2.2.2.2.2.2.2 bt833.1 bt833.2.1 bt833.2.2.1 bt833.2.2.2.1 bt833.2.2.2.2.1 bt833.2.2.2.2.2.1 bt833.2.2.2.2.2.2.1 bt833.2.2.2.2.2.2.2.1 bt833.2.2.2.2.2.2.2.2.1 bt833.2.2.2.2.2.2.2.2.2.1 bt833.2.2.2.2.2.2.2.2.2.2.1 bt833.2.2.2.2.2.2.2.2.2.2.2))))))
theorem laws_FnBodyMove.mono_l : ∀ k, (∀ y0 y1 y2 y3 y4 y5 y6 y7 y8 y9 y10 y11 y12 y13 y14 y15 y16 y17 y18 y19 y20 y21 y22 y23 y24, LeO (laws_FnBodyMove.j0 k y0 y1 y2 y3 y4 y5 y6 y7 y8 y9 y10 y11 y12 y13 y14 y15 y16 y17 y18 y19 y20 y21 y22 y23 y24) (laws_FnBodyMove.j0 (k + 1) y0 y1 y2 y3 y4 y5 y6 y7 y8 y9 y10 y11 y12 y13 y14 y15 y16 y17 y18 y19 y20 y21 y22 y23 y24)) ∧ (∀ y0 y1 y2 y3 y4 y5 y6 y7 y8 y9 y10 y11 y12 y13 y14 y15 y16 y17 y18 y19 y20 y21 y22 y23 y24 y25 y26, LeO (laws_FnBodyMove.j1 k y0 y1 y2 y3 y4 y5 y6 y7 y8 y9 y10 y11 y12 y13 y14 y15 y16 y17 y18 y19 y20 y21 y22 y23 y24 y25 y26) (laws_FnBodyMove.j1 (k + 1) y0 y1 y2 y3 y4 y5 y6 y7 y8 y9 y10 y11 y12 y13 y14 y15 y16 y17 y18 y19 y20 y21 y22 y23 y24 y25 y26))
  | 0 => ⟨fun _ _ _ _ _ _ _ _ _ _ _ _ _ _ _ _ _ _ _ _ _ _ _ _ _ r h => by simp [laws_FnBodyMove.j0] at h, fun _ _ _ _ _ _ _ _ _ _ _ _ _ _ _ _ _ _ _ _ _ _ _ _ _ _ _ r h => by simp [laws_FnBodyMove.j1] at h⟩
  | k + 1 => by
    obtain ⟨ih0, ih1⟩ := laws_FnBodyMove.mono_l k
    refine ⟨?_, ?_⟩
    · intro y0 y1 y2 y3 y4 y5 y6 y7 y8 y9 y10 y11 y12 y13 y14 y15 y16 y17 y18 y19 y20 y21 y22 y23 y24
      unfold laws_FnBodyMove.j0
      repeat' first
      | (with_reducible exact ih0 _ _ _ _ _ _ _ _ _ _ _ _ _ _ _ _ _ _ _ _ _ _ _ _ _)
      | (with_reducible exact ih1 _ _ _ _ _ _ _ _ _ _ _ _ _ _ _ _ _ _ _ _ _ _ _ _ _ _ _)
      | (with_reducible exact impl_BodyMove.mono _ _ _ _ _ _ _ _ _ _ _ _ _)
      | (with_reducible exact impl_BodyOk.mono _ _ _ _ _ _ _ _ _ _ _ _ _)
      | (with_reducible exact impl_BodySpeed.mono _ _ _ _ _ _ _ _ _ _ _ _ _)
      | (with_reducible exact spec_BodyMove.mono _ _ _ _ _ _ _ _ _ _ _ _ _)
      | (with_reducible exact spec_BodyOk.mono _ _ _ _ _ _ _ _ _ _ _ _ _)
      | (with_reducible exact spec_DrawBodyMove.mono _ _)
      | (with_reducible exact LeO.refl _)
      | (with_reducible exact LeO.none _)
      | (with_reducible refine LeO.ite ?_ ?_)
      | (with_reducible refine LeO.bind ?_ (fun _ => ?_))
    · intro y0 y1 y2 y3 y4 y5 y6 y7 y8 y9 y10 y11 y12 y13 y14 y15 y16 y17 y18 y19 y20 y21 y22 y23 y24 y25 y26
      unfold laws_FnBodyMove.j1
      repeat' first
      | (with_reducible exact ih0 _ _ _ _ _ _ _ _ _ _ _ _ _ _ _ _ _ _ _ _ _ _ _ _ _)
      | (with_reducible exact ih1 _ _ _ _ _ _ _ _ _ _ _ _ _ _ _ _ _ _ _ _ _ _ _ _ _ _ _)
      | (with_reducible exact impl_BodyMove.mono _ _ _ _ _ _ _ _ _ _ _ _ _)
      | (with_reducible exact impl_BodyOk.mono _ _ _ _ _ _ _ _ _ _ _ _ _)
      | (with_reducible exact impl_BodySpeed.mono _ _ _ _ _ _ _ _ _ _ _ _ _)
      | (with_reducible exact spec_BodyMove.mono _ _ _ _ _ _ _ _ _ _ _ _ _)
      | (with_reducible exact spec_BodyOk.mono _ _ _ _ _ _ _ _ _ _ _ _ _)
      | (with_reducible exact spec_DrawBodyMove.mono _ _)
      | (with_reducible exact LeO.refl _)
      | (with_reducible exact LeO.none _)
      | (with_reducible refine LeO.ite ?_ ?_)
      | (with_reducible refine LeO.bind ?_ (fun _ => ?_))
theorem laws_FnBodyMove.mono : ∀ a0 k, LeO (laws_FnBodyMove.f k a0) (laws_FnBodyMove.f (k + 1) a0) := by
  intro a0 k
  obtain ⟨ih0, ih1⟩ := laws_FnBodyMove.mono_l k
  unfold laws_FnBodyMove.f
  repeat' first
      | (with_reducible exact ih0 _ _ _ _ _ _ _ _ _ _ _ _ _ _ _ _ _ _ _ _ _ _ _ _ _)
      | (with_reducible exact ih1 _ _ _ _ _ _ _ _ _ _ _ _ _ _ _ _ _ _ _ _ _ _ _ _ _ _ _)
      | (with_reducible exact impl_BodyMove.mono _ _ _ _ _ _ _ _ _ _ _ _ _)
      | (with_reducible exact impl_BodyOk.mono _ _ _ _ _ _ _ _ _ _ _ _ _)
      | (with_reducible exact impl_BodySpeed.mono _ _ _ _ _ _ _ _ _ _ _ _ _)
      | (with_reducible exact spec_BodyMove.mono _ _ _ _ _ _ _ _ _ _ _ _ _)
      | (with_reducible exact spec_BodyOk.mono _ _ _ _ _ _ _ _ _ _ _ _ _)
      | (with_reducible exact spec_DrawBodyMove.mono _ _)
      | (with_reducible exact LeO.refl _)
      | (with_reducible exact LeO.none _)
      | (with_reducible refine LeO.ite ?_ ?_)
      | (with_reducible refine LeO.bind ?_ (fun _ => ?_))
def laws_FnBodyMove.T5 : Bool × List (List Nat × List Nat) := (true, [([], []), ([], []), ([1], [1]), ([0, 2], [0, 2]), ([3, 2], [3]), ([4], [4]), ([5, 4, 4], [4, 5]), ([6, 4], [4, 6]), ([4, 7], [4, 7])])
def laws_FnBodyMove.B5 : List Nat := [0, 0, 2, 7, 15, 31, 63, 127, 255]
theorem laws_FnBodyMove.tab5 : rtab .any (opsOf Try.f7 5) = laws_FnBodyMove.T5 := by kernel_rfl
theorem laws_FnBodyMove.bits5 : waitsOk laws_FnBodyMove.T5.2 laws_FnBodyMove.B5 = true := by kernel_rfl
set_option maxHeartbeats 8000000 in
set_option maxRecDepth 100000 in
theorem laws_FnBodyMove.calls (k : Nat) (A0 : Option Addr) (c0 : Nat) (l0 : List Int) (r : Bool) (w : World) (hr0 : Kd.C (Kd.int .u8) w A0 l0.length l0) (hc0 : l0.length ≤ c0) (h : laws_FnBodyMove.f k l0 = some r) :
    Calls Try.prog 7 #[.slice A0 l0.length c0] w fun e w' => e = .returned (.bool r) ∧ Below w.heap.size w w' := by
  have hu40 := Try.underlying40
  have hu24 := Try.underlying24
  have HR0 := az hr0
  have HC0 := az hc0
  clear hr0 hc0
  have HB := az (Below.refl w.heap.size w)
  have H : (if (l0.length : Int) > 1048576 then (some true) else ((spec_DrawBodyMove.f k l0).bind fun bt820 => ((impl_BodyMove.f k bt820.1 bt820.2.1 bt820.2.2.1 bt820.2.2.2.1 bt820.2.2.2.2.1 bt820.2.2.2.2.2.1 bt820.2.2.2.2.2.2.1 bt820.2.2.2.2.2.2.2.1 bt820.2.2.2.2.2.2.2.2.1 bt820.2.2.2.2.2.2.2.2.2.1 bt820.2.2.2.2.2.2.2.2.2.2.1 bt820.2.2.2.2.2.2.2.2.2.2.2).bind fun bt833 => ((spec_BodyMove.f k bt820.1 bt820.2.1 bt820.2.2.1 bt820.2.2.2.1 bt820.2.2.2.2.1 bt820.2.2.2.2.2.1 bt820.2.2.2.2.2.2.1 bt820.2.2.2.2.2.2.2.1 bt820.2.2.2.2.2.2.2.2.1 bt820.2.2.2.2.2.2.2.2.2.1 bt820.2.2.2.2.2.2.2.2.2.2.1 bt820.2.2.2.2.2.2.2.2.2.2.2).bind fun bt846 => (if (!(bt833.1 == bt846.1) || ((!(bt833.2.1 == bt846.2.1) || (!(bt833.2.2.1 == bt846.2.2.1) || (!(bt833.2.2.2.1 == bt846.2.2.2.1)))) || ((!(bt833.2.2.2.2.1 == bt846.2.2.2.2.1) || (!(bt833.2.2.2.2.2.1 == bt846.2.2.2.2.2.1))) || ((!(bt833.2.2.2.2.2.2.1 == bt846.2.2.2.2.2.2.1) || (!(bt833.2.2.2.2.2.2.2.1 == bt846.2.2.2.2.2.2.2.1))) || (!(bt833.2.2.2.2.2.2.2.2.1 == bt846.2.2.2.2.2.2.2.2.1) || (!(bt833.2.2.2.2.2.2.2.2.2.1 == bt846.2.2.2.2.2.2.2.2.2.1) || (!(bt833.2.2.2.2.2.2.2.2.2.2.1 == bt846.2.2.2.2.2.2.2.2.2.2.1) || (!(bt833.2.2.2.2.2.2.2.2.2.2.2 == bt846.2.2.2.2.2.2.2.2.2.2.2))))))))) = true then (laws_FnBodyMove.j0 k true bt820.1 bt820.2.1 bt820.2.2.1 bt820.2.2.2.1 bt820.2.2.2.2.1 bt820.2.2.2.2.2.1 bt820.2.2.2.2.2.2.1 bt820.2.2.2.2.2.2.2.1 bt820.2.2.2.2.2.2.2.2.1 bt820.2.2.2.2.2.2.2.2.2.1 bt820.2.2.2.2.2.2.2.2.2.2.1 bt820.2.2.2.2.2.2.2.2.2.2.2 bt833.1 bt833.2.1 bt833.2.2.1 bt833.2.2.2.1 bt833.2.2.2.2.1 bt833.2.2.2.2.2.1 bt833.2.2.2.2.2.2.1 bt833.2.2.2.2.2.2.2.1 bt833.2.2.2.2.2.2.2.2.1 bt833.2.2.2.2.2.2.2.2.2.1 bt833.2.2.2.2.2.2.2.2.2.2.1 bt833.2.2.2.2.2.2.2.2.2.2.2) else ((spec_BodyOk.f k bt820.1 bt820.2.1 bt820.2.2.1 bt820.2.2.2.1 bt820.2.2.2.2.1 bt820.2.2.2.2.2.1 bt820.2.2.2.2.2.2.1 bt820.2.2.2.2.2.2.2.1 bt820.2.2.2.2.2.2.2.2.1 bt820.2.2.2.2.2.2.2.2.2.1 bt820.2.2.2.2.2.2.2.2.2.2.1 bt820.2.2.2.2.2.2.2.2.2.2.2).bind fun t858 => (laws_FnBodyMove.j0 k (!t858) bt820.1 bt820.2.1 bt820.2.2.1 bt820.2.2.2.1 bt820.2.2.2.2.1 bt820.2.2.2.2.2.1 bt820.2.2.2.2.2.2.1 bt820.2.2.2.2.2.2.2.1 bt820.2.2.2.2.2.2.2.2.1 bt820.2.2.2.2.2.2.2.2.2.1 bt820.2.2.2.2.2.2.2.2.2.2.1 bt820.2.2.2.2.2.2.2.2.2.2.2 bt833.1 bt833.2.1 bt833.2.2.1 bt833.2.2.2.1 bt833.2.2.2.2.1 bt833.2.2.2.2.2.1 bt833.2.2.2.2.2.2.1 bt833.2.2.2.2.2.2.2.1 bt833.2.2.2.2.2.2.2.2.1 bt833.2.2.2.2.2.2.2.2.2.1 bt833.2.2.2.2.2.2.2.2.2.2.1 bt833.2.2.2.2.2.2.2.2.2.2.2))))))) = some r := h
  clear h
  by_cases c2 : (l0.length : Int) > 1048576
  · rw [if_pos c2] at H
    have c2b0 : decide (1048576 < (l0.length : Int)) = true := decide_eq_true c2
    have c2b1 : decide (1048576 < l0.length) = true := decide_eq_true (by omega)
    clear c2
    obtain rfl := Option.some.inj H
    go_enter Try.func7, Try.ntmps7
    go_wp2
    go_ret
    exact ⟨qE, qL HB⟩
  rw [if_neg c2] at H
  have c2b0 : decide (1048576 < (l0.length : Int)) = false := decide_eq_false c2
  have c2b1 : decide (1048576 < l0.length) = false := decide_eq_false (by omega)
  clear c2
  replace H := qH H
  obtain ⟨⟨t820, t821, t822, t823, t824, t825, t826, t827, t828, t829, t830, t831⟩, A3, H⟩ := H
  try dsimp only at H
  replace H := qH H
  obtain ⟨⟨t833, t834, t835, t836, t837, t838, t839, t840, t841, t842, t843, t844⟩, A4, H⟩ := H
  try dsimp only at H
  have HC5 := az H
  clear H
  go_enter Try.func7, Try.ntmps7
  go_upto_region 5 with (first | ((with_reducible refine gate_callee (f := 30) rfl ?_); refine gl (some 11) Try.func30 #[.slice A0 l0.length c0] ?_; (with_reducible refine (spec_DrawBodyMove.calls k _ _ l0 t820 t821 t822 t823 t824 t825 t826 t827 t828 t829 t830 t831 _ ?side1 ?side2 A3.out).mono ?_); (case side1 => repeat (first | exact HR0.out | (with_reducible refine Kd.C_alloc ?_ _) | (with_reducible refine Kd.C_drewN ?_ _) | (with_reducible refine Kd.C_drew ?_))); (case side2 => exact HC0.out); rintro e w6 ⟨rfl, hb⟩; refine ⟨_, rfl, ?_⟩; replace HB := bS HB hb; clear hb) | ((with_reducible refine gate_dst (N := 3) rfl ?_); refine bx (N := 3) (cs := #[.int .i64 0, .int .i64 0, .int .i64 0, .int .i64 0, .int .i64 0, .int .i64 0, .int .i64 0, .int .i64 0, .int .i64 0, .int .i64 0, .int .i64 0, .int .i64 0]) (t := 40) ?_; intro gb832 hg w7 hbox hb; have BK832 := az hbox; have GW832 := az ((gE hg (qL HB) : w.heap.size ≤ gb832)); have GE832 := GW832; replace HB := bS HB hb; clear hb hbox hg; obtain ⟨hcz8_0, hcz8_1, hcz8_2, hcz8_3, hcz8_4, hcz8_5, hcz8_6, hcz8_7, hcz8_8, hcz8_9, hcz8_10, hcz8_11⟩ := cz12 BK832.out; obtain ⟨hfz8_0, hfz8_1, hfz8_2, hfz8_3, hfz8_4, hfz8_5, hfz8_6, hfz8_7, hfz8_8, hfz8_9, hfz8_10, hfz8_11⟩ := fz12 BK832.out) | ((with_reducible refine gate_callee (f := 24) rfl ?_); refine gl (some 13) Try.func24 #[.agg #[.int .i64 t820, .int .i64 t821, .int .i64 t822, .int .i64 t823, .int .i64 t824, .int .i64 t825, .int .i64 t826, .int .i64 t827, .int .i64 t828, .int .i64 t829, .int .i64 t830, .int .i64 t831]] ?_; (with_reducible refine (impl_BodyMove.calls k t820 t821 t822 t823 t824 t825 t826 t827 t828 t829 t830 t831 t833 t834 t835 t836 t837 t838 t839 t840 t841 t842 t843 t844 _ A4.out).mono ?_); rintro e w9 ⟨rfl, hb⟩; refine ⟨_, rfl, ?_⟩; replace BK832 := kBP (o' := .cells #[.int .i64 t820, .int .i64 t821, .int .i64 t822, .int .i64 t823, .int .i64 t824, .int .i64 t825, .int .i64 t826, .int .i64 t827, .int .i64 t828, .int .i64 t829, .int .i64 t830, .int .i64 t831] 40 (0, 0)) BK832 hb; replace HB := bS HB hb; clear hb) | ((with_reducible refine gate_dst (N := 4) rfl ?_); refine bx (N := 4) (cs := #[.int .i64 0, .int .i64 0, .int .i64 0, .int .i64 0, .int .i64 0, .int .i64 0, .int .i64 0, .int .i64 0, .int .i64 0, .int .i64 0, .int .i64 0, .int .i64 0]) (t := 40) ?_; intro gb845 hg w10 hbox hb; have BK845 := az hbox; have GW845 := az ((gE hg (qL HB) : w.heap.size ≤ gb845)); have GE845 := GW845; obtain ⟨NB832_845, NB845_832⟩ := nPB BK832 hg; replace BK832 := kBB BK832 hb; replace HB := bS HB hb; clear hb hbox hg; have hnb11 := NB845_832.out; have hnc11 := NB832_845.out; obtain ⟨hcz12_0, hcz12_1, hcz12_2, hcz12_3, hcz12_4, hcz12_5, hcz12_6, hcz12_7, hcz12_8, hcz12_9, hcz12_10, hcz12_11⟩ := cz12 BK845.out; obtain ⟨hfz12_0, hfz12_1, hfz12_2, hfz12_3, hfz12_4, hfz12_5, hfz12_6, hfz12_7, hfz12_8, hfz12_9, hfz12_10, hfz12_11⟩ := fz12 BK845.out))
  (try simp only [Act.put, List.setIfInBounds_toArray, List.set_cons_zero, List.set_cons_succ])
  go_cut [22] (fun v22 wc => ∃ (kq : Nat) (x22_4 : Bool), v22 = .bool x22_4 ∧ Aside0 (laws_FnBodyMove.j0 kq x22_4 t820 t821 t822 t823 t824 t825 t826 t827 t828 t829 t830 t831 t833 t834 t835 t836 t837 t838 t839 t840 t841 t842 t843 t844 = some r) ∧ Aside0 (kq ≤ k) ∧ Aside0 (wc.heap[gb832]? = some (.cells #[.int .i64 t820, .int .i64 t821, .int .i64 t822, .int .i64 t823, .int .i64 t824, .int .i64 t825, .int .i64 t826, .int .i64 t827, .int .i64 t828, .int .i64 t829, .int .i64 t830, .int .i64 t831] 40 (0, 0))) ∧ Aside0 (wc.heap[gb845]? = some (.cells #[.int .i64 t833, .int .i64 t834, .int .i64 t835, .int .i64 t836, .int .i64 t837, .int .i64 t838, .int .i64 t839, .int .i64 t840, .int .i64 t841, .int .i64 t842, .int .i64 t843, .int .i64 t844] 40 (0, 0))) ∧ Aside0 (Below w.heap.size w wc))
  case first =>
    have H := HC5.out
    clear HC5
    replace H := qH H
    obtain ⟨⟨t846, t847, t848, t849, t850, t851, t852, t853, t854, t855, t856, t857⟩, A13, H⟩ := H
    try dsimp only at H
    by_cases c14 : (!(t833 == t846) || ((!(t834 == t847) || (!(t835 == t848) || (!(t836 == t849)))) || ((!(t837 == t850) || (!(t838 == t851))) || ((!(t839 == t852) || (!(t840 == t853))) || (!(t841 == t854) || (!(t842 == t855) || (!(t843 == t856) || (!(t844 == t857))))))))) = true
    · rw [if_pos c14] at H
      have c14b0 : (!(t833 == t846) || ((!(t834 == t847) || (!(t835 == t848) || (!(t836 == t849)))) || ((!(t837 == t850) || (!(t838 == t851))) || ((!(t839 == t852) || (!(t840 == t853))) || (!(t841 == t854) || (!(t842 == t855) || (!(t843 == t856) || (!(t844 == t857))))))))) = true := c14
      clear c14
      (first | rw [c14b0] | (simp only [i64_w, i32_w]; rw [c14b0]) | skip)
      have H' := az H
      clear H
      try go_wp2
      obtain ⟨w15, hw_⟩ : ∃ x, x = ((((((((((((w10.setCell ⟨gb845, 0, none⟩ (.int .i64 t833)).setCell ⟨gb845, 1, none⟩ (.int .i64 t834)).setCell ⟨gb845, 2, none⟩ (.int .i64 t835)).setCell ⟨gb845, 3, none⟩ (.int .i64 t836)).setCell ⟨gb845, 4, none⟩ (.int .i64 t837)).setCell ⟨gb845, 5, none⟩ (.int .i64 t838)).setCell ⟨gb845, 6, none⟩ (.int .i64 t839)).setCell ⟨gb845, 7, none⟩ (.int .i64 t840)).setCell ⟨gb845, 8, none⟩ (.int .i64 t841)).setCell ⟨gb845, 9, none⟩ (.int .i64 t842)).setCell ⟨gb845, 10, none⟩ (.int .i64 t843)).setCell ⟨gb845, 11, none⟩ (.int .i64 t844)) := ⟨_, rfl⟩
      replace BK832 : Aside0 (w15.heap[gb832]? = some (.cells #[.int .i64 t820, .int .i64 t821, .int .i64 t822, .int .i64 t823, .int .i64 t824, .int .i64 t825, .int .i64 t826, .int .i64 t827, .int .i64 t828, .int .i64 t829, .int .i64 t830, .int .i64 t831] 40 (0, 0))) := ⟨by rw [hw_]; exact qF BK832⟩
      replace BK845 : Aside0 (w15.heap[gb845]? = some (.cells #[.int .i64 t833, .int .i64 t834, .int .i64 t835, .int .i64 t836, .int .i64 t837, .int .i64 t838, .int .i64 t839, .int .i64 t840, .int .i64 t841, .int .i64 t842, .int .i64 t843, .int .i64 t844] 40 (0, 0))) := ⟨by rw [hw_]; exact qP BK845⟩
      replace HB : Aside0 (Below w.heap.size w w15) := ⟨by rw [hw_]; exact qL HB⟩
      rw [← hw_]
      clear hw_
      replace BK832 := az (blk_drew BK832.out)
      replace BK845 := az (blk_drew BK845.out)
      replace HB := az (below_drew1 HB.out)
      refine start_ (n := 9) (S := fun w' => w'.cell? ⟨gb845, 0, none⟩ = some (.int .i64 t833) ∧ w'.cell? ⟨gb845, 1, none⟩ = some (.int .i64 t834) ∧ w'.cell? ⟨gb845, 2, none⟩ = some (.int .i64 t835) ∧ w'.cell? ⟨gb845, 3, none⟩ = some (.int .i64 t836) ∧ w'.cell? ⟨gb845, 4, none⟩ = some (.int .i64 t837) ∧ w'.cell? ⟨gb845, 5, none⟩ = some (.int .i64 t838) ∧ w'.cell? ⟨gb845, 6, none⟩ = some (.int .i64 t839) ∧ w'.cell? ⟨gb845, 7, none⟩ = some (.int .i64 t840) ∧ w'.cell? ⟨gb845, 8, none⟩ = some (.int .i64 t841) ∧ w'.cell? ⟨gb845, 9, none⟩ = some (.int .i64 t842) ∧ w'.cell? ⟨gb845, 10, none⟩ = some (.int .i64 t843) ∧ w'.cell? ⟨gb845, 11, none⟩ = some (.int .i64 t844) ∧ w'.cell? ⟨gb832, 0, none⟩ = some (.int .i64 t820) ∧ w'.cell? ⟨gb832, 1, none⟩ = some (.int .i64 t821) ∧ w'.cell? ⟨gb832, 2, none⟩ = some (.int .i64 t822) ∧ w'.cell? ⟨gb832, 3, none⟩ = some (.int .i64 t823) ∧ w'.cell? ⟨gb832, 4, none⟩ = some (.int .i64 t824) ∧ w'.cell? ⟨gb832, 5, none⟩ = some (.int .i64 t825) ∧ w'.cell? ⟨gb832, 6, none⟩ = some (.int .i64 t826) ∧ w'.cell? ⟨gb832, 7, none⟩ = some (.int .i64 t827) ∧ w'.cell? ⟨gb832, 8, none⟩ = some (.int .i64 t828) ∧ w'.cell? ⟨gb832, 9, none⟩ = some (.int .i64 t829) ∧ w'.cell? ⟨gb832, 10, none⟩ = some (.int .i64 t830) ∧ w'.cell? ⟨gb832, 11, none⟩ = some (.int .i64 t831)) (ds := []) #[false, false, false, false, false, false, false, false, false] (by kernel_rfl) rfl rfl ⟨bc BK845 0, bc BK845 1, bc BK845 2, bc BK845 3, bc BK845 4, bc BK845 5, bc BK845 6, bc BK845 7, bc BK845 8, bc BK845 9, bc BK845 10, bc BK845 11, bc BK832 0, bc BK832 1, bc BK832 2, bc BK832 3, bc BK832 4, bc BK832 5, bc BK832 6, bc BK832 7, bc BK832 8, bc BK832 9, bc BK832 10, bc BK832 11⟩ (fun hHeld => ?_); refine with_tabW laws_FnBodyMove.tab5 laws_FnBodyMove.bits5 (fun HT_ HW_ => ?_)
      generalize w15.drew = w16 at BK832 BK845 HB hHeld ⊢
      refine tk24 0 (some 14) (fl 9 1) HT_ HW_ hHeld ?_
      refine tk24 1 (some 15) (fl 9 3) HT_ HW_ hHeld ?_
      refine on 2 (some 16) (fl 9 7) HT_ (fun K hK => ?_)
      refine go1 Try.func23 #[.agg #[.int .i64 t820, .int .i64 t821, .int .i64 t822, .int .i64 t823, .int .i64 t824, .int .i64 t825, .int .i64 t826, .int .i64 t827, .int .i64 t828, .int .i64 t829, .int .i64 t830, .int .i64 t831]] ?_
      with_reducible refine (spec_BodyMove.calls k t820 t821 t822 t823 t824 t825 t826 t827 t828 t829 t830 t831 t846 t847 t848 t849 t850 t851 t852 t853 t854 t855 t856 t857 _ A13.out).mono ?_
      rintro e w17 ⟨rfl, hb⟩
      refine ⟨_, rfl, ?_⟩
      replace BK832 := kBB BK832 hb
      replace BK845 := kBB BK845 hb
      replace HB := bS HB hb
      clear hb
      refine hK.out _ _ ⟨bc BK845 0, bc BK845 1, bc BK845 2, bc BK845 3, bc BK845 4, bc BK845 5, bc BK845 6, bc BK845 7, bc BK845 8, bc BK845 9, bc BK845 10, bc BK845 11, bc BK832 0, bc BK832 1, bc BK832 2, bc BK832 3, bc BK832 4, bc BK832 5, bc BK832 6, bc BK832 7, bc BK832 8, bc BK832 9, bc BK832 10, bc BK832 11⟩ (fun hHeld => ?_)
      clear hK K
      refine nm (some 16) ?_
      refine pu 3 (some 17) (fl 9 15) HT_ ?_
      refine pu 4 (some 18) (fl 9 31) HT_ ?_
      refine pv 5 (some 19) (fl 9 63) HT_ ?_
      refine pv 6 (some 20) (fl 9 127) HT_ ?_
      refine pv 7 (some 21) (fl 9 255) HT_ ?_
      refine pu 8 (some 22) (fl 9 511) HT_ ?_
      refine done_ (done_of HT_.out (by kernel_rfl)) ?_
      try go_wp2
      go_meet
      case rel => exact ⟨_, (true), (by first | rfl | (simp; done) | (simp [*]; done)), H', ⟨by first | omega | exact Nat.le_refl _⟩, ⟨qF BK832⟩, ⟨qF BK845⟩, ⟨qL HB⟩⟩
    rw [if_neg c14] at H
    have c14b0 : (!(t833 == t846) || ((!(t834 == t847) || (!(t835 == t848) || (!(t836 == t849)))) || ((!(t837 == t850) || (!(t838 == t851))) || ((!(t839 == t852) || (!(t840 == t853))) || (!(t841 == t854) || (!(t842 == t855) || (!(t843 == t856) || (!(t844 == t857))))))))) = false := by simpa using c14
    clear c14
    (first | rw [c14b0] | (simp only [i64_w, i32_w]; rw [c14b0]) | skip)
    replace H := qH H
    obtain ⟨t858, A18, H⟩ := H
    try dsimp only at H
    have H' := az H
    clear H
    try go_wp2
    obtain ⟨w19, hw_⟩ : ∃ x, x = ((((((((((((w10.setCell ⟨gb845, 0, none⟩ (.int .i64 t833)).setCell ⟨gb845, 1, none⟩ (.int .i64 t834)).setCell ⟨gb845, 2, none⟩ (.int .i64 t835)).setCell ⟨gb845, 3, none⟩ (.int .i64 t836)).setCell ⟨gb845, 4, none⟩ (.int .i64 t837)).setCell ⟨gb845, 5, none⟩ (.int .i64 t838)).setCell ⟨gb845, 6, none⟩ (.int .i64 t839)).setCell ⟨gb845, 7, none⟩ (.int .i64 t840)).setCell ⟨gb845, 8, none⟩ (.int .i64 t841)).setCell ⟨gb845, 9, none⟩ (.int .i64 t842)).setCell ⟨gb845, 10, none⟩ (.int .i64 t843)).setCell ⟨gb845, 11, none⟩ (.int .i64 t844)) := ⟨_, rfl⟩
    replace BK832 : Aside0 (w19.heap[gb832]? = some (.cells #[.int .i64 t820, .int .i64 t821, .int .i64 t822, .int .i64 t823, .int .i64 t824, .int .i64 t825, .int .i64 t826, .int .i64 t827, .int .i64 t828, .int .i64 t829, .int .i64 t830, .int .i64 t831] 40 (0, 0))) := ⟨by rw [hw_]; exact qF BK832⟩
    replace BK845 : Aside0 (w19.heap[gb845]? = some (.cells #[.int .i64 t833, .int .i64 t834, .int .i64 t835, .int .i64 t836, .int .i64 t837, .int .i64 t838, .int .i64 t839, .int .i64 t840, .int .i64 t841, .int .i64 t842, .int .i64 t843, .int .i64 t844] 40 (0, 0))) := ⟨by rw [hw_]; exact qP BK845⟩
    replace HB : Aside0 (Below w.heap.size w w19) := ⟨by rw [hw_]; exact qL HB⟩
    rw [← hw_]
    clear hw_
    replace BK832 := az (blk_drew BK832.out)
    replace BK845 := az (blk_drew BK845.out)
    replace HB := az (below_drew1 HB.out)
    refine start_ (n := 9) (S := fun w' => w'.cell? ⟨gb845, 0, none⟩ = some (.int .i64 t833) ∧ w'.cell? ⟨gb845, 1, none⟩ = some (.int .i64 t834) ∧ w'.cell? ⟨gb845, 2, none⟩ = some (.int .i64 t835) ∧ w'.cell? ⟨gb845, 3, none⟩ = some (.int .i64 t836) ∧ w'.cell? ⟨gb845, 4, none⟩ = some (.int .i64 t837) ∧ w'.cell? ⟨gb845, 5, none⟩ = some (.int .i64 t838) ∧ w'.cell? ⟨gb845, 6, none⟩ = some (.int .i64 t839) ∧ w'.cell? ⟨gb845, 7, none⟩ = some (.int .i64 t840) ∧ w'.cell? ⟨gb845, 8, none⟩ = some (.int .i64 t841) ∧ w'.cell? ⟨gb845, 9, none⟩ = some (.int .i64 t842) ∧ w'.cell? ⟨gb845, 10, none⟩ = some (.int .i64 t843) ∧ w'.cell? ⟨gb845, 11, none⟩ = some (.int .i64 t844) ∧ w'.cell? ⟨gb832, 0, none⟩ = some (.int .i64 t820) ∧ w'.cell? ⟨gb832, 1, none⟩ = some (.int .i64 t821) ∧ w'.cell? ⟨gb832, 2, none⟩ = some (.int .i64 t822) ∧ w'.cell? ⟨gb832, 3, none⟩ = some (.int .i64 t823) ∧ w'.cell? ⟨gb832, 4, none⟩ = some (.int .i64 t824) ∧ w'.cell? ⟨gb832, 5, none⟩ = some (.int .i64 t825) ∧ w'.cell? ⟨gb832, 6, none⟩ = some (.int .i64 t826) ∧ w'.cell? ⟨gb832, 7, none⟩ = some (.int .i64 t827) ∧ w'.cell? ⟨gb832, 8, none⟩ = some (.int .i64 t828) ∧ w'.cell? ⟨gb832, 9, none⟩ = some (.int .i64 t829) ∧ w'.cell? ⟨gb832, 10, none⟩ = some (.int .i64 t830) ∧ w'.cell? ⟨gb832, 11, none⟩ = some (.int .i64 t831)) (ds := []) #[false, false, false, false, false, false, false, false, false] (by kernel_rfl) rfl rfl ⟨bc BK845 0, bc BK845 1, bc BK845 2, bc BK845 3, bc BK845 4, bc BK845 5, bc BK845 6, bc BK845 7, bc BK845 8, bc BK845 9, bc BK845 10, bc BK845 11, bc BK832 0, bc BK832 1, bc BK832 2, bc BK832 3, bc BK832 4, bc BK832 5, bc BK832 6, bc BK832 7, bc BK832 8, bc BK832 9, bc BK832 10, bc BK832 11⟩ (fun hHeld => ?_); refine with_tabW laws_FnBodyMove.tab5 laws_FnBodyMove.bits5 (fun HT_ HW_ => ?_)
    generalize w19.drew = w20 at BK832 BK845 HB hHeld ⊢
    refine tk24 0 (some 14) (fl 9 1) HT_ HW_ hHeld ?_
    refine tk24 1 (some 15) (fl 9 3) HT_ HW_ hHeld ?_
    refine on 2 (some 16) (fl 9 7) HT_ (fun K hK => ?_)
    refine go1 Try.func23 #[.agg #[.int .i64 t820, .int .i64 t821, .int .i64 t822, .int .i64 t823, .int .i64 t824, .int .i64 t825, .int .i64 t826, .int .i64 t827, .int .i64 t828, .int .i64 t829, .int .i64 t830, .int .i64 t831]] ?_
    with_reducible refine (spec_BodyMove.calls k t820 t821 t822 t823 t824 t825 t826 t827 t828 t829 t830 t831 t846 t847 t848 t849 t850 t851 t852 t853 t854 t855 t856 t857 _ A13.out).mono ?_
    rintro e w21 ⟨rfl, hb⟩
    refine ⟨_, rfl, ?_⟩
    replace BK832 := kBB BK832 hb
    replace BK845 := kBB BK845 hb
    replace HB := bS HB hb
    clear hb
    refine hK.out _ _ ⟨bc BK845 0, bc BK845 1, bc BK845 2, bc BK845 3, bc BK845 4, bc BK845 5, bc BK845 6, bc BK845 7, bc BK845 8, bc BK845 9, bc BK845 10, bc BK845 11, bc BK832 0, bc BK832 1, bc BK832 2, bc BK832 3, bc BK832 4, bc BK832 5, bc BK832 6, bc BK832 7, bc BK832 8, bc BK832 9, bc BK832 10, bc BK832 11⟩ (fun hHeld => ?_)
    clear hK K
    refine nm (some 16) ?_
    refine pu 3 (some 17) (fl 9 15) HT_ ?_
    refine pu 4 (some 18) (fl 9 31) HT_ ?_
    refine tk24 5 (some 19) (fl 9 63) HT_ HW_ hHeld ?_
    refine on 6 (some 20) (fl 9 127) HT_ (fun K hK => ?_)
    refine go1 Try.func26 #[.agg #[.int .i64 t820, .int .i64 t821, .int .i64 t822, .int .i64 t823, .int .i64 t824, .int .i64 t825, .int .i64 t826, .int .i64 t827, .int .i64 t828, .int .i64 t829, .int .i64 t830, .int .i64 t831]] ?_
    with_reducible refine (spec_BodyOk.calls k t820 t821 t822 t823 t824 t825 t826 t827 t828 t829 t830 t831 t858 _ A18.out).mono ?_
    rintro e w22 ⟨rfl, hb⟩
    refine ⟨_, rfl, ?_⟩
    replace BK832 := kBB BK832 hb
    replace BK845 := kBB BK845 hb
    replace HB := bS HB hb
    clear hb
    refine hK.out _ _ ⟨bc BK845 0, bc BK845 1, bc BK845 2, bc BK845 3, bc BK845 4, bc BK845 5, bc BK845 6, bc BK845 7, bc BK845 8, bc BK845 9, bc BK845 10, bc BK845 11, bc BK832 0, bc BK832 1, bc BK832 2, bc BK832 3, bc BK832 4, bc BK832 5, bc BK832 6, bc BK832 7, bc BK832 8, bc BK832 9, bc BK832 10, bc BK832 11⟩ (fun hHeld => ?_)
    clear hK K
    refine nm (some 20) ?_
    refine pu 7 (some 21) (fl 9 255) HT_ ?_
    refine pu 8 (some 22) (fl 9 511) HT_ ?_
    refine done_ (done_of HT_.out (by kernel_rfl)) ?_
    try go_wp2
    go_meet
    case rel => exact ⟨_, (!t858), (by first | rfl | (simp; done) | (simp [*]; done)), H', ⟨by first | omega | exact Nat.le_refl _⟩, ⟨qF BK832⟩, ⟨qF BK845⟩, ⟨qL HB⟩⟩
  case rest =>
    clear HC5
    (try clear c2); (try clear c2b0); (try clear c2b1); (try clear hcz12_0); (try clear hcz12_1); (try clear hcz12_10); (try clear hcz12_11); (try clear hcz12_2); (try clear hcz12_3); (try clear hcz12_4); (try clear hcz12_5); (try clear hcz12_6); (try clear hcz12_7); (try clear hcz12_8); (try clear hcz12_9); (try clear hcz8_0); (try clear hcz8_1); (try clear hcz8_10); (try clear hcz8_11); (try clear hcz8_2); (try clear hcz8_3); (try clear hcz8_4); (try clear hcz8_5); (try clear hcz8_6); (try clear hcz8_7); (try clear hcz8_8); (try clear hcz8_9); (try clear hfz12_0); (try clear hfz12_1); (try clear hfz12_10); (try clear hfz12_11); (try clear hfz12_2); (try clear hfz12_3); (try clear hfz12_4); (try clear hfz12_5); (try clear hfz12_6); (try clear hfz12_7); (try clear hfz12_8); (try clear hfz12_9); (try clear hfz8_0); (try clear hfz8_1); (try clear hfz8_10); (try clear hfz8_11); (try clear hfz8_2); (try clear hfz8_3); (try clear hfz8_4); (try clear hfz8_5); (try clear hfz8_6); (try clear hfz8_7); (try clear hfz8_8); (try clear hfz8_9)
    obtain ⟨kq, x22_4, rfl, HA, HJ4, BK832, BK845, HB⟩ := hcut
    cases kq with
    | zero => exact absurd HA.out (by simp [laws_FnBodyMove.j0])
    | succ kj4 => ?_
    have H := HA.out
    clear HA
    simp only [laws_FnBodyMove.j0] at H
    by_cases c23 : x22_4 = true
    · subst c23
      replace H := qT H
      replace H := qH H
      obtain ⟨⟨t859, t860, t861, t862, t863, t864, t865, t866, t867, t868, t869, t870⟩, A24, H⟩ := H
      try dsimp only at H
      obtain rfl := Option.some.inj H
      try go_wp2
      replace BK832 := az (blk_drew BK832.out)
      replace BK845 := az (blk_drew BK845.out)
      replace HB := az (below_drew1 HB.out)
      refine start_ (n := 5) (S := fun w' => w'.cell? ⟨gb845, 0, none⟩ = some (.int .i64 t833) ∧ w'.cell? ⟨gb845, 1, none⟩ = some (.int .i64 t834) ∧ w'.cell? ⟨gb845, 2, none⟩ = some (.int .i64 t835) ∧ w'.cell? ⟨gb845, 3, none⟩ = some (.int .i64 t836) ∧ w'.cell? ⟨gb845, 4, none⟩ = some (.int .i64 t837) ∧ w'.cell? ⟨gb845, 5, none⟩ = some (.int .i64 t838) ∧ w'.cell? ⟨gb845, 6, none⟩ = some (.int .i64 t839) ∧ w'.cell? ⟨gb845, 7, none⟩ = some (.int .i64 t840) ∧ w'.cell? ⟨gb845, 8, none⟩ = some (.int .i64 t841) ∧ w'.cell? ⟨gb845, 9, none⟩ = some (.int .i64 t842) ∧ w'.cell? ⟨gb845, 10, none⟩ = some (.int .i64 t843) ∧ w'.cell? ⟨gb845, 11, none⟩ = some (.int .i64 t844) ∧ w'.cell? ⟨gb832, 0, none⟩ = some (.int .i64 t820) ∧ w'.cell? ⟨gb832, 1, none⟩ = some (.int .i64 t821) ∧ w'.cell? ⟨gb832, 2, none⟩ = some (.int .i64 t822) ∧ w'.cell? ⟨gb832, 3, none⟩ = some (.int .i64 t823) ∧ w'.cell? ⟨gb832, 4, none⟩ = some (.int .i64 t824) ∧ w'.cell? ⟨gb832, 5, none⟩ = some (.int .i64 t825) ∧ w'.cell? ⟨gb832, 6, none⟩ = some (.int .i64 t826) ∧ w'.cell? ⟨gb832, 7, none⟩ = some (.int .i64 t827) ∧ w'.cell? ⟨gb832, 8, none⟩ = some (.int .i64 t828) ∧ w'.cell? ⟨gb832, 9, none⟩ = some (.int .i64 t829) ∧ w'.cell? ⟨gb832, 10, none⟩ = some (.int .i64 t830) ∧ w'.cell? ⟨gb832, 11, none⟩ = some (.int .i64 t831)) (ds := []) #[false, false, false, false, false] (by kernel_rfl) rfl rfl ⟨bc BK845 0, bc BK845 1, bc BK845 2, bc BK845 3, bc BK845 4, bc BK845 5, bc BK845 6, bc BK845 7, bc BK845 8, bc BK845 9, bc BK845 10, bc BK845 11, bc BK832 0, bc BK832 1, bc BK832 2, bc BK832 3, bc BK832 4, bc BK832 5, bc BK832 6, bc BK832 7, bc BK832 8, bc BK832 9, bc BK832 10, bc BK832 11⟩ (fun hHeld => ?_)
      generalize wc.drew = w25 at BK832 BK845 HB hHeld ⊢
      refine take_ (i := 0) (N := some 23) (v := ?_) (a' := ?_) #[true, false, false, false, false] rfl rfl (by kernel_rfl) (fun _ _ _ h => h) (Or.inl ⟨by rfl, ?_⟩) hHeld ?_ ?_
      rotate_left
      · rintro w' ⟨s0, s1, s2, s3, s4, s5, s6, s7, s8, s9, s10, s11, s12, s13, s14, s15, s16, s17, s18, s19, s20, s21, s22, s23⟩
        go_simp
        with_reducible rfl
      rotate_left
      · simp only [Act.put, List.setIfInBounds_toArray, List.set_cons_zero, List.set_cons_succ, i64_w, i32_w]
        rfl
      refine take_ (i := 1) (N := some 24) (v := ?_) (a' := ?_) #[true, true, false, false, false] rfl rfl (by kernel_rfl) (fun _ _ _ h => h) (Or.inl ⟨by rfl, ?_⟩) hHeld ?_ ?_
      rotate_left
      · rintro w' ⟨s0, s1, s2, s3, s4, s5, s6, s7, s8, s9, s10, s11, s12, s13, s14, s15, s16, s17, s18, s19, s20, s21, s22, s23⟩
        go_simp
        with_reducible rfl
      rotate_left
      · simp only [Act.put, List.setIfInBounds_toArray, List.set_cons_zero, List.set_cons_succ, i64_w, i32_w]
        rfl
      refine one_ (i := 2) (N := some 25) #[true, true, true, false, false] rfl rfl (by kernel_rfl) (by decide) (fun K hK => ?_)
      refine go1 Try.func23 #[.agg #[.int .i64 t820, .int .i64 t821, .int .i64 t822, .int .i64 t823, .int .i64 t824, .int .i64 t825, .int .i64 t826, .int .i64 t827, .int .i64 t828, .int .i64 t829, .int .i64 t830, .int .i64 t831]] ?_
      with_reducible refine (spec_BodyMove.calls kj4 t820 t821 t822 t823 t824 t825 t826 t827 t828 t829 t830 t831 t859 t860 t861 t862 t863 t864 t865 t866 t867 t868 t869 t870 _ A24.out).mono ?_
      rintro e w26 ⟨rfl, hb⟩
      refine ⟨_, rfl, ?_⟩
      replace BK832 := kBB BK832 hb
      replace BK845 := kBB BK845 hb
      replace HB := bS HB hb
      clear hb
      refine hK.out _ _ ⟨bc BK845 0, bc BK845 1, bc BK845 2, bc BK845 3, bc BK845 4, bc BK845 5, bc BK845 6, bc BK845 7, bc BK845 8, bc BK845 9, bc BK845 10, bc BK845 11, bc BK832 0, bc BK832 1, bc BK832 2, bc BK832 3, bc BK832 4, bc BK832 5, bc BK832 6, bc BK832 7, bc BK832 8, bc BK832 9, bc BK832 10, bc BK832 11⟩ (fun hHeld => ?_)
      clear hK K
      refine nm (some 25) ?_
      refine pure_ (i := 3) (N := some 26) (v := ?_) (a' := ?_) #[true, true, true, true, false] rfl rfl (by kernel_rfl) (fun _ _ _ h => h) (Or.inl ⟨by rfl, ?_⟩) ?_ ?_
      rotate_left
      · intro w'
        go_simp
        with_reducible rfl
      rotate_left
      · simp only [Act.put, List.setIfInBounds_toArray, List.set_cons_zero, List.set_cons_succ, i64_w, i32_w]
        rfl
      refine pure_ (i := 4) (N := some 2) (v := ?_) (a' := ?_) #[true, true, true, true, true] rfl rfl (by kernel_rfl) (fun _ _ _ h => h) (Or.inl ⟨by rfl, ?_⟩) ?_ ?_
      rotate_left
      · intro w'
        go_simp
        with_reducible rfl
      rotate_left
      · simp only [Act.put, List.setIfInBounds_toArray, List.set_cons_zero, List.set_cons_succ, i64_w, i32_w]
        rfl
      refine done_ (by kernel_rfl) ?_
      try go_wp2
      go_ret
      exact ⟨qE, qL HB⟩
    replace c23 := Bool.eq_false_iff.mpr c23
    subst c23
    replace H := qU H
    replace H := qH H
    obtain ⟨⟨t871, t872⟩, A27, H⟩ := H
    try dsimp only at H
    replace H := qH H
    obtain ⟨⟨t874, t875⟩, A28, H⟩ := H
    try dsimp only at H
    have HC29 := az H
    clear H
    have hnb30 := NB832_845.out
    have hnc30 := NB845_832.out
    obtain ⟨hcz31_0, hcz31_1, hcz31_2, hcz31_3, hcz31_4, hcz31_5, hcz31_6, hcz31_7, hcz31_8, hcz31_9, hcz31_10, hcz31_11⟩ := cz12 BK832.out
    obtain ⟨hfz31_0, hfz31_1, hfz31_2, hfz31_3, hfz31_4, hfz31_5, hfz31_6, hfz31_7, hfz31_8, hfz31_9, hfz31_10, hfz31_11⟩ := fz12 BK832.out
    go_upto_region 9 with (first | ((with_reducible refine gate_callee (f := 31) rfl ?_); refine gl (some 28) Try.func31 #[.agg #[.int .i64 t820, .int .i64 t821, .int .i64 t822, .int .i64 t823, .int .i64 t824, .int .i64 t825, .int .i64 t826, .int .i64 t827, .int .i64 t828, .int .i64 t829, .int .i64 t830, .int .i64 t831]] ?_; (with_reducible refine (impl_BodySpeed.calls kj4 t820 t821 t822 t823 t824 t825 t826 t827 t828 t829 t830 t831 t871 t872 _ A27.out).mono ?_); rintro e w32 ⟨rfl, hb⟩; refine ⟨_, rfl, ?_⟩; replace BK832 := kBB BK832 hb; replace BK845 := kBB BK845 hb; replace HB := bS HB hb; clear hb) | ((with_reducible refine gate_dst (N := 5) rfl ?_); refine bx (N := 5) (cs := #[.int .i64 0, .int .i64 0]) (t := 24) ?_; intro gb873 hg w33 hbox hb; have BK873 := az hbox; have GW873 := az ((gE hg (qL HB) : w.heap.size ≤ gb873)); have GE873 := GW873; obtain ⟨NB832_873, NB873_832⟩ := nPB BK832 hg; obtain ⟨NB845_873, NB873_845⟩ := nPB BK845 hg; replace BK832 := kBB BK832 hb; replace BK845 := kBB BK845 hb; replace HB := bS HB hb; clear hb hbox hg; have hnb34 := NB873_832.out; have hnc34 := NB832_873.out; have hnb35 := NB873_845.out; have hnc35 := NB845_873.out; obtain ⟨hcz36_0, hcz36_1⟩ := cz2 BK873.out; have hfz36_0 := blk_frozen BK873.out 0; have hfz36_1 := blk_frozen BK873.out 1; obtain ⟨hcz37_0, hcz37_1, hcz37_2, hcz37_3, hcz37_4, hcz37_5, hcz37_6, hcz37_7, hcz37_8, hcz37_9, hcz37_10, hcz37_11⟩ := cz12 BK832.out; obtain ⟨hfz37_0, hfz37_1, hfz37_2, hfz37_3, hfz37_4, hfz37_5, hfz37_6, hfz37_7, hfz37_8, hfz37_9, hfz37_10, hfz37_11⟩ := fz12 BK832.out) | ((with_reducible refine gate_callee (f := 32) rfl ?_); refine gl (some 32) Try.func32 #[.agg #[.int .i64 t824, .int .i64 t825], .agg #[.int .i64 t871, .int .i64 t872]] ?_; (with_reducible refine (impl_VecAdd.calls t824 t825 t871 t872 t874 t875 _ A28.out).mono ?_); rintro e w38 ⟨rfl, hb⟩; refine ⟨_, rfl, ?_⟩; replace BK832 := kBF BK832 hb; replace BK845 := kBF BK845 hb; replace BK873 := kBP (o' := .cells #[.int .i64 t871, .int .i64 t872] 24 (0, 0)) BK873 hb; replace HB := bS HB hb; clear hb) | ((with_reducible refine gate_dst (N := 6) rfl ?_); refine bx (N := 6) (cs := #[.int .i64 0, .int .i64 0]) (t := 24) ?_; intro gb876 hg w39 hbox hb; have BK876 := az hbox; have GW876 := az ((gE hg (qL HB) : w.heap.size ≤ gb876)); have GE876 := GW876; obtain ⟨NB832_876, NB876_832⟩ := nPB BK832 hg; obtain ⟨NB845_876, NB876_845⟩ := nPB BK845 hg; obtain ⟨NB873_876, NB876_873⟩ := nPB BK873 hg; replace BK832 := kBB BK832 hb; replace BK845 := kBB BK845 hb; replace BK873 := kBB BK873 hb; replace HB := bS HB hb; clear hb hbox hg; have hnb40 := NB876_832.out; have hnc40 := NB832_876.out; have hnb41 := NB876_845.out; have hnc41 := NB845_876.out; have hnb42 := NB876_873.out; have hnc42 := NB873_876.out; obtain ⟨hcz43_0, hcz43_1⟩ := cz2 BK876.out; have hfz43_0 := blk_frozen BK876.out 0; have hfz43_1 := blk_frozen BK876.out 1))
    (try simp only [Act.put, List.setIfInBounds_toArray, List.set_cons_zero, List.set_cons_succ])
    go_cut [42] (fun v42 wc => ∃ (kq : Nat) (x42_28 : Bool), v42 = .bool x42_28 ∧ Aside0 (laws_FnBodyMove.j1 kq x42_28 t820 t821 t822 t823 t824 t825 t826 t827 t828 t829 t830 t831 t833 t834 t835 t836 t837 t838 t839 t840 t841 t842 t843 t844 t874 t875 = some r) ∧ Aside0 (kq ≤ kj4) ∧ Aside0 (wc.heap[gb832]? = some (.cells #[.int .i64 t820, .int .i64 t821, .int .i64 t822, .int .i64 t823, .int .i64 t824, .int .i64 t825, .int .i64 t826, .int .i64 t827, .int .i64 t828, .int .i64 t829, .int .i64 t830, .int .i64 t831] 40 (0, 0))) ∧ Aside0 (wc.heap[gb845]? = some (.cells #[.int .i64 t833, .int .i64 t834, .int .i64 t835, .int .i64 t836, .int .i64 t837, .int .i64 t838, .int .i64 t839, .int .i64 t840, .int .i64 t841, .int .i64 t842, .int .i64 t843, .int .i64 t844] 40 (0, 0))) ∧ Aside0 (wc.heap[gb873]? = some (.cells #[.int .i64 t871, .int .i64 t872] 24 (0, 0))) ∧ Aside0 (wc.heap[gb876]? = some (.cells #[.int .i64 t874, .int .i64 t875] 24 (0, 0))) ∧ Aside0 (Below w.heap.size w wc))
    case first =>
      have H := HC29.out
      clear HC29
      replace H := qH H
      obtain ⟨t877, A44, H⟩ := H
      try dsimp only at H
      by_cases c45 : t877 > 2560000
      · rw [if_pos c45] at H
        have c45b0 : decide (2560000 < t877) = true := decide_eq_true c45
        clear c45
        (first | rw [c45b0] | (simp only [i64_w, i32_w]; rw [c45b0]) | skip)
        have H' := az H
        clear H
        have hnb46 := NB876_832.out
        have hnc46 := NB832_876.out
        have hnb47 := NB876_845.out
        have hnc47 := NB845_876.out
        have hnb48 := NB876_873.out
        have hnc48 := NB873_876.out
        obtain ⟨hcz49_0, hcz49_1⟩ := cz2 BK876.out
        have hfz49_0 := blk_frozen BK876.out 0
        have hfz49_1 := blk_frozen BK876.out 1
        go_wp2_with (first | ((with_reducible refine gate_callee (f := 29) rfl ?_); refine gl (some 35) Try.func29 #[.int .i64 t874] ?_; (with_reducible refine (laws_pqAbs.calls t874 t877 _ A44.out).mono ?_); rintro e w' ⟨rfl, ⟨nd, rfl⟩⟩; refine ⟨_, rfl, ?_⟩))
        go_meet
        case rel => exact ⟨_, (true), (by first | rfl | (simp; done) | (simp [*]; done)), H', ⟨by have := HJ4.out; first | omega | exact Nat.le_refl _⟩, ⟨qF BK832⟩, ⟨qF BK845⟩, ⟨qF BK873⟩, ⟨qP BK876⟩, ⟨qL HB⟩⟩
      rw [if_neg c45] at H
      have c45b0 : decide (2560000 < t877) = false := decide_eq_false c45
      clear c45
      (first | rw [c45b0] | (simp only [i64_w, i32_w]; rw [c45b0]) | skip)
      replace H := qH H
      obtain ⟨t878, A50, H⟩ := H
      try dsimp only at H
      have H' := az H
      clear H
      have hnb51 := NB876_832.out
      have hnc51 := NB832_876.out
      have hnb52 := NB876_845.out
      have hnc52 := NB845_876.out
      have hnb53 := NB876_873.out
      have hnc53 := NB873_876.out
      obtain ⟨hcz54_0, hcz54_1⟩ := cz2 BK876.out
      have hfz54_0 := blk_frozen BK876.out 0
      have hfz54_1 := blk_frozen BK876.out 1
      go_wp2_with (first | ((with_reducible refine gate_callee (f := 29) rfl ?_); refine gl (some 35) Try.func29 #[.int .i64 t874] ?_; (with_reducible refine (laws_pqAbs.calls t874 t877 _ A44.out).mono ?_); rintro e w' ⟨rfl, ⟨nd, rfl⟩⟩; refine ⟨_, rfl, ?_⟩) | (go_at_call 29; (with_reducible refine (laws_pqAbs.calls t875 t878 _ A50.out).mono ?_); rintro e w' ⟨rfl, ⟨nd, rfl⟩⟩))
      go_meet
      case rel => exact ⟨_, (decide (t878 > 2560000)), (by first | rfl | (simp; done) | (simp [*]; done)), H', ⟨by have := HJ4.out; first | omega | exact Nat.le_refl _⟩, ⟨qF BK832⟩, ⟨qF BK845⟩, ⟨qF BK873⟩, ⟨qP BK876⟩, ⟨qL HB⟩⟩
    case rest =>
      clear HC29
      (try clear c2); (try clear c2b0); (try clear c2b1); (try clear c23); (try clear hcz12_0); (try clear hcz12_1); (try clear hcz12_10); (try clear hcz12_11); (try clear hcz12_2); (try clear hcz12_3); (try clear hcz12_4); (try clear hcz12_5); (try clear hcz12_6); (try clear hcz12_7); (try clear hcz12_8); (try clear hcz12_9); (try clear hcz31_0); (try clear hcz31_1); (try clear hcz31_10); (try clear hcz31_11); (try clear hcz31_2); (try clear hcz31_3); (try clear hcz31_4); (try clear hcz31_5); (try clear hcz31_6); (try clear hcz31_7); (try clear hcz31_8); (try clear hcz31_9); (try clear hcz36_0); (try clear hcz36_1); (try clear hcz37_0); (try clear hcz37_1); (try clear hcz37_10); (try clear hcz37_11); (try clear hcz37_2); (try clear hcz37_3); (try clear hcz37_4); (try clear hcz37_5); (try clear hcz37_6); (try clear hcz37_7); (try clear hcz37_8); (try clear hcz37_9); (try clear hcz43_0); (try clear hcz43_1); (try clear hcz8_0); (try clear hcz8_1); (try clear hcz8_10); (try clear hcz8_11); (try clear hcz8_2); (try clear hcz8_3); (try clear hcz8_4); (try clear hcz8_5); (try clear hcz8_6); (try clear hcz8_7); (try clear hcz8_8); (try clear hcz8_9); (try clear hfz12_0); (try clear hfz12_1); (try clear hfz12_10); (try clear hfz12_11); (try clear hfz12_2); (try clear hfz12_3); (try clear hfz12_4); (try clear hfz12_5); (try clear hfz12_6); (try clear hfz12_7); (try clear hfz12_8); (try clear hfz12_9); (try clear hfz31_0); (try clear hfz31_1); (try clear hfz31_10); (try clear hfz31_11); (try clear hfz31_2); (try clear hfz31_3); (try clear hfz31_4); (try clear hfz31_5); (try clear hfz31_6); (try clear hfz31_7); (try clear hfz31_8); (try clear hfz31_9); (try clear hfz36_0); (try clear hfz36_1); (try clear hfz37_0); (try clear hfz37_1); (try clear hfz37_10); (try clear hfz37_11); (try clear hfz37_2); (try clear hfz37_3); (try clear hfz37_4); (try clear hfz37_5); (try clear hfz37_6); (try clear hfz37_7); (try clear hfz37_8); (try clear hfz37_9); (try clear hfz43_0); (try clear hfz43_1); (try clear hfz8_0); (try clear hfz8_1); (try clear hfz8_10); (try clear hfz8_11); (try clear hfz8_2); (try clear hfz8_3); (try clear hfz8_4); (try clear hfz8_5); (try clear hfz8_6); (try clear hfz8_7); (try clear hfz8_8); (try clear hfz8_9)
      obtain ⟨kq, x42_28, rfl, HA, HJ28, BK832, BK845, BK873, BK876, HB⟩ := hcut
      cases kq with
      | zero => exact absurd HA.out (by simp [laws_FnBodyMove.j1])
      | succ kj28 => ?_
      have H := HA.out
      clear HA
      simp only [laws_FnBodyMove.j1] at H
      by_cases c55 : x42_28 = true
      · subst c55
        replace H := qT H
        replace H := qH H
        obtain ⟨t879, A56, H⟩ := H
        try dsimp only at H
        by_cases c57 : t879 = true
        · subst c57
          replace H := qT H
          replace H := qH H
          obtain ⟨t880, A58, H⟩ := H
          try dsimp only at H
          by_cases c59 : t880 ≤ 2560000
          · rw [if_pos c59] at H
            have c59b0 : decide (t880 ≤ 2560000) = true := decide_eq_true c59
            clear c59
            replace H := qH H
            obtain ⟨t881, A60, H⟩ := H
            try dsimp only at H
            obtain rfl := Option.some.inj H
            have hnb61 := NB845_832.out
            have hnc61 := NB832_845.out
            have hnb62 := NB845_873.out
            have hnc62 := NB873_845.out
            have hnb63 := NB845_876.out
            have hnc63 := NB876_845.out
            obtain ⟨hcz64_0, hcz64_1, hcz64_2, hcz64_3, hcz64_4, hcz64_5, hcz64_6, hcz64_7, hcz64_8, hcz64_9, hcz64_10, hcz64_11⟩ := cz12 BK845.out
            obtain ⟨hfz64_0, hfz64_1, hfz64_2, hfz64_3, hfz64_4, hfz64_5, hfz64_6, hfz64_7, hfz64_8, hfz64_9, hfz64_10, hfz64_11⟩ := fz12 BK845.out
            go_wp2_with (first | ((with_reducible refine gate_callee (f := 27) rfl ?_); refine gl (some 44) Try.func27 #[.agg #[.int .i64 t833, .int .i64 t834, .int .i64 t835, .int .i64 t836, .int .i64 t837, .int .i64 t838, .int .i64 t839, .int .i64 t840, .int .i64 t841, .int .i64 t842, .int .i64 t843, .int .i64 t844]] ?_; (with_reducible refine (impl_BodyOk.calls kj28 t833 t834 t835 t836 t837 t838 t839 t840 t841 t842 t843 t844 true _ A56.out).mono ?_); rintro e w65 ⟨rfl, hb⟩; refine ⟨_, rfl, ?_⟩; replace BK832 := kBB BK832 hb; replace BK845 := kBB BK845 hb; replace BK873 := kBB BK873 hb; replace BK876 := kBB BK876 hb; replace HB := bS HB hb; clear hb; obtain ⟨hcz66_0, hcz66_1, hcz66_2, hcz66_3, hcz66_4, hcz66_5, hcz66_6, hcz66_7, hcz66_8, hcz66_9, hcz66_10, hcz66_11⟩ := cz12 BK845.out; obtain ⟨hfz66_0, hfz66_1, hfz66_2, hfz66_3, hfz66_4, hfz66_5, hfz66_6, hfz66_7, hfz66_8, hfz66_9, hfz66_10, hfz66_11⟩ := fz12 BK845.out) | (go_at_call 29; (with_reducible refine (laws_pqAbs.calls t837 t880 _ A58.out).mono ?_); rintro e w' ⟨rfl, ⟨nd, rfl⟩⟩) | (go_at_call 29; (with_reducible refine (laws_pqAbs.calls t838 t881 _ A60.out).mono ?_); rintro e w' ⟨rfl, ⟨nd, rfl⟩⟩))
            go_ret
            exact ⟨qE, qL HB⟩
          rw [if_neg c59] at H
          have c59b0 : decide (t880 ≤ 2560000) = false := decide_eq_false c59
          clear c59
          obtain rfl := Option.some.inj H
          have hnb67 := NB845_832.out
          have hnc67 := NB832_845.out
          have hnb68 := NB845_873.out
          have hnc68 := NB873_845.out
          have hnb69 := NB845_876.out
          have hnc69 := NB876_845.out
          obtain ⟨hcz70_0, hcz70_1, hcz70_2, hcz70_3, hcz70_4, hcz70_5, hcz70_6, hcz70_7, hcz70_8, hcz70_9, hcz70_10, hcz70_11⟩ := cz12 BK845.out
          obtain ⟨hfz70_0, hfz70_1, hfz70_2, hfz70_3, hfz70_4, hfz70_5, hfz70_6, hfz70_7, hfz70_8, hfz70_9, hfz70_10, hfz70_11⟩ := fz12 BK845.out
          go_wp2_with (first | ((with_reducible refine gate_callee (f := 27) rfl ?_); refine gl (some 44) Try.func27 #[.agg #[.int .i64 t833, .int .i64 t834, .int .i64 t835, .int .i64 t836, .int .i64 t837, .int .i64 t838, .int .i64 t839, .int .i64 t840, .int .i64 t841, .int .i64 t842, .int .i64 t843, .int .i64 t844]] ?_; (with_reducible refine (impl_BodyOk.calls kj28 t833 t834 t835 t836 t837 t838 t839 t840 t841 t842 t843 t844 true _ A56.out).mono ?_); rintro e w71 ⟨rfl, hb⟩; refine ⟨_, rfl, ?_⟩; replace BK832 := kBB BK832 hb; replace BK845 := kBB BK845 hb; replace BK873 := kBB BK873 hb; replace BK876 := kBB BK876 hb; replace HB := bS HB hb; clear hb; obtain ⟨hcz72_0, hcz72_1, hcz72_2, hcz72_3, hcz72_4, hcz72_5, hcz72_6, hcz72_7, hcz72_8, hcz72_9, hcz72_10, hcz72_11⟩ := cz12 BK845.out; obtain ⟨hfz72_0, hfz72_1, hfz72_2, hfz72_3, hfz72_4, hfz72_5, hfz72_6, hfz72_7, hfz72_8, hfz72_9, hfz72_10, hfz72_11⟩ := fz12 BK845.out) | (go_at_call 29; (with_reducible refine (laws_pqAbs.calls t837 t880 _ A58.out).mono ?_); rintro e w' ⟨rfl, ⟨nd, rfl⟩⟩))
          go_ret
          exact ⟨qE, qL HB⟩
        replace c57 := Bool.eq_false_iff.mpr c57
        subst c57
        replace H := qU H
        obtain rfl := Option.some.inj H
        have hnb73 := NB845_832.out
        have hnc73 := NB832_845.out
        have hnb74 := NB845_873.out
        have hnc74 := NB873_845.out
        have hnb75 := NB845_876.out
        have hnc75 := NB876_845.out
        obtain ⟨hcz76_0, hcz76_1, hcz76_2, hcz76_3, hcz76_4, hcz76_5, hcz76_6, hcz76_7, hcz76_8, hcz76_9, hcz76_10, hcz76_11⟩ := cz12 BK845.out
        obtain ⟨hfz76_0, hfz76_1, hfz76_2, hfz76_3, hfz76_4, hfz76_5, hfz76_6, hfz76_7, hfz76_8, hfz76_9, hfz76_10, hfz76_11⟩ := fz12 BK845.out
        go_wp2_with (first | ((with_reducible refine gate_callee (f := 27) rfl ?_); refine gl (some 44) Try.func27 #[.agg #[.int .i64 t833, .int .i64 t834, .int .i64 t835, .int .i64 t836, .int .i64 t837, .int .i64 t838, .int .i64 t839, .int .i64 t840, .int .i64 t841, .int .i64 t842, .int .i64 t843, .int .i64 t844]] ?_; (with_reducible refine (impl_BodyOk.calls kj28 t833 t834 t835 t836 t837 t838 t839 t840 t841 t842 t843 t844 false _ A56.out).mono ?_); rintro e w77 ⟨rfl, hb⟩; refine ⟨_, rfl, ?_⟩; replace BK832 := kBB BK832 hb; replace BK845 := kBB BK845 hb; replace BK873 := kBB BK873 hb; replace BK876 := kBB BK876 hb; replace HB := bS HB hb; clear hb))
        go_ret
        exact ⟨qE, qL HB⟩
      replace c55 := Bool.eq_false_iff.mpr c55
      subst c55
      replace H := qU H
      obtain rfl := Option.some.inj H
      have hnb78 := NB876_832.out
      have hnc78 := NB832_876.out
      have hnb79 := NB876_845.out
      have hnc79 := NB845_876.out
      have hnb80 := NB876_873.out
      have hnc80 := NB873_876.out
      obtain ⟨hcz81_0, hcz81_1⟩ := cz2 BK876.out
      have hfz81_0 := blk_frozen BK876.out 0
      have hfz81_1 := blk_frozen BK876.out 1
      have hnb82 := NB832_845.out
      have hnc82 := NB845_832.out
      have hnb83 := NB832_873.out
      have hnc83 := NB873_832.out
      obtain ⟨hcz84_0, hcz84_1, hcz84_2, hcz84_3, hcz84_4, hcz84_5, hcz84_6, hcz84_7, hcz84_8, hcz84_9, hcz84_10, hcz84_11⟩ := cz12 BK832.out
      obtain ⟨hfz84_0, hfz84_1, hfz84_2, hfz84_3, hfz84_4, hfz84_5, hfz84_6, hfz84_7, hfz84_8, hfz84_9, hfz84_10, hfz84_11⟩ := fz12 BK832.out
      have hnb85 := NB845_873.out
      have hnc85 := NB873_845.out
      obtain ⟨hcz86_0, hcz86_1, hcz86_2, hcz86_3, hcz86_4, hcz86_5, hcz86_6, hcz86_7, hcz86_8, hcz86_9, hcz86_10, hcz86_11⟩ := cz12 BK845.out
      obtain ⟨hfz86_0, hfz86_1, hfz86_2, hfz86_3, hfz86_4, hfz86_5, hfz86_6, hfz86_7, hfz86_8, hfz86_9, hfz86_10, hfz86_11⟩ := fz12 BK845.out
      go_wp2
      go_ret
      exact ⟨qE, qL HB⟩

/-- THE ONE PURE STATEMENT of laws_FnBodyMove: yours. -/
def laws_FnBodyMove.Pure : Prop := ∀ (l0 : List Int), l0.length ≤ maxLen → l0.length * 1 ≤ 140737488351232 → (∀ x ∈ l0, (Lit.int .u8 x).wf = true) → ∃ k, laws_FnBodyMove.f k l0 = some true
theorem laws_FnBodyMove.walk (P : laws_FnBodyMove.Pure) (a0 : Option Addr) (len0 cap0 : Nat) (z0 : List Int) (w : World) (w0 : (a0 = none ∧ len0 = 0 ∧ cap0 = 0 ∧ z0 = []) ∨ ∃ x, a0 = some x ∧ len0 ≤ cap0 ∧ cap0 ≤ maxLen ∧ z0.length = cap0 ∧ (∀ i, i < z0.length → w.cell? (x.add i) = some (.int .u8 (z0.getD i 0))) ∧ ∀ n ∈ z0, (Lit.int .u8 n).wf = true) (y0 : len0 * 1 ≤ 140737488351232) :
    Calls Try.prog 7 #[.slice a0 len0 cap0] w fun e w' => e = .returned (.bool true) ∧ Below w.heap.size w w' := by
  obtain ⟨l0, rfl, hr0, hm0, hw0, hc0⟩ := ReadsInt.ofRowC w0
  obtain ⟨k, h⟩ := P l0 hm0 y0 hw0
  refine (laws_FnBodyMove.calls k _ _ l0 true w (Kd.C_of_reads (d := (0 : Int)) (h1 := fun _ => rfl) hr0) hc0 h).mono ?_
  rintro e w' ⟨rfl, hd⟩
  exact ⟨rfl, hd⟩
end Go.Proofs.Ytihajbjkjclmoaa.PBig
