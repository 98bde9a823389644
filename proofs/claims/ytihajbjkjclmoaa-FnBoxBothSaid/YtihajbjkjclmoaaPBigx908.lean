/- What these functions compute, each walked once: laws_FnBoxBoth; for all arguments and worlds, under the conditions that each theorem names. -/
import Derived.Test.YtihajbjkjclmoaaSq
import Derived.Test.YtihajbjkjclmoaaPBigx900
import Derived.Test.YtihajbjkjclmoaaPBigx904
import Derived.Test.YtihajbjkjclmoaaPBigx906
import Derived.Test.YtihajbjkjclmoaaPBigx907
namespace Go.Proofs.Ytihajbjkjclmoaa.PBig
open Go.RowKit Go.Proofs.YtihajbjkjclmoaaW.PrintWords Go.Proofs.YtihajbjkjclmoaaW.PrintLast Go.Proofs.YtihajbjkjclmoaaW.PrintMore
attribute [local go_sem] max2_int min2_int max_two min_two max_three min_three max_four min_four   -- for this text's walks alone
set_option linter.unusedVariables false
set_option linter.unusedSimpArgs false

attribute [local go_sem high] eqA26
/-! ### laws_FnBoxBoth: function 3 -/
mutual
def laws_FnBoxBoth.j0 : Nat → Bool → Int → Int → Int → Int → Int → Int → Int → Int → Int → Int → Int → Int → Option (Bool)
  | 0, _, _, _, _, _, _, _, _, _, _, _, _, _ => none
  | k + 1, x39, x233000, x233001, x233002, x233003, x234000, x234001, x234002, x234003, x239000, x239001, x239002, x239003 => if x39 = true then ((spec_BoxBoth.f k x233000 x233001 x233002 x233003 x234000 x234001 x234002 x234003).bind fun bt249 => (if ((x239000 == bt249.1 && (x239001 == bt249.2.1)) && ((x239002 == bt249.2.2.1 && (x239003 == bt249.2.2.2)))) = true then ((impl_BoxBoth.f x234000 x234001 x234002 x234003 x233000 x233001 x233002 x233003).bind fun bt253 => (some ((bt253.1 == x239000 && (bt253.2.1 == x239001)) && ((bt253.2.2.1 == x239002 && (bt253.2.2.2 == x239003)))))) else (some false))) else (if x239000 = x233000 then (if x239001 = x233001 then (if x239002 = x233002 then (if x239003 = x233003 then (laws_FnBoxBoth.j1 k true x233000 x233001 x233002 x233003 x234000 x234001 x234002 x234003 x239000 x239001 x239002 x239003) else (laws_FnBoxBoth.j1 k (x239003 == x234003) x233000 x233001 x233002 x233003 x234000 x234001 x234002 x234003 x239000 x239001 x239002 x239003)) else (if x239002 = x234002 then (if x239003 = x233003 then (laws_FnBoxBoth.j1 k true x233000 x233001 x233002 x233003 x234000 x234001 x234002 x234003 x239000 x239001 x239002 x239003) else (laws_FnBoxBoth.j1 k (x239003 == x234003) x233000 x233001 x233002 x233003 x234000 x234001 x234002 x234003 x239000 x239001 x239002 x239003)) else (laws_FnBoxBoth.j1 k false x233000 x233001 x233002 x233003 x234000 x234001 x234002 x234003 x239000 x239001 x239002 x239003))) else (if x239001 = x234001 then (if x239002 = x233002 then (if x239003 = x233003 then (laws_FnBoxBoth.j1 k true x233000 x233001 x233002 x233003 x234000 x234001 x234002 x234003 x239000 x239001 x239002 x239003) else (laws_FnBoxBoth.j1 k (x239003 == x234003) x233000 x233001 x233002 x233003 x234000 x234001 x234002 x234003 x239000 x239001 x239002 x239003)) else (if x239002 = x234002 then (if x239003 = x233003 then (laws_FnBoxBoth.j1 k true x233000 x233001 x233002 x233003 x234000 x234001 x234002 x234003 x239000 x239001 x239002 x239003) else (laws_FnBoxBoth.j1 k (x239003 == x234003) x233000 x233001 x233002 x233003 x234000 x234001 x234002 x234003 x239000 x239001 x239002 x239003)) else (laws_FnBoxBoth.j1 k false x233000 x233001 x233002 x233003 x234000 x234001 x234002 x234003 x239000 x239001 x239002 x239003))) else (laws_FnBoxBoth.j1 k false x233000 x233001 x233002 x233003 x234000 x234001 x234002 x234003 x239000 x239001 x239002 x239003))) else (if x239000 = x234000 then (if x239001 = x233001 then (if x239002 = x233002 then (if x239003 = x233003 then (laws_FnBoxBoth.j1 k true x233000 x233001 x233002 x233003 x234000 x234001 x234002 x234003 x239000 x239001 x239002 x239003) else (laws_FnBoxBoth.j1 k (x239003 == x234003) x233000 x233001 x233002 x233003 x234000 x234001 x234002 x234003 x239000 x239001 x239002 x239003)) else (if x239002 = x234002 then (if x239003 = x233003 then (laws_FnBoxBoth.j1 k true x233000 x233001 x233002 x233003 x234000 x234001 x234002 x234003 x239000 x239001 x239002 x239003) else (laws_FnBoxBoth.j1 k (x239003 == x234003) x233000 x233001 x233002 x233003 x234000 x234001 x234002 x234003 x239000 x239001 x239002 x239003)) else (laws_FnBoxBoth.j1 k false x233000 x233001 x233002 x233003 x234000 x234001 x234002 x234003 x239000 x239001 x239002 x239003))) else (if x239001 = x234001 then (if x239002 = x233002 then (if x239003 = x233003 then (laws_FnBoxBoth.j1 k true x233000 x233001 x233002 x233003 x234000 x234001 x234002 x234003 x239000 x239001 x239002 x239003) else (laws_FnBoxBoth.j1 k (x239003 == x234003) x233000 x233001 x233002 x233003 x234000 x234001 x234002 x234003 x239000 x239001 x239002 x239003)) else (if x239002 = x234002 then (if x239003 = x233003 then (laws_FnBoxBoth.j1 k true x233000 x233001 x233002 x233003 x234000 x234001 x234002 x234003 x239000 x239001 x239002 x239003) else (laws_FnBoxBoth.j1 k (x239003 == x234003) x233000 x233001 x233002 x233003 x234000 x234001 x234002 x234003 x239000 x239001 x239002 x239003)) else (laws_FnBoxBoth.j1 k false x233000 x233001 x233002 x233003 x234000 x234001 x234002 x234003 x239000 x239001 x239002 x239003))) else (laws_FnBoxBoth.j1 k false x233000 x233001 x233002 x233003 x234000 x234001 x234002 x234003 x239000 x239001 x239002 x239003))) else (laws_FnBoxBoth.j1 k false x233000 x233001 x233002 x233003 x234000 x234001 x234002 x234003 x239000 x239001 x239002 x239003)))
def laws_FnBoxBoth.j1 : Nat → Bool → Int → Int → Int → Int → Int → Int → Int → Int → Int → Int → Int → Int → Option (Bool)
  | 0, _, _, _, _, _, _, _, _, _, _, _, _, _ => none
  | k + 1, x6, x233000, x233001, x233002, x233003, x234000, x234001, x234002, x234003, x239000, x239001, x239002, x239003 => (impl_BoxOk.f x239000 x239001 x239002 x239003).bind fun t257 => (if t257 = true then ((impl_BoxHas.f x239000 x239001 x239002 x239003 x233000 x233001 x233002 x233003).bind fun t258 => (if t258 = true then ((impl_BoxHas.f x239000 x239001 x239002 x239003 x234000 x234001 x234002 x234003).bind fun t259 => (if t259 = true then (if x6 = true then ((impl_BoxHas.f x233000 x233001 x233002 x233003 x234000 x234001 x234002 x234003).bind fun t260 => (if (t260 == ((x239000 == x233000 && (x239001 == x233001)) && ((x239002 == x233002 && (x239003 == x233003))))) = true then ((impl_BoxBoth.f x233000 x233001 x233002 x233003 x233000 x233001 x233002 x233003).bind fun bt261 => (some ((bt261.1 == x233000 && (bt261.2.1 == x233001)) && ((bt261.2.2.1 == x233002 && (bt261.2.2.2 == x233003)))))) else (some false))) else (some false)) else (some false))) else (some false))) else (some false))
end
def laws_FnBoxBoth.f (k : Nat) (l0 : List Int) : Option (Bool) := if (l0.length : Int) > 1048576 then (some true) else ((spec_DrawBoxBoth.f k l0).bind fun bt224 => ((impl_BoxBoth.f bt224.1 bt224.2.1 bt224.2.2.1 bt224.2.2.2.1 bt224.2.2.2.2.1 bt224.2.2.2.2.2.1 bt224.2.2.2.2.2.2.1 bt224.2.2.2.2.2.2.2).bind fun bt234 => ((spec_BoxBoth.f k bt224.1 bt224.2.1 bt224.2.2.1 bt224.2.2.2.1 bt224.2.2.2.2.1 bt224.2.2.2.2.2.1 bt224.2.2.2.2.2.2.1 bt224.2.2.2.2.2.2.2).bind fun bt239 => (if ((!(bt234.1 == bt239.1) || (!(bt234.2.1 == bt239.2.1))) || ((!(bt234.2.2.1 == bt239.2.2.1) || (!(bt234.2.2.2 == bt239.2.2.2))))) = true then (laws_FnBoxBoth.j0 k true bt224.1 bt224.2.1 bt224.2.2.1 bt224.2.2.2.1 bt224.2.2.2.2.1 bt224.2.2.2.2.2.1 bt224.2.2.2.2.2.2.1 bt224.2.2.2.2.2.2.2 bt234.1 bt234.2.1 bt234.2.2.1 bt234.2.2.2) else ((impl_BoxBoth.f bt224.2.2.2.2.1 bt224.2.2.2.2.2.1 bt224.2.2.2.2.2.2.1 bt224.2.2.2.2.2.2.2 bt224.1 bt224.2.1 bt224.2.2.1 bt224.2.2.2.1).bind fun bt243 => (if ((!(bt243.1 == bt234.1) || (!(bt243.2.1 == bt234.2.1))) || ((!(bt243.2.2.1 == bt234.2.2.1) || (!(bt243.2.2.2 == bt234.2.2.2))))) = true then (laws_FnBoxBoth.j0 k true bt224.1 bt224.2.1 bt224.2.2.1 bt224.2.2.2.1 bt224.2.2.2.2.1 bt224.2.2.2.2.2.1 bt224.2.2.2.2.2.2.1 bt224.2.2.2.2.2.2.2 bt234.1 bt234.2.1 bt234.2.2.1 bt234.2.2.2) else ((spec_BoxOk.f bt224.1 bt224.2.1 bt224.2.2.1 bt224.2.2.2.1).bind fun t247 => (if t247 = true then ((spec_BoxOk.f bt224.2.2.2.2.1 bt224.2.2.2.2.2.1 bt224.2.2.2.2.2.2.1 bt224.2.2.2.2.2.2.2).bind fun t248 => (laws_FnBoxBoth.j0 k (!t248) bt224.1 bt224.2.1 bt224.2.2.1 bt224.2.2.2.1 bt224.2.2.2.2.1 bt224.2.2.2.2.2.1 bt224.2.2.2.2.2.2.1 bt224.2.2.2.2.2.2.2 bt234.1 bt234.2.1 bt234.2.2.1 bt234.2.2.2)) else (laws_FnBoxBoth.j0 k true bt224.1 bt224.2.1 bt224.2.2.1 bt224.2.2.2.1 bt224.2.2.2.2.1 bt224.2.2.2.2.2.1 bt224.2.2.2.2.2.2.1 bt224.2.2.2.2.2.2.2 bt234.1 bt234.2.1 bt234.2.2.1 bt234.2.2.2)))))))))
theorem laws_FnBoxBoth.mono_l : ∀ k, (∀ y0 y1 y2 y3 y4 y5 y6 y7 y8 y9 y10 y11 y12, LeO (laws_FnBoxBoth.j0 k y0 y1 y2 y3 y4 y5 y6 y7 y8 y9 y10 y11 y12) (laws_FnBoxBoth.j0 (k + 1) y0 y1 y2 y3 y4 y5 y6 y7 y8 y9 y10 y11 y12)) ∧ (∀ y0 y1 y2 y3 y4 y5 y6 y7 y8 y9 y10 y11 y12, LeO (laws_FnBoxBoth.j1 k y0 y1 y2 y3 y4 y5 y6 y7 y8 y9 y10 y11 y12) (laws_FnBoxBoth.j1 (k + 1) y0 y1 y2 y3 y4 y5 y6 y7 y8 y9 y10 y11 y12))
  | 0 => ⟨fun _ _ _ _ _ _ _ _ _ _ _ _ _ r h => by simp [laws_FnBoxBoth.j0] at h, fun _ _ _ _ _ _ _ _ _ _ _ _ _ r h => by simp [laws_FnBoxBoth.j1] at h⟩
  | k + 1 => by
    obtain ⟨ih0, ih1⟩ := laws_FnBoxBoth.mono_l k
    refine ⟨?_, ?_⟩
    · intro y0 y1 y2 y3 y4 y5 y6 y7 y8 y9 y10 y11 y12
      unfold laws_FnBoxBoth.j0
      repeat' first
      | (with_reducible exact ih0 _ _ _ _ _ _ _ _ _ _ _ _ _)
      | (with_reducible exact ih1 _ _ _ _ _ _ _ _ _ _ _ _ _)
      | (with_reducible exact spec_BoxBoth.mono _ _ _ _ _ _ _ _ _)
      | (with_reducible exact spec_DrawBoxBoth.mono _ _)
      | (with_reducible exact LeO.refl _)
      | (with_reducible exact LeO.none _)
      | (with_reducible refine LeO.ite ?_ ?_)
      | (with_reducible refine LeO.bind ?_ (fun _ => ?_))
    · intro y0 y1 y2 y3 y4 y5 y6 y7 y8 y9 y10 y11 y12
      unfold laws_FnBoxBoth.j1
      repeat' first
      | (with_reducible exact ih0 _ _ _ _ _ _ _ _ _ _ _ _ _)
      | (with_reducible exact ih1 _ _ _ _ _ _ _ _ _ _ _ _ _)
      | (with_reducible exact spec_BoxBoth.mono _ _ _ _ _ _ _ _ _)
      | (with_reducible exact spec_DrawBoxBoth.mono _ _)
      | (with_reducible exact LeO.refl _)
      | (with_reducible exact LeO.none _)
      | (with_reducible refine LeO.ite ?_ ?_)
      | (with_reducible refine LeO.bind ?_ (fun _ => ?_))
theorem laws_FnBoxBoth.mono : ∀ a0 k, LeO (laws_FnBoxBoth.f k a0) (laws_FnBoxBoth.f (k + 1) a0) := by
  intro a0 k
  obtain ⟨ih0, ih1⟩ := laws_FnBoxBoth.mono_l k
  unfold laws_FnBoxBoth.f
  repeat' first
      | (with_reducible exact ih0 _ _ _ _ _ _ _ _ _ _ _ _ _)
      | (with_reducible exact ih1 _ _ _ _ _ _ _ _ _ _ _ _ _)
      | (with_reducible exact spec_BoxBoth.mono _ _ _ _ _ _ _ _ _)
      | (with_reducible exact spec_DrawBoxBoth.mono _ _)
      | (with_reducible exact LeO.refl _)
      | (with_reducible exact LeO.none _)
      | (with_reducible refine LeO.ite ?_ ?_)
      | (with_reducible refine LeO.bind ?_ (fun _ => ?_))
def laws_FnBoxBoth.T5 : Bool × List (List Nat × List Nat) := (true, [([], []), ([], []), ([], []), ([1, 2], [1, 2]), ([0, 3], [0, 3]), ([4, 3], [4]), ([5], [5]), ([5], [5]), ([6, 7, 5, 5], [5, 6, 7]), ([5], [5]), ([8, 9, 5], [5, 8, 9]), ([5, 10], [5, 10]), ([11, 8], [11]), ([12], [12]), ([13, 12, 12], [12, 13]), ([14, 12], [12, 14]), ([12, 15], [12, 15]), ([16, 14], [16]), ([17], [17]), ([18, 17, 17], [17, 18]), ([19, 17], [17, 19]), ([17, 20], [17, 20])])
def laws_FnBoxBoth.B5 : List Nat := [0, 0, 0, 6, 15, 31, 63, 63, 255, 63, 1023, 2047, 4095, 8191, 16383, 32767, 65535, 131071, 262143, 524287, 1048575, 2097151]
theorem laws_FnBoxBoth.tab5 : rtab .any (opsOf Try.f3 5) = laws_FnBoxBoth.T5 := by kernel_rfl
theorem laws_FnBoxBoth.bits5 : waitsOk laws_FnBoxBoth.T5.2 laws_FnBoxBoth.B5 = true := by kernel_rfl
def laws_FnBoxBoth.T6 : Bool × List (List Nat × List Nat) := (true, [([], []), ([], []), ([], []), ([1, 2], [1, 2]), ([0, 3], [0, 3]), ([4, 3], [4]), ([5], [5]), ([5], [5]), ([6, 7, 5, 5], [5, 6, 7]), ([5], [5]), ([8, 9, 5], [5, 8, 9]), ([5, 10], [5, 10]), ([11, 8, 0, 1, 2, 3, 4, 5, 6, 7, 8, 9, 10, 11], [11])])
def laws_FnBoxBoth.B6 : List Nat := [0, 0, 0, 6, 15, 31, 63, 63, 255, 63, 1023, 2047, 4095]
theorem laws_FnBoxBoth.tab6 : rtab .any (opsOf Try.f3 6) = laws_FnBoxBoth.T6 := by kernel_rfl
theorem laws_FnBoxBoth.bits6 : waitsOk laws_FnBoxBoth.T6.2 laws_FnBoxBoth.B6 = true := by kernel_rfl
def laws_FnBoxBoth.T8 : Bool × List (List Nat × List Nat) := (true, [([], []), ([0], [0]), ([1, 1], [1]), ([2], [2]), ([2], [2]), ([3, 4, 2, 2], [2, 3, 4]), ([2, 5], [2, 5]), ([6, 5], [6]), ([7], [7]), ([7], [7]), ([8, 9, 7, 7], [7, 8, 9]), ([7, 10], [7, 10]), ([11, 10], [11]), ([12], [12]), ([12, 13], [12, 13]), ([14, 12], [14]), ([15], [15]), ([15], [15]), ([16, 17, 15, 15], [15, 16, 17]), ([15], [15]), ([15], [15]), ([19, 20, 15], [15, 19, 20]), ([18, 21, 15], [15, 18, 21]), ([15, 22], [15, 22]), ([23, 18], [23]), ([24], [24]), ([24], [24]), ([25, 26, 24, 24], [24, 25, 26]), ([24], [24]), ([27, 28, 24], [24, 27, 28]), ([24, 29], [24, 29]), ([30, 27, 0, 1, 2, 3, 4, 5, 6, 7, 8, 9, 10, 11, 12, 13, 14, 15, 16, 17, 18, 19, 20, 21, 22, 23, 24, 25, 26, 27, 28, 29, 30], [30])])
def laws_FnBoxBoth.B8 : List Nat := [0, 1, 3, 7, 7, 31, 63, 127, 255, 255, 1023, 2047, 4095, 8191, 16383, 32767, 65535, 65535, 262143, 65535, 65535, 1638399, 4194303, 8388607, 16777215, 33554431, 33554431, 134217727, 33554431, 536870911, 1073741823, 2147483647]
theorem laws_FnBoxBoth.tab8 : rtab .any (opsOf Try.f3 8) = laws_FnBoxBoth.T8 := by kernel_rfl
theorem laws_FnBoxBoth.bits8 : waitsOk laws_FnBoxBoth.T8.2 laws_FnBoxBoth.B8 = true := by kernel_rfl
set_option maxHeartbeats 8000000 in
set_option maxRecDepth 100000 in
theorem laws_FnBoxBoth.calls (k : Nat) (A0 : Option Addr) (c0 : Nat) (l0 : List Int) (r : Bool) (w : World) (hr0 : Kd.C (Kd.int .u8) w A0 l0.length l0) (hc0 : l0.length ≤ c0) (h : laws_FnBoxBoth.f k l0 = some r) :
    Calls Try.prog 3 #[.slice A0 l0.length c0] w fun e w' => e = .returned (.bool r) ∧ Below w.heap.size w w' := by
  have hu26 := Try.underlying26
  have HR0 := az hr0
  have HC0 := az hc0
  clear hr0 hc0
  have HB := az (Below.refl w.heap.size w)
  have H : (if (l0.length : Int) > 1048576 then (some true) else ((spec_DrawBoxBoth.f k l0).bind fun bt224 => ((impl_BoxBoth.f bt224.1 bt224.2.1 bt224.2.2.1 bt224.2.2.2.1 bt224.2.2.2.2.1 bt224.2.2.2.2.2.1 bt224.2.2.2.2.2.2.1 bt224.2.2.2.2.2.2.2).bind fun bt234 => ((spec_BoxBoth.f k bt224.1 bt224.2.1 bt224.2.2.1 bt224.2.2.2.1 bt224.2.2.2.2.1 bt224.2.2.2.2.2.1 bt224.2.2.2.2.2.2.1 bt224.2.2.2.2.2.2.2).bind fun bt239 => (if ((!(bt234.1 == bt239.1) || (!(bt234.2.1 == bt239.2.1))) || ((!(bt234.2.2.1 == bt239.2.2.1) || (!(bt234.2.2.2 == bt239.2.2.2))))) = true then (laws_FnBoxBoth.j0 k true bt224.1 bt224.2.1 bt224.2.2.1 bt224.2.2.2.1 bt224.2.2.2.2.1 bt224.2.2.2.2.2.1 bt224.2.2.2.2.2.2.1 bt224.2.2.2.2.2.2.2 bt234.1 bt234.2.1 bt234.2.2.1 bt234.2.2.2) else ((impl_BoxBoth.f bt224.2.2.2.2.1 bt224.2.2.2.2.2.1 bt224.2.2.2.2.2.2.1 bt224.2.2.2.2.2.2.2 bt224.1 bt224.2.1 bt224.2.2.1 bt224.2.2.2.1).bind fun bt243 => (if ((!(bt243.1 == bt234.1) || (!(bt243.2.1 == bt234.2.1))) || ((!(bt243.2.2.1 == bt234.2.2.1) || (!(bt243.2.2.2 == bt234.2.2.2))))) = true then (laws_FnBoxBoth.j0 k true bt224.1 bt224.2.1 bt224.2.2.1 bt224.2.2.2.1 bt224.2.2.2.2.1 bt224.2.2.2.2.2.1 bt224.2.2.2.2.2.2.1 bt224.2.2.2.2.2.2.2 bt234.1 bt234.2.1 bt234.2.2.1 bt234.2.2.2) else ((spec_BoxOk.f bt224.1 bt224.2.1 bt224.2.2.1 bt224.2.2.2.1).bind fun t247 => (if t247 = true then ((spec_BoxOk.f bt224.2.2.2.2.1 bt224.2.2.2.2.2.1 bt224.2.2.2.2.2.2.1 bt224.2.2.2.2.2.2.2).bind fun t248 => (laws_FnBoxBoth.j0 k (!t248) bt224.1 bt224.2.1 bt224.2.2.1 bt224.2.2.2.1 bt224.2.2.2.2.1 bt224.2.2.2.2.2.1 bt224.2.2.2.2.2.2.1 bt224.2.2.2.2.2.2.2 bt234.1 bt234.2.1 bt234.2.2.1 bt234.2.2.2)) else (laws_FnBoxBoth.j0 k true bt224.1 bt224.2.1 bt224.2.2.1 bt224.2.2.2.1 bt224.2.2.2.2.1 bt224.2.2.2.2.2.1 bt224.2.2.2.2.2.2.1 bt224.2.2.2.2.2.2.2 bt234.1 bt234.2.1 bt234.2.2.1 bt234.2.2.2)))))))))) = some r := h
  clear h
  by_cases c2 : (l0.length : Int) > 1048576
  · as_aux_lemma =>
      rw [if_pos c2] at H
      have c2b0 : decide (1048576 < (l0.length : Int)) = true := decide_eq_true c2
      have c2b1 : decide (1048576 < l0.length) = true := decide_eq_true (by omega)
      clear c2
      obtain rfl := Option.some.inj H
      go_enter Try.func3, Try.ntmps3
      go_wp2
      go_ret
      exact ⟨qE, qL HB⟩
  rw [if_neg c2] at H
  have c2b0 : decide (1048576 < (l0.length : Int)) = false := decide_eq_false c2
  have c2b1 : decide (1048576 < l0.length) = false := decide_eq_false (by omega)
  clear c2
  replace H := qH H
  obtain ⟨⟨t224, t225, t226, t227, t228, t229, t230, t231⟩, A3, H⟩ := H
  try dsimp only at H
  replace H := qH H
  obtain ⟨⟨t234, t235, t236, t237⟩, A4, H⟩ := H
  try dsimp only at H
  have HC5 := az H
  clear H
  go_enter Try.func3, Try.ntmps3
  go_upto_region 5 with (first | ((with_reducible refine gate_callee (f := 12) rfl ?_); refine gl (some 12) Try.func12 #[.slice A0 l0.length c0] ?_; (with_reducible refine (spec_DrawBoxBoth.calls k _ _ l0 t224 t225 t226 t227 t228 t229 t230 t231 _ ?side1 ?side2 A3.out).mono ?_); (case side1 => repeat (first | exact HR0.out | (with_reducible refine Kd.C_alloc ?_ _) | (with_reducible refine Kd.C_drewN ?_ _) | (with_reducible refine Kd.C_drew ?_))); (case side2 => exact HC0.out); rintro e w6 ⟨rfl, hb⟩; refine ⟨_, rfl, ?_⟩; replace HB := bS HB hb; clear hb) | ((with_reducible refine gate_dst (N := 3) rfl ?_); refine bx (N := 3) (cs := #[.int .i64 0, .int .i64 0, .int .i64 0, .int .i64 0]) (t := 26) ?_; intro gb232 hg w7 hbox hb; have BK232 := az hbox; have GW232 := az ((gE hg (qL HB) : w.heap.size ≤ gb232)); have GE232 := GW232; replace HB := bS HB hb; clear hb hbox hg) | ((with_reducible refine gate_dst (N := 4) rfl ?_); refine bx (N := 4) (cs := #[.int .i64 0, .int .i64 0, .int .i64 0, .int .i64 0]) (t := 26) ?_; intro gb233 hg w8 hbox hb; have BK233 := az hbox; have GW233 := az ((gE hg (qL HB) : w.heap.size ≤ gb233)); have GE233 := GW233; obtain ⟨NB232_233, NB233_232⟩ := nPB BK232 hg; replace BK232 := kBB BK232 hb; replace HB := bS HB hb; clear hb hbox hg; have hnb9 := NB232_233.out; have hnc9 := NB233_232.out; obtain ⟨hcz10_0, hcz10_1, hcz10_2, hcz10_3⟩ := cz4 BK232.out; obtain ⟨hfz10_0, hfz10_1, hfz10_2, hfz10_3⟩ := fz4 BK232.out; obtain ⟨hcz11_0, hcz11_1, hcz11_2, hcz11_3⟩ := cz4 BK233.out; obtain ⟨hfz11_0, hfz11_1, hfz11_2, hfz11_3⟩ := fz4 BK233.out) | ((with_reducible refine gate_callee (f := 13) rfl ?_); refine gl (some 17) Try.func13 #[.agg #[.int .i64 t224, .int .i64 t225, .int .i64 t226, .int .i64 t227], .agg #[.int .i64 t228, .int .i64 t229, .int .i64 t230, .int .i64 t231]] ?_; (with_reducible refine (impl_BoxBoth.calls t224 t225 t226 t227 t228 t229 t230 t231 t234 t235 t236 t237 _ A4.out).mono ?_); rintro e w12 ⟨rfl, hb⟩; refine ⟨_, rfl, ?_⟩; replace BK232 := kBP (o' := .cells #[.int .i64 t224, .int .i64 t225, .int .i64 t226, .int .i64 t227] 26 (0, 0)) BK232 hb; replace BK233 := kBP (o' := .cells #[.int .i64 t228, .int .i64 t229, .int .i64 t230, .int .i64 t231] 26 (0, 0)) BK233 hb; replace HB := bS HB hb; clear hb) | ((with_reducible refine gate_dst (N := 5) rfl ?_); refine bx (N := 5) (cs := #[.int .i64 0, .int .i64 0, .int .i64 0, .int .i64 0]) (t := 26) ?_; intro gb238 hg w13 hbox hb; have BK238 := az hbox; have GW238 := az ((gE hg (qL HB) : w.heap.size ≤ gb238)); have GE238 := GW238; obtain ⟨NB232_238, NB238_232⟩ := nPB BK232 hg; obtain ⟨NB233_238, NB238_233⟩ := nPB BK233 hg; replace BK232 := kBB BK232 hb; replace BK233 := kBB BK233 hb; replace HB := bS HB hb; clear hb hbox hg; have hnb14 := NB238_232.out; have hnc14 := NB232_238.out; have hnb15 := NB238_233.out; have hnc15 := NB233_238.out; obtain ⟨hcz16_0, hcz16_1, hcz16_2, hcz16_3⟩ := cz4 BK238.out; obtain ⟨hfz16_0, hfz16_1, hfz16_2, hfz16_3⟩ := fz4 BK238.out))
  (try simp only [Act.put, List.setIfInBounds_toArray, List.set_cons_zero, List.set_cons_succ])
  go_cut [39] (fun v39 wc => ∃ (kq : Nat) (x39_4 : Bool), v39 = .bool x39_4 ∧ Aside0 (laws_FnBoxBoth.j0 kq x39_4 t224 t225 t226 t227 t228 t229 t230 t231 t234 t235 t236 t237 = some r) ∧ Aside0 (kq ≤ k) ∧ Aside0 (wc.heap[gb232]? = some (.cells #[.int .i64 t224, .int .i64 t225, .int .i64 t226, .int .i64 t227] 26 (0, 0))) ∧ Aside0 (wc.heap[gb233]? = some (.cells #[.int .i64 t228, .int .i64 t229, .int .i64 t230, .int .i64 t231] 26 (0, 0))) ∧ Aside0 (wc.heap[gb238]? = some (.cells #[.int .i64 t234, .int .i64 t235, .int .i64 t236, .int .i64 t237] 26 (0, 0))) ∧ Aside0 (Below w.heap.size w wc))
  case first =>
    have H := HC5.out
    clear HC5
    replace H := qH H
    obtain ⟨⟨t239, t240, t241, t242⟩, A17, H⟩ := H
    try dsimp only at H
    by_cases c18 : ((!(t234 == t239) || (!(t235 == t240))) || ((!(t236 == t241) || (!(t237 == t242))))) = true
    · as_aux_lemma =>
        rw [if_pos c18] at H
        have c18b0 : ((!(t234 == t239) || (!(t235 == t240))) || ((!(t236 == t241) || (!(t237 == t242))))) = true := c18
        clear c18
        (first | rw [c18b0] | (simp only [i64_w, i32_w]; rw [c18b0]) | skip)
        have H' := az H
        clear H
        try go_wp2
        obtain ⟨w19, hw_⟩ : ∃ x, x = ((((w13.setCell ⟨gb238, 0, none⟩ (.int .i64 t234)).setCell ⟨gb238, 1, none⟩ (.int .i64 t235)).setCell ⟨gb238, 2, none⟩ (.int .i64 t236)).setCell ⟨gb238, 3, none⟩ (.int .i64 t237)) := ⟨_, rfl⟩
        replace BK232 : Aside0 (w19.heap[gb232]? = some (.cells #[.int .i64 t224, .int .i64 t225, .int .i64 t226, .int .i64 t227] 26 (0, 0))) := ⟨by rw [hw_]; exact qF BK232⟩
        replace BK233 : Aside0 (w19.heap[gb233]? = some (.cells #[.int .i64 t228, .int .i64 t229, .int .i64 t230, .int .i64 t231] 26 (0, 0))) := ⟨by rw [hw_]; exact qF BK233⟩
        replace BK238 : Aside0 (w19.heap[gb238]? = some (.cells #[.int .i64 t234, .int .i64 t235, .int .i64 t236, .int .i64 t237] 26 (0, 0))) := ⟨by rw [hw_]; exact qP BK238⟩
        replace HB : Aside0 (Below w.heap.size w w19) := ⟨by rw [hw_]; exact qL HB⟩
        rw [← hw_]
        clear hw_
        replace BK232 := az (blk_drew BK232.out)
        replace BK233 := az (blk_drew BK233.out)
        replace BK238 := az (blk_drew BK238.out)
        replace HB := az (below_drew1 HB.out)
        refine start_ (n := 22) (S := fun w' => w'.cell? ⟨gb238, 0, none⟩ = some (.int .i64 t234) ∧ w'.cell? ⟨gb238, 1, none⟩ = some (.int .i64 t235) ∧ w'.cell? ⟨gb238, 2, none⟩ = some (.int .i64 t236) ∧ w'.cell? ⟨gb238, 3, none⟩ = some (.int .i64 t237) ∧ w'.cell? ⟨gb232, 0, none⟩ = some (.int .i64 t224) ∧ w'.cell? ⟨gb232, 1, none⟩ = some (.int .i64 t225) ∧ w'.cell? ⟨gb232, 2, none⟩ = some (.int .i64 t226) ∧ w'.cell? ⟨gb232, 3, none⟩ = some (.int .i64 t227) ∧ w'.cell? ⟨gb233, 0, none⟩ = some (.int .i64 t228) ∧ w'.cell? ⟨gb233, 1, none⟩ = some (.int .i64 t229) ∧ w'.cell? ⟨gb233, 2, none⟩ = some (.int .i64 t230) ∧ w'.cell? ⟨gb233, 3, none⟩ = some (.int .i64 t231)) (ds := []) #[false, false, false, false, false, false, false, false, false, false, false, false, false, false, false, false, false, false, false, false, false, false] (by kernel_rfl) rfl rfl ⟨bc BK238 0, bc BK238 1, bc BK238 2, bc BK238 3, bc BK232 0, bc BK232 1, bc BK232 2, bc BK232 3, bc BK233 0, bc BK233 1, bc BK233 2, bc BK233 3⟩ (fun hHeld => ?_); refine with_tabW laws_FnBoxBoth.tab5 laws_FnBoxBoth.bits5 (fun HT_ HW_ => ?_)
        generalize w19.drew = w20 at BK232 BK233 BK238 HB hHeld ⊢
        refine tk12 0 (some 18) (fl 22 1) HT_ HW_ hHeld ?_
        refine tk12 1 (some 19) (fl 22 3) HT_ HW_ hHeld ?_
        refine tk12 2 (some 20) (fl 22 7) HT_ HW_ hHeld ?_
        refine on 3 (some 21) (fl 22 15) HT_ (fun K hK => ?_)
        refine go1 Try.func14 #[.agg #[.int .i64 t224, .int .i64 t225, .int .i64 t226, .int .i64 t227], .agg #[.int .i64 t228, .int .i64 t229, .int .i64 t230, .int .i64 t231]] ?_
        with_reducible refine (spec_BoxBoth.calls k t224 t225 t226 t227 t228 t229 t230 t231 t239 t240 t241 t242 _ A17.out).mono ?_
        rintro e w21 ⟨rfl, hb⟩
        refine ⟨_, rfl, ?_⟩
        replace BK232 := kBB BK232 hb
        replace BK233 := kBB BK233 hb
        replace BK238 := kBB BK238 hb
        replace HB := bS HB hb
        clear hb
        refine hK.out _ _ ⟨bc BK238 0, bc BK238 1, bc BK238 2, bc BK238 3, bc BK232 0, bc BK232 1, bc BK232 2, bc BK232 3, bc BK233 0, bc BK233 1, bc BK233 2, bc BK233 3⟩ (fun hHeld => ?_)
        clear hK K
        refine nm (some 21) ?_
        refine pu 4 (some 22) (fl 22 31) HT_ ?_
        refine pu 5 (some 23) (fl 22 63) HT_ ?_
        refine pv 6 (some 24) (fl 22 127) HT_ ?_
        refine pv 7 (some 25) (fl 22 255) HT_ ?_
        refine pv 8 (some 26) (fl 22 511) HT_ ?_
        refine pv 9 (some 27) (fl 22 1023) HT_ ?_
        refine pv 10 (some 28) (fl 22 2047) HT_ ?_
        refine pu 11 (some 29) (fl 22 4095) HT_ ?_
        refine pu 12 (some 30) (fl 22 8191) HT_ ?_
        refine pv 13 (some 31) (fl 22 16383) HT_ ?_
        refine pv 14 (some 32) (fl 22 32767) HT_ ?_
        refine pv 15 (some 33) (fl 22 65535) HT_ ?_
        refine pu 16 (some 34) (fl 22 131071) HT_ ?_
        refine pu 17 (some 35) (fl 22 262143) HT_ ?_
        refine pv 18 (some 36) (fl 22 524287) HT_ ?_
        refine pv 19 (some 37) (fl 22 1048575) HT_ ?_
        refine pv 20 (some 38) (fl 22 2097151) HT_ ?_
        refine pu 21 (some 39) (fl 22 4194303) HT_ ?_
        refine done_ (done_of HT_.out (by kernel_rfl)) ?_
        try go_wp2
        go_meet
        case rel => exact ⟨_, (true), (by first | rfl | (simp; done) | (simp [*]; done)), H', ⟨by first | omega | exact Nat.le_refl _⟩, ⟨qF BK232⟩, ⟨qF BK233⟩, ⟨qF BK238⟩, ⟨qL HB⟩⟩
    rw [if_neg c18] at H
    have c18b0 : ((!(t234 == t239) || (!(t235 == t240))) || ((!(t236 == t241) || (!(t237 == t242))))) = false := by simpa using c18
    clear c18
    (first | rw [c18b0] | (simp only [i64_w, i32_w]; rw [c18b0]) | skip)
    replace H := qH H
    obtain ⟨⟨t243, t244, t245, t246⟩, A22, H⟩ := H
    try dsimp only at H
    by_cases c23 : ((!(t243 == t234) || (!(t244 == t235))) || ((!(t245 == t236) || (!(t246 == t237))))) = true
    · as_aux_lemma =>
        rw [if_pos c23] at H
        have c23b0 : ((!(t243 == t234) || (!(t244 == t235))) || ((!(t245 == t236) || (!(t246 == t237))))) = true := c23
        clear c23
        have H' := az H
        clear H
        try go_wp2
        obtain ⟨w24, hw_⟩ : ∃ x, x = ((((w13.setCell ⟨gb238, 0, none⟩ (.int .i64 t234)).setCell ⟨gb238, 1, none⟩ (.int .i64 t235)).setCell ⟨gb238, 2, none⟩ (.int .i64 t236)).setCell ⟨gb238, 3, none⟩ (.int .i64 t237)) := ⟨_, rfl⟩
        replace BK232 : Aside0 (w24.heap[gb232]? = some (.cells #[.int .i64 t224, .int .i64 t225, .int .i64 t226, .int .i64 t227] 26 (0, 0))) := ⟨by rw [hw_]; exact qF BK232⟩
        replace BK233 : Aside0 (w24.heap[gb233]? = some (.cells #[.int .i64 t228, .int .i64 t229, .int .i64 t230, .int .i64 t231] 26 (0, 0))) := ⟨by rw [hw_]; exact qF BK233⟩
        replace BK238 : Aside0 (w24.heap[gb238]? = some (.cells #[.int .i64 t234, .int .i64 t235, .int .i64 t236, .int .i64 t237] 26 (0, 0))) := ⟨by rw [hw_]; exact qP BK238⟩
        replace HB : Aside0 (Below w.heap.size w w24) := ⟨by rw [hw_]; exact qL HB⟩
        rw [← hw_]
        clear hw_
        replace BK232 := az (blk_drew BK232.out)
        replace BK233 := az (blk_drew BK233.out)
        replace BK238 := az (blk_drew BK238.out)
        replace HB := az (below_drew1 HB.out)
        refine start_ (n := 22) (S := fun w' => w'.cell? ⟨gb238, 0, none⟩ = some (.int .i64 t234) ∧ w'.cell? ⟨gb238, 1, none⟩ = some (.int .i64 t235) ∧ w'.cell? ⟨gb238, 2, none⟩ = some (.int .i64 t236) ∧ w'.cell? ⟨gb238, 3, none⟩ = some (.int .i64 t237) ∧ w'.cell? ⟨gb232, 0, none⟩ = some (.int .i64 t224) ∧ w'.cell? ⟨gb232, 1, none⟩ = some (.int .i64 t225) ∧ w'.cell? ⟨gb232, 2, none⟩ = some (.int .i64 t226) ∧ w'.cell? ⟨gb232, 3, none⟩ = some (.int .i64 t227) ∧ w'.cell? ⟨gb233, 0, none⟩ = some (.int .i64 t228) ∧ w'.cell? ⟨gb233, 1, none⟩ = some (.int .i64 t229) ∧ w'.cell? ⟨gb233, 2, none⟩ = some (.int .i64 t230) ∧ w'.cell? ⟨gb233, 3, none⟩ = some (.int .i64 t231)) (ds := []) #[false, false, false, false, false, false, false, false, false, false, false, false, false, false, false, false, false, false, false, false, false, false] (by kernel_rfl) rfl rfl ⟨bc BK238 0, bc BK238 1, bc BK238 2, bc BK238 3, bc BK232 0, bc BK232 1, bc BK232 2, bc BK232 3, bc BK233 0, bc BK233 1, bc BK233 2, bc BK233 3⟩ (fun hHeld => ?_); refine with_tabW laws_FnBoxBoth.tab5 laws_FnBoxBoth.bits5 (fun HT_ HW_ => ?_)
        generalize w24.drew = w25 at BK232 BK233 BK238 HB hHeld ⊢
        refine tk12 0 (some 18) (fl 22 1) HT_ HW_ hHeld ?_
        refine tk12 1 (some 19) (fl 22 3) HT_ HW_ hHeld ?_
        refine tk12 2 (some 20) (fl 22 7) HT_ HW_ hHeld ?_
        refine on 3 (some 21) (fl 22 15) HT_ (fun K hK => ?_)
        refine go1 Try.func14 #[.agg #[.int .i64 t224, .int .i64 t225, .int .i64 t226, .int .i64 t227], .agg #[.int .i64 t228, .int .i64 t229, .int .i64 t230, .int .i64 t231]] ?_
        with_reducible refine (spec_BoxBoth.calls k t224 t225 t226 t227 t228 t229 t230 t231 t239 t240 t241 t242 _ A17.out).mono ?_
        rintro e w26 ⟨rfl, hb⟩
        refine ⟨_, rfl, ?_⟩
        replace BK232 := kBB BK232 hb
        replace BK233 := kBB BK233 hb
        replace BK238 := kBB BK238 hb
        replace HB := bS HB hb
        clear hb
        refine hK.out _ _ ⟨bc BK238 0, bc BK238 1, bc BK238 2, bc BK238 3, bc BK232 0, bc BK232 1, bc BK232 2, bc BK232 3, bc BK233 0, bc BK233 1, bc BK233 2, bc BK233 3⟩ (fun hHeld => ?_)
        clear hK K
        refine nm (some 21) ?_
        refine pu 4 (some 22) (fl 22 31) HT_ ?_
        refine pu 5 (some 23) (fl 22 63) HT_ ?_
        refine tk12 6 (some 24) (fl 22 127) HT_ HW_ hHeld ?_
        refine tk12 7 (some 25) (fl 22 255) HT_ HW_ hHeld ?_
        refine tk12 9 (some 27) (fl 22 767) HT_ HW_ hHeld ?_
        refine on 8 (some 26) (fl 22 1023) HT_ (fun K hK => ?_)
        refine go1 Try.func13 #[.agg #[.int .i64 t228, .int .i64 t229, .int .i64 t230, .int .i64 t231], .agg #[.int .i64 t224, .int .i64 t225, .int .i64 t226, .int .i64 t227]] ?_
        with_reducible refine (impl_BoxBoth.calls t228 t229 t230 t231 t224 t225 t226 t227 t243 t244 t245 t246 _ A22.out).mono ?_
        rintro e w27 ⟨rfl, hb⟩
        refine ⟨_, rfl, ?_⟩
        replace BK232 := kBB BK232 hb
        replace BK233 := kBB BK233 hb
        replace BK238 := kBB BK238 hb
        replace HB := bS HB hb
        clear hb
        refine hK.out _ _ ⟨bc BK238 0, bc BK238 1, bc BK238 2, bc BK238 3, bc BK232 0, bc BK232 1, bc BK232 2, bc BK232 3, bc BK233 0, bc BK233 1, bc BK233 2, bc BK233 3⟩ (fun hHeld => ?_)
        clear hK K
        refine nm (some 26) ?_
        refine pu 10 (some 28) (fl 22 2047) HT_ ?_
        refine pu 11 (some 29) (fl 22 4095) HT_ ?_
        refine pu 12 (some 30) (fl 22 8191) HT_ ?_
        refine pv 13 (some 31) (fl 22 16383) HT_ ?_
        refine pv 14 (some 32) (fl 22 32767) HT_ ?_
        refine pv 15 (some 33) (fl 22 65535) HT_ ?_
        refine pu 16 (some 34) (fl 22 131071) HT_ ?_
        refine pu 17 (some 35) (fl 22 262143) HT_ ?_
        refine pv 18 (some 36) (fl 22 524287) HT_ ?_
        refine pv 19 (some 37) (fl 22 1048575) HT_ ?_
        refine pv 20 (some 38) (fl 22 2097151) HT_ ?_
        refine pu 21 (some 39) (fl 22 4194303) HT_ ?_
        refine done_ (done_of HT_.out (by kernel_rfl)) ?_
        try go_wp2
        go_meet
        case rel => exact ⟨_, (true), (by first | rfl | (simp; done) | (simp [*]; done)), H', ⟨by first | omega | exact Nat.le_refl _⟩, ⟨qF BK232⟩, ⟨qF BK233⟩, ⟨qF BK238⟩, ⟨qL HB⟩⟩
    rw [if_neg c23] at H
    have c23b0 : ((!(t243 == t234) || (!(t244 == t235))) || ((!(t245 == t236) || (!(t246 == t237))))) = false := by simpa using c23
    clear c23
    replace H := qH H
    obtain ⟨t247, A28, H⟩ := H
    try dsimp only at H
    by_cases c29 : t247 = true
    · as_aux_lemma =>
        subst c29
        replace H := qT H
        replace H := qH H
        obtain ⟨t248, A30, H⟩ := H
        try dsimp only at H
        have H' := az H
        clear H
        try go_wp2
        obtain ⟨w31, hw_⟩ : ∃ x, x = ((((w13.setCell ⟨gb238, 0, none⟩ (.int .i64 t234)).setCell ⟨gb238, 1, none⟩ (.int .i64 t235)).setCell ⟨gb238, 2, none⟩ (.int .i64 t236)).setCell ⟨gb238, 3, none⟩ (.int .i64 t237)) := ⟨_, rfl⟩
        replace BK232 : Aside0 (w31.heap[gb232]? = some (.cells #[.int .i64 t224, .int .i64 t225, .int .i64 t226, .int .i64 t227] 26 (0, 0))) := ⟨by rw [hw_]; exact qF BK232⟩
        replace BK233 : Aside0 (w31.heap[gb233]? = some (.cells #[.int .i64 t228, .int .i64 t229, .int .i64 t230, .int .i64 t231] 26 (0, 0))) := ⟨by rw [hw_]; exact qF BK233⟩
        replace BK238 : Aside0 (w31.heap[gb238]? = some (.cells #[.int .i64 t234, .int .i64 t235, .int .i64 t236, .int .i64 t237] 26 (0, 0))) := ⟨by rw [hw_]; exact qP BK238⟩
        replace HB : Aside0 (Below w.heap.size w w31) := ⟨by rw [hw_]; exact qL HB⟩
        rw [← hw_]
        clear hw_
        replace BK232 := az (blk_drew BK232.out)
        replace BK233 := az (blk_drew BK233.out)
        replace BK238 := az (blk_drew BK238.out)
        replace HB := az (below_drew1 HB.out)
        refine start_ (n := 22) (S := fun w' => w'.cell? ⟨gb238, 0, none⟩ = some (.int .i64 t234) ∧ w'.cell? ⟨gb238, 1, none⟩ = some (.int .i64 t235) ∧ w'.cell? ⟨gb238, 2, none⟩ = some (.int .i64 t236) ∧ w'.cell? ⟨gb238, 3, none⟩ = some (.int .i64 t237) ∧ w'.cell? ⟨gb232, 0, none⟩ = some (.int .i64 t224) ∧ w'.cell? ⟨gb232, 1, none⟩ = some (.int .i64 t225) ∧ w'.cell? ⟨gb232, 2, none⟩ = some (.int .i64 t226) ∧ w'.cell? ⟨gb232, 3, none⟩ = some (.int .i64 t227) ∧ w'.cell? ⟨gb233, 0, none⟩ = some (.int .i64 t228) ∧ w'.cell? ⟨gb233, 1, none⟩ = some (.int .i64 t229) ∧ w'.cell? ⟨gb233, 2, none⟩ = some (.int .i64 t230) ∧ w'.cell? ⟨gb233, 3, none⟩ = some (.int .i64 t231)) (ds := []) #[false, false, false, false, false, false, false, false, false, false, false, false, false, false, false, false, false, false, false, false, false, false] (by kernel_rfl) rfl rfl ⟨bc BK238 0, bc BK238 1, bc BK238 2, bc BK238 3, bc BK232 0, bc BK232 1, bc BK232 2, bc BK232 3, bc BK233 0, bc BK233 1, bc BK233 2, bc BK233 3⟩ (fun hHeld => ?_); refine with_tabW laws_FnBoxBoth.tab5 laws_FnBoxBoth.bits5 (fun HT_ HW_ => ?_)
        generalize w31.drew = w32 at BK232 BK233 BK238 HB hHeld ⊢
        refine tk12 0 (some 18) (fl 22 1) HT_ HW_ hHeld ?_
        refine tk12 1 (some 19) (fl 22 3) HT_ HW_ hHeld ?_
        refine tk12 2 (some 20) (fl 22 7) HT_ HW_ hHeld ?_
        refine on 3 (some 21) (fl 22 15) HT_ (fun K hK => ?_)
        refine go1 Try.func14 #[.agg #[.int .i64 t224, .int .i64 t225, .int .i64 t226, .int .i64 t227], .agg #[.int .i64 t228, .int .i64 t229, .int .i64 t230, .int .i64 t231]] ?_
        with_reducible refine (spec_BoxBoth.calls k t224 t225 t226 t227 t228 t229 t230 t231 t239 t240 t241 t242 _ A17.out).mono ?_
        rintro e w33 ⟨rfl, hb⟩
        refine ⟨_, rfl, ?_⟩
        replace BK232 := kBB BK232 hb
        replace BK233 := kBB BK233 hb
        replace BK238 := kBB BK238 hb
        replace HB := bS HB hb
        clear hb
        refine hK.out _ _ ⟨bc BK238 0, bc BK238 1, bc BK238 2, bc BK238 3, bc BK232 0, bc BK232 1, bc BK232 2, bc BK232 3, bc BK233 0, bc BK233 1, bc BK233 2, bc BK233 3⟩ (fun hHeld => ?_)
        clear hK K
        refine nm (some 21) ?_
        refine pu 4 (some 22) (fl 22 31) HT_ ?_
        refine pu 5 (some 23) (fl 22 63) HT_ ?_
        refine tk12 6 (some 24) (fl 22 127) HT_ HW_ hHeld ?_
        refine tk12 7 (some 25) (fl 22 255) HT_ HW_ hHeld ?_
        refine tk12 9 (some 27) (fl 22 767) HT_ HW_ hHeld ?_
        refine on 8 (some 26) (fl 22 1023) HT_ (fun K hK => ?_)
        refine go1 Try.func13 #[.agg #[.int .i64 t228, .int .i64 t229, .int .i64 t230, .int .i64 t231], .agg #[.int .i64 t224, .int .i64 t225, .int .i64 t226, .int .i64 t227]] ?_
        with_reducible refine (impl_BoxBoth.calls t228 t229 t230 t231 t224 t225 t226 t227 t243 t244 t245 t246 _ A22.out).mono ?_
        rintro e w34 ⟨rfl, hb⟩
        refine ⟨_, rfl, ?_⟩
        replace BK232 := kBB BK232 hb
        replace BK233 := kBB BK233 hb
        replace BK238 := kBB BK238 hb
        replace HB := bS HB hb
        clear hb
        refine hK.out _ _ ⟨bc BK238 0, bc BK238 1, bc BK238 2, bc BK238 3, bc BK232 0, bc BK232 1, bc BK232 2, bc BK232 3, bc BK233 0, bc BK233 1, bc BK233 2, bc BK233 3⟩ (fun hHeld => ?_)
        clear hK K
        refine nm (some 26) ?_
        refine pu 10 (some 28) (fl 22 2047) HT_ ?_
        refine pu 11 (some 29) (fl 22 4095) HT_ ?_
        refine pu 12 (some 30) (fl 22 8191) HT_ ?_
        refine tk12 13 (some 31) (fl 22 16383) HT_ HW_ hHeld ?_
        refine on 14 (some 32) (fl 22 32767) HT_ (fun K hK => ?_)
        refine go1 Try.func15 #[.agg #[.int .i64 t224, .int .i64 t225, .int .i64 t226, .int .i64 t227]] ?_
        with_reducible refine (spec_BoxOk.calls t224 t225 t226 t227 true _ A28.out).mono ?_
        rintro e w35 ⟨rfl, hb⟩
        refine ⟨_, rfl, ?_⟩
        replace BK232 := kBB BK232 hb
        replace BK233 := kBB BK233 hb
        replace BK238 := kBB BK238 hb
        replace HB := bS HB hb
        clear hb
        refine hK.out _ _ ⟨bc BK238 0, bc BK238 1, bc BK238 2, bc BK238 3, bc BK232 0, bc BK232 1, bc BK232 2, bc BK232 3, bc BK233 0, bc BK233 1, bc BK233 2, bc BK233 3⟩ (fun hHeld => ?_)
        clear hK K
        refine nm (some 32) ?_
        refine pu 15 (some 33) (fl 22 65535) HT_ ?_
        refine pu 16 (some 34) (fl 22 131071) HT_ ?_
        refine pu 17 (some 35) (fl 22 262143) HT_ ?_
        refine tk12 18 (some 36) (fl 22 524287) HT_ HW_ hHeld ?_
        refine on 19 (some 37) (fl 22 1048575) HT_ (fun K hK => ?_)
        refine go1 Try.func15 #[.agg #[.int .i64 t228, .int .i64 t229, .int .i64 t230, .int .i64 t231]] ?_
        with_reducible refine (spec_BoxOk.calls t228 t229 t230 t231 t248 _ A30.out).mono ?_
        rintro e w36 ⟨rfl, hb⟩
        refine ⟨_, rfl, ?_⟩
        replace BK232 := kBB BK232 hb
        replace BK233 := kBB BK233 hb
        replace BK238 := kBB BK238 hb
        replace HB := bS HB hb
        clear hb
        refine hK.out _ _ ⟨bc BK238 0, bc BK238 1, bc BK238 2, bc BK238 3, bc BK232 0, bc BK232 1, bc BK232 2, bc BK232 3, bc BK233 0, bc BK233 1, bc BK233 2, bc BK233 3⟩ (fun hHeld => ?_)
        clear hK K
        refine nm (some 37) ?_
        refine pu 20 (some 38) (fl 22 2097151) HT_ ?_
        refine pu 21 (some 39) (fl 22 4194303) HT_ ?_
        refine done_ (done_of HT_.out (by kernel_rfl)) ?_
        try go_wp2
        go_meet
        case rel => exact ⟨_, (!t248), (by first | rfl | (simp; done) | (simp [*]; done)), H', ⟨by first | omega | exact Nat.le_refl _⟩, ⟨qF BK232⟩, ⟨qF BK233⟩, ⟨qF BK238⟩, ⟨qL HB⟩⟩
    replace c29 := Bool.eq_false_iff.mpr c29
    subst c29
    replace H := qU H
    have H' := az H
    clear H
    try go_wp2
    obtain ⟨w37, hw_⟩ : ∃ x, x = ((((w13.setCell ⟨gb238, 0, none⟩ (.int .i64 t234)).setCell ⟨gb238, 1, none⟩ (.int .i64 t235)).setCell ⟨gb238, 2, none⟩ (.int .i64 t236)).setCell ⟨gb238, 3, none⟩ (.int .i64 t237)) := ⟨_, rfl⟩
    replace BK232 : Aside0 (w37.heap[gb232]? = some (.cells #[.int .i64 t224, .int .i64 t225, .int .i64 t226, .int .i64 t227] 26 (0, 0))) := ⟨by rw [hw_]; exact qF BK232⟩
    replace BK233 : Aside0 (w37.heap[gb233]? = some (.cells #[.int .i64 t228, .int .i64 t229, .int .i64 t230, .int .i64 t231] 26 (0, 0))) := ⟨by rw [hw_]; exact qF BK233⟩
    replace BK238 : Aside0 (w37.heap[gb238]? = some (.cells #[.int .i64 t234, .int .i64 t235, .int .i64 t236, .int .i64 t237] 26 (0, 0))) := ⟨by rw [hw_]; exact qP BK238⟩
    replace HB : Aside0 (Below w.heap.size w w37) := ⟨by rw [hw_]; exact qL HB⟩
    rw [← hw_]
    clear hw_
    replace BK232 := az (blk_drew BK232.out)
    replace BK233 := az (blk_drew BK233.out)
    replace BK238 := az (blk_drew BK238.out)
    replace HB := az (below_drew1 HB.out)
    refine start_ (n := 22) (S := fun w' => w'.cell? ⟨gb238, 0, none⟩ = some (.int .i64 t234) ∧ w'.cell? ⟨gb238, 1, none⟩ = some (.int .i64 t235) ∧ w'.cell? ⟨gb238, 2, none⟩ = some (.int .i64 t236) ∧ w'.cell? ⟨gb238, 3, none⟩ = some (.int .i64 t237) ∧ w'.cell? ⟨gb232, 0, none⟩ = some (.int .i64 t224) ∧ w'.cell? ⟨gb232, 1, none⟩ = some (.int .i64 t225) ∧ w'.cell? ⟨gb232, 2, none⟩ = some (.int .i64 t226) ∧ w'.cell? ⟨gb232, 3, none⟩ = some (.int .i64 t227) ∧ w'.cell? ⟨gb233, 0, none⟩ = some (.int .i64 t228) ∧ w'.cell? ⟨gb233, 1, none⟩ = some (.int .i64 t229) ∧ w'.cell? ⟨gb233, 2, none⟩ = some (.int .i64 t230) ∧ w'.cell? ⟨gb233, 3, none⟩ = some (.int .i64 t231)) (ds := []) #[false, false, false, false, false, false, false, false, false, false, false, false, false, false, false, false, false, false, false, false, false, false] (by kernel_rfl) rfl rfl ⟨bc BK238 0, bc BK238 1, bc BK238 2, bc BK238 3, bc BK232 0, bc BK232 1, bc BK232 2, bc BK232 3, bc BK233 0, bc BK233 1, bc BK233 2, bc BK233 3⟩ (fun hHeld => ?_); refine with_tabW laws_FnBoxBoth.tab5 laws_FnBoxBoth.bits5 (fun HT_ HW_ => ?_)
    generalize w37.drew = w38 at BK232 BK233 BK238 HB hHeld ⊢
    refine tk12 0 (some 18) (fl 22 1) HT_ HW_ hHeld ?_
    refine tk12 1 (some 19) (fl 22 3) HT_ HW_ hHeld ?_
    refine tk12 2 (some 20) (fl 22 7) HT_ HW_ hHeld ?_
    refine on 3 (some 21) (fl 22 15) HT_ (fun K hK => ?_)
    refine go1 Try.func14 #[.agg #[.int .i64 t224, .int .i64 t225, .int .i64 t226, .int .i64 t227], .agg #[.int .i64 t228, .int .i64 t229, .int .i64 t230, .int .i64 t231]] ?_
    with_reducible refine (spec_BoxBoth.calls k t224 t225 t226 t227 t228 t229 t230 t231 t239 t240 t241 t242 _ A17.out).mono ?_
    rintro e w39 ⟨rfl, hb⟩
    refine ⟨_, rfl, ?_⟩
    replace BK232 := kBB BK232 hb
    replace BK233 := kBB BK233 hb
    replace BK238 := kBB BK238 hb
    replace HB := bS HB hb
    clear hb
    refine hK.out _ _ ⟨bc BK238 0, bc BK238 1, bc BK238 2, bc BK238 3, bc BK232 0, bc BK232 1, bc BK232 2, bc BK232 3, bc BK233 0, bc BK233 1, bc BK233 2, bc BK233 3⟩ (fun hHeld => ?_)
    clear hK K
    refine nm (some 21) ?_
    refine pu 4 (some 22) (fl 22 31) HT_ ?_
    refine pu 5 (some 23) (fl 22 63) HT_ ?_
    refine tk12 6 (some 24) (fl 22 127) HT_ HW_ hHeld ?_
    refine tk12 7 (some 25) (fl 22 255) HT_ HW_ hHeld ?_
    refine tk12 9 (some 27) (fl 22 767) HT_ HW_ hHeld ?_
    refine on 8 (some 26) (fl 22 1023) HT_ (fun K hK => ?_)
    refine go1 Try.func13 #[.agg #[.int .i64 t228, .int .i64 t229, .int .i64 t230, .int .i64 t231], .agg #[.int .i64 t224, .int .i64 t225, .int .i64 t226, .int .i64 t227]] ?_
    with_reducible refine (impl_BoxBoth.calls t228 t229 t230 t231 t224 t225 t226 t227 t243 t244 t245 t246 _ A22.out).mono ?_
    rintro e w40 ⟨rfl, hb⟩
    refine ⟨_, rfl, ?_⟩
    replace BK232 := kBB BK232 hb
    replace BK233 := kBB BK233 hb
    replace BK238 := kBB BK238 hb
    replace HB := bS HB hb
    clear hb
    refine hK.out _ _ ⟨bc BK238 0, bc BK238 1, bc BK238 2, bc BK238 3, bc BK232 0, bc BK232 1, bc BK232 2, bc BK232 3, bc BK233 0, bc BK233 1, bc BK233 2, bc BK233 3⟩ (fun hHeld => ?_)
    clear hK K
    refine nm (some 26) ?_
    refine pu 10 (some 28) (fl 22 2047) HT_ ?_
    refine pu 11 (some 29) (fl 22 4095) HT_ ?_
    refine pu 12 (some 30) (fl 22 8191) HT_ ?_
    refine tk12 13 (some 31) (fl 22 16383) HT_ HW_ hHeld ?_
    refine on 14 (some 32) (fl 22 32767) HT_ (fun K hK => ?_)
    refine go1 Try.func15 #[.agg #[.int .i64 t224, .int .i64 t225, .int .i64 t226, .int .i64 t227]] ?_
    with_reducible refine (spec_BoxOk.calls t224 t225 t226 t227 false _ A28.out).mono ?_
    rintro e w41 ⟨rfl, hb⟩
    refine ⟨_, rfl, ?_⟩
    replace BK232 := kBB BK232 hb
    replace BK233 := kBB BK233 hb
    replace BK238 := kBB BK238 hb
    replace HB := bS HB hb
    clear hb
    refine hK.out _ _ ⟨bc BK238 0, bc BK238 1, bc BK238 2, bc BK238 3, bc BK232 0, bc BK232 1, bc BK232 2, bc BK232 3, bc BK233 0, bc BK233 1, bc BK233 2, bc BK233 3⟩ (fun hHeld => ?_)
    clear hK K
    refine nm (some 32) ?_
    refine pu 15 (some 33) (fl 22 65535) HT_ ?_
    refine pu 16 (some 34) (fl 22 131071) HT_ ?_
    refine pu 17 (some 35) (fl 22 262143) HT_ ?_
    refine pv 18 (some 36) (fl 22 524287) HT_ ?_
    refine pv 19 (some 37) (fl 22 1048575) HT_ ?_
    refine pv 20 (some 38) (fl 22 2097151) HT_ ?_
    refine pu 21 (some 39) (fl 22 4194303) HT_ ?_
    refine done_ (done_of HT_.out (by kernel_rfl)) ?_
    try go_wp2
    go_meet
    case rel => exact ⟨_, (true), (by first | rfl | (simp; done) | (simp [*]; done)), H', ⟨by first | omega | exact Nat.le_refl _⟩, ⟨qF BK232⟩, ⟨qF BK233⟩, ⟨qF BK238⟩, ⟨qL HB⟩⟩
  case rest =>
    clear HC5
    (try clear c2)
    obtain ⟨kq, x39_4, rfl, HA, HJ4, BK232, BK233, BK238, HB⟩ := hcut
    cases kq with
    | zero => exact absurd HA.out (by simp [laws_FnBoxBoth.j0])
    | succ kj4 => ?_
    have H := HA.out
    clear HA
    simp only [laws_FnBoxBoth.j0] at H
    by_cases c42 : x39_4 = true
    · as_aux_lemma =>
        subst c42
        replace H := qT H
        replace H := qH H
        obtain ⟨⟨t249, t250, t251, t252⟩, A43, H⟩ := H
        try dsimp only at H
        by_cases c44 : ((t234 == t249 && (t235 == t250)) && ((t236 == t251 && (t237 == t252)))) = true
        · as_aux_lemma =>
            rw [if_pos c44] at H
            have c44b0 : ((t234 == t249 && (t235 == t250)) && ((t236 == t251 && (t237 == t252)))) = true := c44
            clear c44
            replace H := qH H
            obtain ⟨⟨t253, t254, t255, t256⟩, A45, H⟩ := H
            try dsimp only at H
            obtain rfl := Option.some.inj H
            try go_wp2
            replace BK232 := az (blk_drew BK232.out)
            replace BK233 := az (blk_drew BK233.out)
            replace BK238 := az (blk_drew BK238.out)
            replace HB := az (below_drew1 HB.out)
            refine start_ (n := 13) (S := fun w' => w'.cell? ⟨gb238, 0, none⟩ = some (.int .i64 t234) ∧ w'.cell? ⟨gb238, 1, none⟩ = some (.int .i64 t235) ∧ w'.cell? ⟨gb238, 2, none⟩ = some (.int .i64 t236) ∧ w'.cell? ⟨gb238, 3, none⟩ = some (.int .i64 t237) ∧ w'.cell? ⟨gb232, 0, none⟩ = some (.int .i64 t224) ∧ w'.cell? ⟨gb232, 1, none⟩ = some (.int .i64 t225) ∧ w'.cell? ⟨gb232, 2, none⟩ = some (.int .i64 t226) ∧ w'.cell? ⟨gb232, 3, none⟩ = some (.int .i64 t227) ∧ w'.cell? ⟨gb233, 0, none⟩ = some (.int .i64 t228) ∧ w'.cell? ⟨gb233, 1, none⟩ = some (.int .i64 t229) ∧ w'.cell? ⟨gb233, 2, none⟩ = some (.int .i64 t230) ∧ w'.cell? ⟨gb233, 3, none⟩ = some (.int .i64 t231)) (ds := []) #[false, false, false, false, false, false, false, false, false, false, false, false, false] (by kernel_rfl) rfl rfl ⟨bc BK238 0, bc BK238 1, bc BK238 2, bc BK238 3, bc BK232 0, bc BK232 1, bc BK232 2, bc BK232 3, bc BK233 0, bc BK233 1, bc BK233 2, bc BK233 3⟩ (fun hHeld => ?_); refine with_tabW laws_FnBoxBoth.tab6 laws_FnBoxBoth.bits6 (fun HT_ HW_ => ?_)
            generalize wc.drew = w46 at BK232 BK233 BK238 HB hHeld ⊢
            refine tk12 0 (some 40) (fl 13 1) HT_ HW_ hHeld ?_
            refine tk12 1 (some 41) (fl 13 3) HT_ HW_ hHeld ?_
            refine tk12 2 (some 42) (fl 13 7) HT_ HW_ hHeld ?_
            refine on 3 (some 43) (fl 13 15) HT_ (fun K hK => ?_)
            refine go1 Try.func14 #[.agg #[.int .i64 t224, .int .i64 t225, .int .i64 t226, .int .i64 t227], .agg #[.int .i64 t228, .int .i64 t229, .int .i64 t230, .int .i64 t231]] ?_
            with_reducible refine (spec_BoxBoth.calls kj4 t224 t225 t226 t227 t228 t229 t230 t231 t249 t250 t251 t252 _ A43.out).mono ?_
            rintro e w47 ⟨rfl, hb⟩
            refine ⟨_, rfl, ?_⟩
            replace BK232 := kBB BK232 hb
            replace BK233 := kBB BK233 hb
            replace BK238 := kBB BK238 hb
            replace HB := bS HB hb
            clear hb
            refine hK.out _ _ ⟨bc BK238 0, bc BK238 1, bc BK238 2, bc BK238 3, bc BK232 0, bc BK232 1, bc BK232 2, bc BK232 3, bc BK233 0, bc BK233 1, bc BK233 2, bc BK233 3⟩ (fun hHeld => ?_)
            clear hK K
            refine nm (some 43) ?_
            refine pu 4 (some 44) (fl 13 31) HT_ ?_
            refine pu 5 (some 45) (fl 13 63) HT_ ?_
            refine tk12 6 (some 46) (fl 13 127) HT_ HW_ hHeld ?_
            refine tk12 7 (some 47) (fl 13 255) HT_ HW_ hHeld ?_
            refine tk12 9 (some 49) (fl 13 767) HT_ HW_ hHeld ?_
            refine on 8 (some 48) (fl 13 1023) HT_ (fun K hK => ?_)
            refine go1 Try.func13 #[.agg #[.int .i64 t228, .int .i64 t229, .int .i64 t230, .int .i64 t231], .agg #[.int .i64 t224, .int .i64 t225, .int .i64 t226, .int .i64 t227]] ?_
            with_reducible refine (impl_BoxBoth.calls t228 t229 t230 t231 t224 t225 t226 t227 t253 t254 t255 t256 _ A45.out).mono ?_
            rintro e w48 ⟨rfl, hb⟩
            refine ⟨_, rfl, ?_⟩
            replace BK232 := kBB BK232 hb
            replace BK233 := kBB BK233 hb
            replace BK238 := kBB BK238 hb
            replace HB := bS HB hb
            clear hb
            refine hK.out _ _ ⟨bc BK238 0, bc BK238 1, bc BK238 2, bc BK238 3, bc BK232 0, bc BK232 1, bc BK232 2, bc BK232 3, bc BK233 0, bc BK233 1, bc BK233 2, bc BK233 3⟩ (fun hHeld => ?_)
            clear hK K
            refine nm (some 48) ?_
            refine pu 10 (some 50) (fl 13 2047) HT_ ?_
            refine pu 11 (some 51) (fl 13 4095) HT_ ?_
            refine pu 12 (some 2) (fl 13 8191) HT_ ?_
            refine done_ (done_of HT_.out (by kernel_rfl)) ?_
            try go_wp2
            go_ret
            exact ⟨qE, qL HB⟩
        rw [if_neg c44] at H
        have c44b0 : ((t234 == t249 && (t235 == t250)) && ((t236 == t251 && (t237 == t252)))) = false := by simpa using c44
        clear c44
        obtain rfl := Option.some.inj H
        try go_wp2
        replace BK232 := az (blk_drew BK232.out)
        replace BK233 := az (blk_drew BK233.out)
        replace BK238 := az (blk_drew BK238.out)
        replace HB := az (below_drew1 HB.out)
        refine start_ (n := 13) (S := fun w' => w'.cell? ⟨gb238, 0, none⟩ = some (.int .i64 t234) ∧ w'.cell? ⟨gb238, 1, none⟩ = some (.int .i64 t235) ∧ w'.cell? ⟨gb238, 2, none⟩ = some (.int .i64 t236) ∧ w'.cell? ⟨gb238, 3, none⟩ = some (.int .i64 t237) ∧ w'.cell? ⟨gb232, 0, none⟩ = some (.int .i64 t224) ∧ w'.cell? ⟨gb232, 1, none⟩ = some (.int .i64 t225) ∧ w'.cell? ⟨gb232, 2, none⟩ = some (.int .i64 t226) ∧ w'.cell? ⟨gb232, 3, none⟩ = some (.int .i64 t227) ∧ w'.cell? ⟨gb233, 0, none⟩ = some (.int .i64 t228) ∧ w'.cell? ⟨gb233, 1, none⟩ = some (.int .i64 t229) ∧ w'.cell? ⟨gb233, 2, none⟩ = some (.int .i64 t230) ∧ w'.cell? ⟨gb233, 3, none⟩ = some (.int .i64 t231)) (ds := []) #[false, false, false, false, false, false, false, false, false, false, false, false, false] (by kernel_rfl) rfl rfl ⟨bc BK238 0, bc BK238 1, bc BK238 2, bc BK238 3, bc BK232 0, bc BK232 1, bc BK232 2, bc BK232 3, bc BK233 0, bc BK233 1, bc BK233 2, bc BK233 3⟩ (fun hHeld => ?_); refine with_tabW laws_FnBoxBoth.tab6 laws_FnBoxBoth.bits6 (fun HT_ HW_ => ?_)
        generalize wc.drew = w49 at BK232 BK233 BK238 HB hHeld ⊢
        refine tk12 0 (some 40) (fl 13 1) HT_ HW_ hHeld ?_
        refine tk12 1 (some 41) (fl 13 3) HT_ HW_ hHeld ?_
        refine tk12 2 (some 42) (fl 13 7) HT_ HW_ hHeld ?_
        refine on 3 (some 43) (fl 13 15) HT_ (fun K hK => ?_)
        refine go1 Try.func14 #[.agg #[.int .i64 t224, .int .i64 t225, .int .i64 t226, .int .i64 t227], .agg #[.int .i64 t228, .int .i64 t229, .int .i64 t230, .int .i64 t231]] ?_
        with_reducible refine (spec_BoxBoth.calls kj4 t224 t225 t226 t227 t228 t229 t230 t231 t249 t250 t251 t252 _ A43.out).mono ?_
        rintro e w50 ⟨rfl, hb⟩
        refine ⟨_, rfl, ?_⟩
        replace BK232 := kBB BK232 hb
        replace BK233 := kBB BK233 hb
        replace BK238 := kBB BK238 hb
        replace HB := bS HB hb
        clear hb
        refine hK.out _ _ ⟨bc BK238 0, bc BK238 1, bc BK238 2, bc BK238 3, bc BK232 0, bc BK232 1, bc BK232 2, bc BK232 3, bc BK233 0, bc BK233 1, bc BK233 2, bc BK233 3⟩ (fun hHeld => ?_)
        clear hK K
        refine nm (some 43) ?_
        refine pu 4 (some 44) (fl 13 31) HT_ ?_
        refine pu 5 (some 45) (fl 13 63) HT_ ?_
        refine pv 6 (some 46) (fl 13 127) HT_ ?_
        refine pv 7 (some 47) (fl 13 255) HT_ ?_
        refine pv 8 (some 48) (fl 13 511) HT_ ?_
        refine pv 9 (some 49) (fl 13 1023) HT_ ?_
        refine pv 10 (some 50) (fl 13 2047) HT_ ?_
        refine pu 11 (some 51) (fl 13 4095) HT_ ?_
        refine pu 12 (some 2) (fl 13 8191) HT_ ?_
        refine done_ (done_of HT_.out (by kernel_rfl)) ?_
        try go_wp2
        go_ret
        exact ⟨qE, qL HB⟩
    replace c42 := Bool.eq_false_iff.mpr c42
    subst c42
    replace H := qU H
    have HC51 := az H
    clear H
    go_upto_region 7 with (fail)
    simp only [List.append_eq, List.cons_append, List.nil_append]
    go_cut [6] (fun v6 wc => ∃ (kq : Nat) (x6_50 : Bool), v6 = .bool x6_50 ∧ Aside0 (laws_FnBoxBoth.j1 kq x6_50 t224 t225 t226 t227 t228 t229 t230 t231 t234 t235 t236 t237 = some r) ∧ Aside0 (kq ≤ kj4) ∧ Aside0 (wc.heap[gb232]? = some (.cells #[.int .i64 t224, .int .i64 t225, .int .i64 t226, .int .i64 t227] 26 (0, 0))) ∧ Aside0 (wc.heap[gb233]? = some (.cells #[.int .i64 t228, .int .i64 t229, .int .i64 t230, .int .i64 t231] 26 (0, 0))) ∧ Aside0 (wc.heap[gb238]? = some (.cells #[.int .i64 t234, .int .i64 t235, .int .i64 t236, .int .i64 t237] 26 (0, 0))) ∧ Aside0 (Below w.heap.size w wc))
    case first =>
      have H := HC51.out
      clear HC51
      by_cases c52 : t234 = t224
      · as_aux_lemma =>
          rw [if_pos c52] at H
          subst c52
          have c52b0 : (t234 == t234) = true := by simp
          have c52b1 : (t234 != t234) = false := by simp
          (first | rw [c52b0] | (simp only [i64_w, i32_w]; rw [c52b0]) | skip)
          by_cases c53 : t235 = t225
          · as_aux_lemma =>
              rw [if_pos c53] at H
              subst c53
              have c53b0 : (t235 == t235) = true := by simp
              have c53b1 : (t235 != t235) = false := by simp
              by_cases c54 : t236 = t226
              · as_aux_lemma =>
                  rw [if_pos c54] at H
                  subst c54
                  have c54b0 : (t236 == t236) = true := by simp
                  have c54b1 : (t236 != t236) = false := by simp
                  by_cases c55 : t237 = t227
                  · as_aux_lemma =>
                      rw [if_pos c55] at H
                      subst c55
                      have c55b0 : (t237 == t237) = true := by simp
                      have c55b1 : (t237 != t237) = false := by simp
                      have H' := az H
                      clear H
                      have hnb56 := NB238_232.out
                      have hnc56 := NB232_238.out
                      have hnb57 := NB238_233.out
                      have hnc57 := NB233_238.out
                      obtain ⟨hcz58_0, hcz58_1, hcz58_2, hcz58_3⟩ := cz4 BK238.out
                      obtain ⟨hfz58_0, hfz58_1, hfz58_2, hfz58_3⟩ := fz4 BK238.out
                      have hnb59 := NB232_233.out
                      have hnc59 := NB233_232.out
                      obtain ⟨hcz60_0, hcz60_1, hcz60_2, hcz60_3⟩ := cz4 BK232.out
                      obtain ⟨hfz60_0, hfz60_1, hfz60_2, hfz60_3⟩ := fz4 BK232.out
                      go_wp2
                      go_meet
                      case rel => exact ⟨_, (true), (by first | rfl | (simp; done) | (simp [*]; done)), H', ⟨by have := HJ4.out; first | omega | exact Nat.le_refl _⟩, ⟨qF BK232⟩, ⟨qF BK233⟩, ⟨qF BK238⟩, ⟨qL HB⟩⟩
                  rw [if_neg c55] at H
                  have c55b0 : (t237 == t227) = false := beq_eq_false_iff_ne.mpr c55
                  have c55b1 : (t237 != t227) = true := bne_iff_ne.mpr c55
                  have H' := az H
                  clear H
                  have hnb61 := NB238_232.out
                  have hnc61 := NB232_238.out
                  have hnb62 := NB238_233.out
                  have hnc62 := NB233_238.out
                  obtain ⟨hcz63_0, hcz63_1, hcz63_2, hcz63_3⟩ := cz4 BK238.out
                  obtain ⟨hfz63_0, hfz63_1, hfz63_2, hfz63_3⟩ := fz4 BK238.out
                  have hnb64 := NB232_233.out
                  have hnc64 := NB233_232.out
                  obtain ⟨hcz65_0, hcz65_1, hcz65_2, hcz65_3⟩ := cz4 BK232.out
                  obtain ⟨hfz65_0, hfz65_1, hfz65_2, hfz65_3⟩ := fz4 BK232.out
                  obtain ⟨hcz66_0, hcz66_1, hcz66_2, hcz66_3⟩ := cz4 BK233.out
                  obtain ⟨hfz66_0, hfz66_1, hfz66_2, hfz66_3⟩ := fz4 BK233.out
                  go_wp2
                  go_meet
                  case rel => exact ⟨_, ((t237 == t231)), (by first | rfl | (simp; done) | (simp [*]; done)), H', ⟨by have := HJ4.out; first | omega | exact Nat.le_refl _⟩, ⟨qF BK232⟩, ⟨qF BK233⟩, ⟨qF BK238⟩, ⟨qL HB⟩⟩
              rw [if_neg c54] at H
              have c54b0 : (t236 == t226) = false := beq_eq_false_iff_ne.mpr c54
              have c54b1 : (t236 != t226) = true := bne_iff_ne.mpr c54
              by_cases c67 : t236 = t230
              · as_aux_lemma =>
                  rw [if_pos c67] at H
                  subst c67
                  have c67b0 : (t236 == t236) = true := by simp
                  have c67b1 : (t236 != t236) = false := by simp
                  by_cases c68 : t237 = t227
                  · as_aux_lemma =>
                      rw [if_pos c68] at H
                      subst c68
                      have c68b0 : (t237 == t237) = true := by simp
                      have c68b1 : (t237 != t237) = false := by simp
                      have H' := az H
                      clear H
                      have hnb69 := NB238_232.out
                      have hnc69 := NB232_238.out
                      have hnb70 := NB238_233.out
                      have hnc70 := NB233_238.out
                      obtain ⟨hcz71_0, hcz71_1, hcz71_2, hcz71_3⟩ := cz4 BK238.out
                      obtain ⟨hfz71_0, hfz71_1, hfz71_2, hfz71_3⟩ := fz4 BK238.out
                      have hnb72 := NB232_233.out
                      have hnc72 := NB233_232.out
                      obtain ⟨hcz73_0, hcz73_1, hcz73_2, hcz73_3⟩ := cz4 BK232.out
                      obtain ⟨hfz73_0, hfz73_1, hfz73_2, hfz73_3⟩ := fz4 BK232.out
                      obtain ⟨hcz74_0, hcz74_1, hcz74_2, hcz74_3⟩ := cz4 BK233.out
                      obtain ⟨hfz74_0, hfz74_1, hfz74_2, hfz74_3⟩ := fz4 BK233.out
                      go_wp2
                      go_meet
                      case rel => exact ⟨_, (true), (by first | rfl | (simp; done) | (simp [*]; done)), H', ⟨by have := HJ4.out; first | omega | exact Nat.le_refl _⟩, ⟨qF BK232⟩, ⟨qF BK233⟩, ⟨qF BK238⟩, ⟨qL HB⟩⟩
                  rw [if_neg c68] at H
                  have c68b0 : (t237 == t227) = false := beq_eq_false_iff_ne.mpr c68
                  have c68b1 : (t237 != t227) = true := bne_iff_ne.mpr c68
                  have H' := az H
                  clear H
                  have hnb75 := NB238_232.out
                  have hnc75 := NB232_238.out
                  have hnb76 := NB238_233.out
                  have hnc76 := NB233_238.out
                  obtain ⟨hcz77_0, hcz77_1, hcz77_2, hcz77_3⟩ := cz4 BK238.out
                  obtain ⟨hfz77_0, hfz77_1, hfz77_2, hfz77_3⟩ := fz4 BK238.out
                  have hnb78 := NB232_233.out
                  have hnc78 := NB233_232.out
                  obtain ⟨hcz79_0, hcz79_1, hcz79_2, hcz79_3⟩ := cz4 BK232.out
                  obtain ⟨hfz79_0, hfz79_1, hfz79_2, hfz79_3⟩ := fz4 BK232.out
                  obtain ⟨hcz80_0, hcz80_1, hcz80_2, hcz80_3⟩ := cz4 BK233.out
                  obtain ⟨hfz80_0, hfz80_1, hfz80_2, hfz80_3⟩ := fz4 BK233.out
                  go_wp2
                  go_meet
                  case rel => exact ⟨_, ((t237 == t231)), (by first | rfl | (simp; done) | (simp [*]; done)), H', ⟨by have := HJ4.out; first | omega | exact Nat.le_refl _⟩, ⟨qF BK232⟩, ⟨qF BK233⟩, ⟨qF BK238⟩, ⟨qL HB⟩⟩
              rw [if_neg c67] at H
              have c67b0 : (t236 == t230) = false := beq_eq_false_iff_ne.mpr c67
              have c67b1 : (t236 != t230) = true := bne_iff_ne.mpr c67
              have H' := az H
              clear H
              have hnb81 := NB238_232.out
              have hnc81 := NB232_238.out
              have hnb82 := NB238_233.out
              have hnc82 := NB233_238.out
              obtain ⟨hcz83_0, hcz83_1, hcz83_2, hcz83_3⟩ := cz4 BK238.out
              obtain ⟨hfz83_0, hfz83_1, hfz83_2, hfz83_3⟩ := fz4 BK238.out
              have hnb84 := NB232_233.out
              have hnc84 := NB233_232.out
              obtain ⟨hcz85_0, hcz85_1, hcz85_2, hcz85_3⟩ := cz4 BK232.out
              obtain ⟨hfz85_0, hfz85_1, hfz85_2, hfz85_3⟩ := fz4 BK232.out
              obtain ⟨hcz86_0, hcz86_1, hcz86_2, hcz86_3⟩ := cz4 BK233.out
              obtain ⟨hfz86_0, hfz86_1, hfz86_2, hfz86_3⟩ := fz4 BK233.out
              go_wp2
              go_meet
              case rel => exact ⟨_, (false), (by first | rfl | (simp; done) | (simp [*]; done)), H', ⟨by have := HJ4.out; first | omega | exact Nat.le_refl _⟩, ⟨qF BK232⟩, ⟨qF BK233⟩, ⟨qF BK238⟩, ⟨qL HB⟩⟩
          rw [if_neg c53] at H
          have c53b0 : (t235 == t225) = false := beq_eq_false_iff_ne.mpr c53
          have c53b1 : (t235 != t225) = true := bne_iff_ne.mpr c53
          by_cases c87 : t235 = t229
          · as_aux_lemma =>
              rw [if_pos c87] at H
              subst c87
              have c87b0 : (t235 == t235) = true := by simp
              have c87b1 : (t235 != t235) = false := by simp
              by_cases c88 : t236 = t226
              · as_aux_lemma =>
                  rw [if_pos c88] at H
                  subst c88
                  have c88b0 : (t236 == t236) = true := by simp
                  have c88b1 : (t236 != t236) = false := by simp
                  by_cases c89 : t237 = t227
                  · as_aux_lemma =>
                      rw [if_pos c89] at H
                      subst c89
                      have c89b0 : (t237 == t237) = true := by simp
                      have c89b1 : (t237 != t237) = false := by simp
                      have H' := az H
                      clear H
                      have hnb90 := NB238_232.out
                      have hnc90 := NB232_238.out
                      have hnb91 := NB238_233.out
                      have hnc91 := NB233_238.out
                      obtain ⟨hcz92_0, hcz92_1, hcz92_2, hcz92_3⟩ := cz4 BK238.out
                      obtain ⟨hfz92_0, hfz92_1, hfz92_2, hfz92_3⟩ := fz4 BK238.out
                      have hnb93 := NB232_233.out
                      have hnc93 := NB233_232.out
                      obtain ⟨hcz94_0, hcz94_1, hcz94_2, hcz94_3⟩ := cz4 BK232.out
                      obtain ⟨hfz94_0, hfz94_1, hfz94_2, hfz94_3⟩ := fz4 BK232.out
                      obtain ⟨hcz95_0, hcz95_1, hcz95_2, hcz95_3⟩ := cz4 BK233.out
                      obtain ⟨hfz95_0, hfz95_1, hfz95_2, hfz95_3⟩ := fz4 BK233.out
                      go_wp2
                      go_meet
                      case rel => exact ⟨_, (true), (by first | rfl | (simp; done) | (simp [*]; done)), H', ⟨by have := HJ4.out; first | omega | exact Nat.le_refl _⟩, ⟨qF BK232⟩, ⟨qF BK233⟩, ⟨qF BK238⟩, ⟨qL HB⟩⟩
                  rw [if_neg c89] at H
                  have c89b0 : (t237 == t227) = false := beq_eq_false_iff_ne.mpr c89
                  have c89b1 : (t237 != t227) = true := bne_iff_ne.mpr c89
                  have H' := az H
                  clear H
                  have hnb96 := NB238_232.out
                  have hnc96 := NB232_238.out
                  have hnb97 := NB238_233.out
                  have hnc97 := NB233_238.out
                  obtain ⟨hcz98_0, hcz98_1, hcz98_2, hcz98_3⟩ := cz4 BK238.out
                  obtain ⟨hfz98_0, hfz98_1, hfz98_2, hfz98_3⟩ := fz4 BK238.out
                  have hnb99 := NB232_233.out
                  have hnc99 := NB233_232.out
                  obtain ⟨hcz100_0, hcz100_1, hcz100_2, hcz100_3⟩ := cz4 BK232.out
                  obtain ⟨hfz100_0, hfz100_1, hfz100_2, hfz100_3⟩ := fz4 BK232.out
                  obtain ⟨hcz101_0, hcz101_1, hcz101_2, hcz101_3⟩ := cz4 BK233.out
                  obtain ⟨hfz101_0, hfz101_1, hfz101_2, hfz101_3⟩ := fz4 BK233.out
                  go_wp2
                  go_meet
                  case rel => exact ⟨_, ((t237 == t231)), (by first | rfl | (simp; done) | (simp [*]; done)), H', ⟨by have := HJ4.out; first | omega | exact Nat.le_refl _⟩, ⟨qF BK232⟩, ⟨qF BK233⟩, ⟨qF BK238⟩, ⟨qL HB⟩⟩
              rw [if_neg c88] at H
              have c88b0 : (t236 == t226) = false := beq_eq_false_iff_ne.mpr c88
              have c88b1 : (t236 != t226) = true := bne_iff_ne.mpr c88
              by_cases c102 : t236 = t230
              · as_aux_lemma =>
                  rw [if_pos c102] at H
                  subst c102
                  have c102b0 : (t236 == t236) = true := by simp
                  have c102b1 : (t236 != t236) = false := by simp
                  by_cases c103 : t237 = t227
                  · as_aux_lemma =>
                      rw [if_pos c103] at H
                      subst c103
                      have c103b0 : (t237 == t237) = true := by simp
                      have c103b1 : (t237 != t237) = false := by simp
                      have H' := az H
                      clear H
                      have hnb104 := NB238_232.out
                      have hnc104 := NB232_238.out
                      have hnb105 := NB238_233.out
                      have hnc105 := NB233_238.out
                      obtain ⟨hcz106_0, hcz106_1, hcz106_2, hcz106_3⟩ := cz4 BK238.out
                      obtain ⟨hfz106_0, hfz106_1, hfz106_2, hfz106_3⟩ := fz4 BK238.out
                      have hnb107 := NB232_233.out
                      have hnc107 := NB233_232.out
                      obtain ⟨hcz108_0, hcz108_1, hcz108_2, hcz108_3⟩ := cz4 BK232.out
                      obtain ⟨hfz108_0, hfz108_1, hfz108_2, hfz108_3⟩ := fz4 BK232.out
                      obtain ⟨hcz109_0, hcz109_1, hcz109_2, hcz109_3⟩ := cz4 BK233.out
                      obtain ⟨hfz109_0, hfz109_1, hfz109_2, hfz109_3⟩ := fz4 BK233.out
                      go_wp2
                      go_meet
                      case rel => exact ⟨_, (true), (by first | rfl | (simp; done) | (simp [*]; done)), H', ⟨by have := HJ4.out; first | omega | exact Nat.le_refl _⟩, ⟨qF BK232⟩, ⟨qF BK233⟩, ⟨qF BK238⟩, ⟨qL HB⟩⟩
                  rw [if_neg c103] at H
                  have c103b0 : (t237 == t227) = false := beq_eq_false_iff_ne.mpr c103
                  have c103b1 : (t237 != t227) = true := bne_iff_ne.mpr c103
                  have H' := az H
                  clear H
                  have hnb110 := NB238_232.out
                  have hnc110 := NB232_238.out
                  have hnb111 := NB238_233.out
                  have hnc111 := NB233_238.out
                  obtain ⟨hcz112_0, hcz112_1, hcz112_2, hcz112_3⟩ := cz4 BK238.out
                  obtain ⟨hfz112_0, hfz112_1, hfz112_2, hfz112_3⟩ := fz4 BK238.out
                  have hnb113 := NB232_233.out
                  have hnc113 := NB233_232.out
                  obtain ⟨hcz114_0, hcz114_1, hcz114_2, hcz114_3⟩ := cz4 BK232.out
                  obtain ⟨hfz114_0, hfz114_1, hfz114_2, hfz114_3⟩ := fz4 BK232.out
                  obtain ⟨hcz115_0, hcz115_1, hcz115_2, hcz115_3⟩ := cz4 BK233.out
                  obtain ⟨hfz115_0, hfz115_1, hfz115_2, hfz115_3⟩ := fz4 BK233.out
                  go_wp2
                  go_meet
                  case rel => exact ⟨_, ((t237 == t231)), (by first | rfl | (simp; done) | (simp [*]; done)), H', ⟨by have := HJ4.out; first | omega | exact Nat.le_refl _⟩, ⟨qF BK232⟩, ⟨qF BK233⟩, ⟨qF BK238⟩, ⟨qL HB⟩⟩
              rw [if_neg c102] at H
              have c102b0 : (t236 == t230) = false := beq_eq_false_iff_ne.mpr c102
              have c102b1 : (t236 != t230) = true := bne_iff_ne.mpr c102
              have H' := az H
              clear H
              have hnb116 := NB238_232.out
              have hnc116 := NB232_238.out
              have hnb117 := NB238_233.out
              have hnc117 := NB233_238.out
              obtain ⟨hcz118_0, hcz118_1, hcz118_2, hcz118_3⟩ := cz4 BK238.out
              obtain ⟨hfz118_0, hfz118_1, hfz118_2, hfz118_3⟩ := fz4 BK238.out
              have hnb119 := NB232_233.out
              have hnc119 := NB233_232.out
              obtain ⟨hcz120_0, hcz120_1, hcz120_2, hcz120_3⟩ := cz4 BK232.out
              obtain ⟨hfz120_0, hfz120_1, hfz120_2, hfz120_3⟩ := fz4 BK232.out
              obtain ⟨hcz121_0, hcz121_1, hcz121_2, hcz121_3⟩ := cz4 BK233.out
              obtain ⟨hfz121_0, hfz121_1, hfz121_2, hfz121_3⟩ := fz4 BK233.out
              go_wp2
              go_meet
              case rel => exact ⟨_, (false), (by first | rfl | (simp; done) | (simp [*]; done)), H', ⟨by have := HJ4.out; first | omega | exact Nat.le_refl _⟩, ⟨qF BK232⟩, ⟨qF BK233⟩, ⟨qF BK238⟩, ⟨qL HB⟩⟩
          rw [if_neg c87] at H
          have c87b0 : (t235 == t229) = false := beq_eq_false_iff_ne.mpr c87
          have c87b1 : (t235 != t229) = true := bne_iff_ne.mpr c87
          have H' := az H
          clear H
          have hnb122 := NB238_232.out
          have hnc122 := NB232_238.out
          have hnb123 := NB238_233.out
          have hnc123 := NB233_238.out
          obtain ⟨hcz124_0, hcz124_1, hcz124_2, hcz124_3⟩ := cz4 BK238.out
          obtain ⟨hfz124_0, hfz124_1, hfz124_2, hfz124_3⟩ := fz4 BK238.out
          have hnb125 := NB232_233.out
          have hnc125 := NB233_232.out
          obtain ⟨hcz126_0, hcz126_1, hcz126_2, hcz126_3⟩ := cz4 BK232.out
          obtain ⟨hfz126_0, hfz126_1, hfz126_2, hfz126_3⟩ := fz4 BK232.out
          obtain ⟨hcz127_0, hcz127_1, hcz127_2, hcz127_3⟩ := cz4 BK233.out
          obtain ⟨hfz127_0, hfz127_1, hfz127_2, hfz127_3⟩ := fz4 BK233.out
          go_wp2
          go_meet
          case rel => exact ⟨_, (false), (by first | rfl | (simp; done) | (simp [*]; done)), H', ⟨by have := HJ4.out; first | omega | exact Nat.le_refl _⟩, ⟨qF BK232⟩, ⟨qF BK233⟩, ⟨qF BK238⟩, ⟨qL HB⟩⟩
      rw [if_neg c52] at H
      have c52b0 : (t234 == t224) = false := beq_eq_false_iff_ne.mpr c52
      have c52b1 : (t234 != t224) = true := bne_iff_ne.mpr c52
      (first | rw [c52b0] | (simp only [i64_w, i32_w]; rw [c52b0]) | skip)
      by_cases c128 : t234 = t228
      · as_aux_lemma =>
          rw [if_pos c128] at H
          subst c128
          have c128b0 : (t234 == t234) = true := by simp
          have c128b1 : (t234 != t234) = false := by simp
          by_cases c129 : t235 = t225
          · as_aux_lemma =>
              rw [if_pos c129] at H
              subst c129
              have c129b0 : (t235 == t235) = true := by simp
              have c129b1 : (t235 != t235) = false := by simp
              by_cases c130 : t236 = t226
              · as_aux_lemma =>
                  rw [if_pos c130] at H
                  subst c130
                  have c130b0 : (t236 == t236) = true := by simp
                  have c130b1 : (t236 != t236) = false := by simp
                  by_cases c131 : t237 = t227
                  · as_aux_lemma =>
                      rw [if_pos c131] at H
                      subst c131
                      have c131b0 : (t237 == t237) = true := by simp
                      have c131b1 : (t237 != t237) = false := by simp
                      have H' := az H
                      clear H
                      have hnb132 := NB238_232.out
                      have hnc132 := NB232_238.out
                      have hnb133 := NB238_233.out
                      have hnc133 := NB233_238.out
                      obtain ⟨hcz134_0, hcz134_1, hcz134_2, hcz134_3⟩ := cz4 BK238.out
                      obtain ⟨hfz134_0, hfz134_1, hfz134_2, hfz134_3⟩ := fz4 BK238.out
                      have hnb135 := NB232_233.out
                      have hnc135 := NB233_232.out
                      obtain ⟨hcz136_0, hcz136_1, hcz136_2, hcz136_3⟩ := cz4 BK232.out
                      obtain ⟨hfz136_0, hfz136_1, hfz136_2, hfz136_3⟩ := fz4 BK232.out
                      obtain ⟨hcz137_0, hcz137_1, hcz137_2, hcz137_3⟩ := cz4 BK233.out
                      obtain ⟨hfz137_0, hfz137_1, hfz137_2, hfz137_3⟩ := fz4 BK233.out
                      go_wp2
                      go_meet
                      case rel => exact ⟨_, (true), (by first | rfl | (simp; done) | (simp [*]; done)), H', ⟨by have := HJ4.out; first | omega | exact Nat.le_refl _⟩, ⟨qF BK232⟩, ⟨qF BK233⟩, ⟨qF BK238⟩, ⟨qL HB⟩⟩
                  rw [if_neg c131] at H
                  have c131b0 : (t237 == t227) = false := beq_eq_false_iff_ne.mpr c131
                  have c131b1 : (t237 != t227) = true := bne_iff_ne.mpr c131
                  have H' := az H
                  clear H
                  have hnb138 := NB238_232.out
                  have hnc138 := NB232_238.out
                  have hnb139 := NB238_233.out
                  have hnc139 := NB233_238.out
                  obtain ⟨hcz140_0, hcz140_1, hcz140_2, hcz140_3⟩ := cz4 BK238.out
                  obtain ⟨hfz140_0, hfz140_1, hfz140_2, hfz140_3⟩ := fz4 BK238.out
                  have hnb141 := NB232_233.out
                  have hnc141 := NB233_232.out
                  obtain ⟨hcz142_0, hcz142_1, hcz142_2, hcz142_3⟩ := cz4 BK232.out
                  obtain ⟨hfz142_0, hfz142_1, hfz142_2, hfz142_3⟩ := fz4 BK232.out
                  obtain ⟨hcz143_0, hcz143_1, hcz143_2, hcz143_3⟩ := cz4 BK233.out
                  obtain ⟨hfz143_0, hfz143_1, hfz143_2, hfz143_3⟩ := fz4 BK233.out
                  go_wp2
                  go_meet
                  case rel => exact ⟨_, ((t237 == t231)), (by first | rfl | (simp; done) | (simp [*]; done)), H', ⟨by have := HJ4.out; first | omega | exact Nat.le_refl _⟩, ⟨qF BK232⟩, ⟨qF BK233⟩, ⟨qF BK238⟩, ⟨qL HB⟩⟩
              rw [if_neg c130] at H
              have c130b0 : (t236 == t226) = false := beq_eq_false_iff_ne.mpr c130
              have c130b1 : (t236 != t226) = true := bne_iff_ne.mpr c130
              by_cases c144 : t236 = t230
              · as_aux_lemma =>
                  rw [if_pos c144] at H
                  subst c144
                  have c144b0 : (t236 == t236) = true := by simp
                  have c144b1 : (t236 != t236) = false := by simp
                  by_cases c145 : t237 = t227
                  · as_aux_lemma =>
                      rw [if_pos c145] at H
                      subst c145
                      have c145b0 : (t237 == t237) = true := by simp
                      have c145b1 : (t237 != t237) = false := by simp
                      have H' := az H
                      clear H
                      have hnb146 := NB238_232.out
                      have hnc146 := NB232_238.out
                      have hnb147 := NB238_233.out
                      have hnc147 := NB233_238.out
                      obtain ⟨hcz148_0, hcz148_1, hcz148_2, hcz148_3⟩ := cz4 BK238.out
                      obtain ⟨hfz148_0, hfz148_1, hfz148_2, hfz148_3⟩ := fz4 BK238.out
                      have hnb149 := NB232_233.out
                      have hnc149 := NB233_232.out
                      obtain ⟨hcz150_0, hcz150_1, hcz150_2, hcz150_3⟩ := cz4 BK232.out
                      obtain ⟨hfz150_0, hfz150_1, hfz150_2, hfz150_3⟩ := fz4 BK232.out
                      obtain ⟨hcz151_0, hcz151_1, hcz151_2, hcz151_3⟩ := cz4 BK233.out
                      obtain ⟨hfz151_0, hfz151_1, hfz151_2, hfz151_3⟩ := fz4 BK233.out
                      go_wp2
                      go_meet
                      case rel => exact ⟨_, (true), (by first | rfl | (simp; done) | (simp [*]; done)), H', ⟨by have := HJ4.out; first | omega | exact Nat.le_refl _⟩, ⟨qF BK232⟩, ⟨qF BK233⟩, ⟨qF BK238⟩, ⟨qL HB⟩⟩
                  rw [if_neg c145] at H
                  have c145b0 : (t237 == t227) = false := beq_eq_false_iff_ne.mpr c145
                  have c145b1 : (t237 != t227) = true := bne_iff_ne.mpr c145
                  have H' := az H
                  clear H
                  have hnb152 := NB238_232.out
                  have hnc152 := NB232_238.out
                  have hnb153 := NB238_233.out
                  have hnc153 := NB233_238.out
                  obtain ⟨hcz154_0, hcz154_1, hcz154_2, hcz154_3⟩ := cz4 BK238.out
                  obtain ⟨hfz154_0, hfz154_1, hfz154_2, hfz154_3⟩ := fz4 BK238.out
                  have hnb155 := NB232_233.out
                  have hnc155 := NB233_232.out
                  obtain ⟨hcz156_0, hcz156_1, hcz156_2, hcz156_3⟩ := cz4 BK232.out
                  obtain ⟨hfz156_0, hfz156_1, hfz156_2, hfz156_3⟩ := fz4 BK232.out
                  obtain ⟨hcz157_0, hcz157_1, hcz157_2, hcz157_3⟩ := cz4 BK233.out
                  obtain ⟨hfz157_0, hfz157_1, hfz157_2, hfz157_3⟩ := fz4 BK233.out
                  go_wp2
                  go_meet
                  case rel => exact ⟨_, ((t237 == t231)), (by first | rfl | (simp; done) | (simp [*]; done)), H', ⟨by have := HJ4.out; first | omega | exact Nat.le_refl _⟩, ⟨qF BK232⟩, ⟨qF BK233⟩, ⟨qF BK238⟩, ⟨qL HB⟩⟩
              rw [if_neg c144] at H
              have c144b0 : (t236 == t230) = false := beq_eq_false_iff_ne.mpr c144
              have c144b1 : (t236 != t230) = true := bne_iff_ne.mpr c144
              have H' := az H
              clear H
              have hnb158 := NB238_232.out
              have hnc158 := NB232_238.out
              have hnb159 := NB238_233.out
              have hnc159 := NB233_238.out
              obtain ⟨hcz160_0, hcz160_1, hcz160_2, hcz160_3⟩ := cz4 BK238.out
              obtain ⟨hfz160_0, hfz160_1, hfz160_2, hfz160_3⟩ := fz4 BK238.out
              have hnb161 := NB232_233.out
              have hnc161 := NB233_232.out
              obtain ⟨hcz162_0, hcz162_1, hcz162_2, hcz162_3⟩ := cz4 BK232.out
              obtain ⟨hfz162_0, hfz162_1, hfz162_2, hfz162_3⟩ := fz4 BK232.out
              obtain ⟨hcz163_0, hcz163_1, hcz163_2, hcz163_3⟩ := cz4 BK233.out
              obtain ⟨hfz163_0, hfz163_1, hfz163_2, hfz163_3⟩ := fz4 BK233.out
              go_wp2
              go_meet
              case rel => exact ⟨_, (false), (by first | rfl | (simp; done) | (simp [*]; done)), H', ⟨by have := HJ4.out; first | omega | exact Nat.le_refl _⟩, ⟨qF BK232⟩, ⟨qF BK233⟩, ⟨qF BK238⟩, ⟨qL HB⟩⟩
          rw [if_neg c129] at H
          have c129b0 : (t235 == t225) = false := beq_eq_false_iff_ne.mpr c129
          have c129b1 : (t235 != t225) = true := bne_iff_ne.mpr c129
          by_cases c164 : t235 = t229
          · as_aux_lemma =>
              rw [if_pos c164] at H
              subst c164
              have c164b0 : (t235 == t235) = true := by simp
              have c164b1 : (t235 != t235) = false := by simp
              by_cases c165 : t236 = t226
              · as_aux_lemma =>
                  rw [if_pos c165] at H
                  subst c165
                  have c165b0 : (t236 == t236) = true := by simp
                  have c165b1 : (t236 != t236) = false := by simp
                  by_cases c166 : t237 = t227
                  · as_aux_lemma =>
                      rw [if_pos c166] at H
                      subst c166
                      have c166b0 : (t237 == t237) = true := by simp
                      have c166b1 : (t237 != t237) = false := by simp
                      have H' := az H
                      clear H
                      have hnb167 := NB238_232.out
                      have hnc167 := NB232_238.out
                      have hnb168 := NB238_233.out
                      have hnc168 := NB233_238.out
                      obtain ⟨hcz169_0, hcz169_1, hcz169_2, hcz169_3⟩ := cz4 BK238.out
                      obtain ⟨hfz169_0, hfz169_1, hfz169_2, hfz169_3⟩ := fz4 BK238.out
                      have hnb170 := NB232_233.out
                      have hnc170 := NB233_232.out
                      obtain ⟨hcz171_0, hcz171_1, hcz171_2, hcz171_3⟩ := cz4 BK232.out
                      obtain ⟨hfz171_0, hfz171_1, hfz171_2, hfz171_3⟩ := fz4 BK232.out
                      obtain ⟨hcz172_0, hcz172_1, hcz172_2, hcz172_3⟩ := cz4 BK233.out
                      obtain ⟨hfz172_0, hfz172_1, hfz172_2, hfz172_3⟩ := fz4 BK233.out
                      go_wp2
                      go_meet
                      case rel => exact ⟨_, (true), (by first | rfl | (simp; done) | (simp [*]; done)), H', ⟨by have := HJ4.out; first | omega | exact Nat.le_refl _⟩, ⟨qF BK232⟩, ⟨qF BK233⟩, ⟨qF BK238⟩, ⟨qL HB⟩⟩
                  rw [if_neg c166] at H
                  have c166b0 : (t237 == t227) = false := beq_eq_false_iff_ne.mpr c166
                  have c166b1 : (t237 != t227) = true := bne_iff_ne.mpr c166
                  have H' := az H
                  clear H
                  have hnb173 := NB238_232.out
                  have hnc173 := NB232_238.out
                  have hnb174 := NB238_233.out
                  have hnc174 := NB233_238.out
                  obtain ⟨hcz175_0, hcz175_1, hcz175_2, hcz175_3⟩ := cz4 BK238.out
                  obtain ⟨hfz175_0, hfz175_1, hfz175_2, hfz175_3⟩ := fz4 BK238.out
                  have hnb176 := NB232_233.out
                  have hnc176 := NB233_232.out
                  obtain ⟨hcz177_0, hcz177_1, hcz177_2, hcz177_3⟩ := cz4 BK232.out
                  obtain ⟨hfz177_0, hfz177_1, hfz177_2, hfz177_3⟩ := fz4 BK232.out
                  obtain ⟨hcz178_0, hcz178_1, hcz178_2, hcz178_3⟩ := cz4 BK233.out
                  obtain ⟨hfz178_0, hfz178_1, hfz178_2, hfz178_3⟩ := fz4 BK233.out
                  go_wp2
                  go_meet
                  case rel => exact ⟨_, ((t237 == t231)), (by first | rfl | (simp; done) | (simp [*]; done)), H', ⟨by have := HJ4.out; first | omega | exact Nat.le_refl _⟩, ⟨qF BK232⟩, ⟨qF BK233⟩, ⟨qF BK238⟩, ⟨qL HB⟩⟩
              rw [if_neg c165] at H
              have c165b0 : (t236 == t226) = false := beq_eq_false_iff_ne.mpr c165
              have c165b1 : (t236 != t226) = true := bne_iff_ne.mpr c165
              by_cases c179 : t236 = t230
              · as_aux_lemma =>
                  rw [if_pos c179] at H
                  subst c179
                  have c179b0 : (t236 == t236) = true := by simp
                  have c179b1 : (t236 != t236) = false := by simp
                  by_cases c180 : t237 = t227
                  · as_aux_lemma =>
                      rw [if_pos c180] at H
                      subst c180
                      have c180b0 : (t237 == t237) = true := by simp
                      have c180b1 : (t237 != t237) = false := by simp
                      have H' := az H
                      clear H
                      have hnb181 := NB238_232.out
                      have hnc181 := NB232_238.out
                      have hnb182 := NB238_233.out
                      have hnc182 := NB233_238.out
                      obtain ⟨hcz183_0, hcz183_1, hcz183_2, hcz183_3⟩ := cz4 BK238.out
                      obtain ⟨hfz183_0, hfz183_1, hfz183_2, hfz183_3⟩ := fz4 BK238.out
                      have hnb184 := NB232_233.out
                      have hnc184 := NB233_232.out
                      obtain ⟨hcz185_0, hcz185_1, hcz185_2, hcz185_3⟩ := cz4 BK232.out
                      obtain ⟨hfz185_0, hfz185_1, hfz185_2, hfz185_3⟩ := fz4 BK232.out
                      obtain ⟨hcz186_0, hcz186_1, hcz186_2, hcz186_3⟩ := cz4 BK233.out
                      obtain ⟨hfz186_0, hfz186_1, hfz186_2, hfz186_3⟩ := fz4 BK233.out
                      go_wp2
                      go_meet
                      case rel => exact ⟨_, (true), (by first | rfl | (simp; done) | (simp [*]; done)), H', ⟨by have := HJ4.out; first | omega | exact Nat.le_refl _⟩, ⟨qF BK232⟩, ⟨qF BK233⟩, ⟨qF BK238⟩, ⟨qL HB⟩⟩
                  rw [if_neg c180] at H
                  have c180b0 : (t237 == t227) = false := beq_eq_false_iff_ne.mpr c180
                  have c180b1 : (t237 != t227) = true := bne_iff_ne.mpr c180
                  have H' := az H
                  clear H
                  have hnb187 := NB238_232.out
                  have hnc187 := NB232_238.out
                  have hnb188 := NB238_233.out
                  have hnc188 := NB233_238.out
                  obtain ⟨hcz189_0, hcz189_1, hcz189_2, hcz189_3⟩ := cz4 BK238.out
                  obtain ⟨hfz189_0, hfz189_1, hfz189_2, hfz189_3⟩ := fz4 BK238.out
                  have hnb190 := NB232_233.out
                  have hnc190 := NB233_232.out
                  obtain ⟨hcz191_0, hcz191_1, hcz191_2, hcz191_3⟩ := cz4 BK232.out
                  obtain ⟨hfz191_0, hfz191_1, hfz191_2, hfz191_3⟩ := fz4 BK232.out
                  obtain ⟨hcz192_0, hcz192_1, hcz192_2, hcz192_3⟩ := cz4 BK233.out
                  obtain ⟨hfz192_0, hfz192_1, hfz192_2, hfz192_3⟩ := fz4 BK233.out
                  go_wp2
                  go_meet
                  case rel => exact ⟨_, ((t237 == t231)), (by first | rfl | (simp; done) | (simp [*]; done)), H', ⟨by have := HJ4.out; first | omega | exact Nat.le_refl _⟩, ⟨qF BK232⟩, ⟨qF BK233⟩, ⟨qF BK238⟩, ⟨qL HB⟩⟩
              rw [if_neg c179] at H
              have c179b0 : (t236 == t230) = false := beq_eq_false_iff_ne.mpr c179
              have c179b1 : (t236 != t230) = true := bne_iff_ne.mpr c179
              have H' := az H
              clear H
              have hnb193 := NB238_232.out
              have hnc193 := NB232_238.out
              have hnb194 := NB238_233.out
              have hnc194 := NB233_238.out
              obtain ⟨hcz195_0, hcz195_1, hcz195_2, hcz195_3⟩ := cz4 BK238.out
              obtain ⟨hfz195_0, hfz195_1, hfz195_2, hfz195_3⟩ := fz4 BK238.out
              have hnb196 := NB232_233.out
              have hnc196 := NB233_232.out
              obtain ⟨hcz197_0, hcz197_1, hcz197_2, hcz197_3⟩ := cz4 BK232.out
              obtain ⟨hfz197_0, hfz197_1, hfz197_2, hfz197_3⟩ := fz4 BK232.out
              obtain ⟨hcz198_0, hcz198_1, hcz198_2, hcz198_3⟩ := cz4 BK233.out
              obtain ⟨hfz198_0, hfz198_1, hfz198_2, hfz198_3⟩ := fz4 BK233.out
              go_wp2
              go_meet
              case rel => exact ⟨_, (false), (by first | rfl | (simp; done) | (simp [*]; done)), H', ⟨by have := HJ4.out; first | omega | exact Nat.le_refl _⟩, ⟨qF BK232⟩, ⟨qF BK233⟩, ⟨qF BK238⟩, ⟨qL HB⟩⟩
          rw [if_neg c164] at H
          have c164b0 : (t235 == t229) = false := beq_eq_false_iff_ne.mpr c164
          have c164b1 : (t235 != t229) = true := bne_iff_ne.mpr c164
          have H' := az H
          clear H
          have hnb199 := NB238_232.out
          have hnc199 := NB232_238.out
          have hnb200 := NB238_233.out
          have hnc200 := NB233_238.out
          obtain ⟨hcz201_0, hcz201_1, hcz201_2, hcz201_3⟩ := cz4 BK238.out
          obtain ⟨hfz201_0, hfz201_1, hfz201_2, hfz201_3⟩ := fz4 BK238.out
          have hnb202 := NB232_233.out
          have hnc202 := NB233_232.out
          obtain ⟨hcz203_0, hcz203_1, hcz203_2, hcz203_3⟩ := cz4 BK232.out
          obtain ⟨hfz203_0, hfz203_1, hfz203_2, hfz203_3⟩ := fz4 BK232.out
          obtain ⟨hcz204_0, hcz204_1, hcz204_2, hcz204_3⟩ := cz4 BK233.out
          obtain ⟨hfz204_0, hfz204_1, hfz204_2, hfz204_3⟩ := fz4 BK233.out
          go_wp2
          go_meet
          case rel => exact ⟨_, (false), (by first | rfl | (simp; done) | (simp [*]; done)), H', ⟨by have := HJ4.out; first | omega | exact Nat.le_refl _⟩, ⟨qF BK232⟩, ⟨qF BK233⟩, ⟨qF BK238⟩, ⟨qL HB⟩⟩
      rw [if_neg c128] at H
      have c128b0 : (t234 == t228) = false := beq_eq_false_iff_ne.mpr c128
      have c128b1 : (t234 != t228) = true := bne_iff_ne.mpr c128
      have H' := az H
      clear H
      have hnb205 := NB238_232.out
      have hnc205 := NB232_238.out
      have hnb206 := NB238_233.out
      have hnc206 := NB233_238.out
      obtain ⟨hcz207_0, hcz207_1, hcz207_2, hcz207_3⟩ := cz4 BK238.out
      obtain ⟨hfz207_0, hfz207_1, hfz207_2, hfz207_3⟩ := fz4 BK238.out
      have hnb208 := NB232_233.out
      have hnc208 := NB233_232.out
      obtain ⟨hcz209_0, hcz209_1, hcz209_2, hcz209_3⟩ := cz4 BK232.out
      obtain ⟨hfz209_0, hfz209_1, hfz209_2, hfz209_3⟩ := fz4 BK232.out
      obtain ⟨hcz210_0, hcz210_1, hcz210_2, hcz210_3⟩ := cz4 BK233.out
      obtain ⟨hfz210_0, hfz210_1, hfz210_2, hfz210_3⟩ := fz4 BK233.out
      go_wp2
      go_meet
      case rel => exact ⟨_, (false), (by first | rfl | (simp; done) | (simp [*]; done)), H', ⟨by have := HJ4.out; first | omega | exact Nat.le_refl _⟩, ⟨qF BK232⟩, ⟨qF BK233⟩, ⟨qF BK238⟩, ⟨qL HB⟩⟩
    case rest =>
      clear HC51
      (try clear c2)
      obtain ⟨kq, x6_50, rfl, HA, HJ50, BK232, BK233, BK238, HB⟩ := hcut
      cases kq with
      | zero => exact absurd HA.out (by simp [laws_FnBoxBoth.j1])
      | succ kj50 => ?_
      have H := HA.out
      clear HA
      simp only [laws_FnBoxBoth.j1] at H
      replace H := qH H
      obtain ⟨t257, A211, H⟩ := H
      try dsimp only at H
      by_cases c212 : t257 = true
      · as_aux_lemma =>
          subst c212
          replace H := qT H
          replace H := qH H
          obtain ⟨t258, A213, H⟩ := H
          try dsimp only at H
          by_cases c214 : t258 = true
          · as_aux_lemma =>
              subst c214
              replace H := qT H
              replace H := qH H
              obtain ⟨t259, A215, H⟩ := H
              try dsimp only at H
              by_cases c216 : t259 = true
              · as_aux_lemma =>
                  subst c216
                  replace H := qT H
                  by_cases c217 : x6_50 = true
                  · as_aux_lemma =>
                      subst c217
                      replace H := qT H
                      replace H := qH H
                      obtain ⟨t260, A218, H⟩ := H
                      try dsimp only at H
                      by_cases c219 : (t260 == ((t234 == t224 && (t235 == t225)) && ((t236 == t226 && (t237 == t227))))) = true
                      · as_aux_lemma =>
                          rw [if_pos c219] at H
                          have c219b0 : (t260 == ((t234 == t224 && (t235 == t225)) && ((t236 == t226 && (t237 == t227))))) = true := c219
                          (try (have c219b1 : decide (t260 = ((t234 == t224 && (t235 == t225)) && ((t236 == t226 && (t237 == t227))))) = true := by simpa using c219))
                          (try (have c219b2 : (t260 == ((t234 == t224 && (t235 == t225)) && ((t236 == t226 && (t237 == t227))))) = true := by simpa using c219))
                          clear c219
                          replace H := qH H
                          obtain ⟨⟨t261, t262, t263, t264⟩, A220, H⟩ := H
                          try dsimp only at H
                          obtain rfl := Option.some.inj H
                          try go_wp2
                          replace BK232 := az (blk_drew BK232.out)
                          replace BK233 := az (blk_drew BK233.out)
                          replace BK238 := az (blk_drew BK238.out)
                          replace HB := az (below_drew1 HB.out)
                          refine start_ (n := 32) (S := fun w' => w'.cell? ⟨gb238, 0, none⟩ = some (.int .i64 t234) ∧ w'.cell? ⟨gb238, 1, none⟩ = some (.int .i64 t235) ∧ w'.cell? ⟨gb238, 2, none⟩ = some (.int .i64 t236) ∧ w'.cell? ⟨gb238, 3, none⟩ = some (.int .i64 t237) ∧ w'.cell? ⟨gb232, 0, none⟩ = some (.int .i64 t224) ∧ w'.cell? ⟨gb232, 1, none⟩ = some (.int .i64 t225) ∧ w'.cell? ⟨gb232, 2, none⟩ = some (.int .i64 t226) ∧ w'.cell? ⟨gb232, 3, none⟩ = some (.int .i64 t227) ∧ w'.cell? ⟨gb233, 0, none⟩ = some (.int .i64 t228) ∧ w'.cell? ⟨gb233, 1, none⟩ = some (.int .i64 t229) ∧ w'.cell? ⟨gb233, 2, none⟩ = some (.int .i64 t230) ∧ w'.cell? ⟨gb233, 3, none⟩ = some (.int .i64 t231)) (ds := []) #[false, false, false, false, false, false, false, false, false, false, false, false, false, false, false, false, false, false, false, false, false, false, false, false, false, false, false, false, false, false, false, false] (by kernel_rfl) rfl rfl ⟨bc BK238 0, bc BK238 1, bc BK238 2, bc BK238 3, bc BK232 0, bc BK232 1, bc BK232 2, bc BK232 3, bc BK233 0, bc BK233 1, bc BK233 2, bc BK233 3⟩ (fun hHeld => ?_); refine with_tabW laws_FnBoxBoth.tab8 laws_FnBoxBoth.bits8 (fun HT_ HW_ => ?_)
                          generalize wc.drew = w221 at BK232 BK233 BK238 HB hHeld ⊢
                          refine tk12 0 (some 122) (fl 32 1) HT_ HW_ hHeld ?_
                          refine on 1 (some 123) (fl 32 3) HT_ (fun K hK => ?_)
                          refine go1 Try.func16 #[.agg #[.int .i64 t234, .int .i64 t235, .int .i64 t236, .int .i64 t237]] ?_
                          with_reducible refine (impl_BoxOk.calls t234 t235 t236 t237 true _ A211.out).mono ?_
                          rintro e w222 ⟨rfl, hb⟩
                          refine ⟨_, rfl, ?_⟩
                          replace BK232 := kBB BK232 hb
                          replace BK233 := kBB BK233 hb
                          replace BK238 := kBB BK238 hb
                          replace HB := bS HB hb
                          clear hb
                          refine hK.out _ _ ⟨bc BK238 0, bc BK238 1, bc BK238 2, bc BK238 3, bc BK232 0, bc BK232 1, bc BK232 2, bc BK232 3, bc BK233 0, bc BK233 1, bc BK233 2, bc BK233 3⟩ (fun hHeld => ?_)
                          clear hK K
                          refine nm (some 123) ?_
                          refine pu 2 (some 124) (fl 32 7) HT_ ?_
                          refine tk12 3 (some 125) (fl 32 15) HT_ HW_ hHeld ?_
                          refine tk12 4 (some 126) (fl 32 31) HT_ HW_ hHeld ?_
                          refine on 5 (some 127) (fl 32 63) HT_ (fun K hK => ?_)
                          refine go1 Try.func17 #[.agg #[.int .i64 t234, .int .i64 t235, .int .i64 t236, .int .i64 t237], .agg #[.int .i64 t224, .int .i64 t225, .int .i64 t226, .int .i64 t227]] ?_
                          with_reducible refine (impl_BoxHas.calls t234 t235 t236 t237 t224 t225 t226 t227 true _ A213.out).mono ?_
                          rintro e w223 ⟨rfl, hb⟩
                          refine ⟨_, rfl, ?_⟩
                          replace BK232 := kBB BK232 hb
                          replace BK233 := kBB BK233 hb
                          replace BK238 := kBB BK238 hb
                          replace HB := bS HB hb
                          clear hb
                          refine hK.out _ _ ⟨bc BK238 0, bc BK238 1, bc BK238 2, bc BK238 3, bc BK232 0, bc BK232 1, bc BK232 2, bc BK232 3, bc BK233 0, bc BK233 1, bc BK233 2, bc BK233 3⟩ (fun hHeld => ?_)
                          clear hK K
                          refine nm (some 127) ?_
                          refine pu 6 (some 128) (fl 32 127) HT_ ?_
                          refine pu 7 (some 129) (fl 32 255) HT_ ?_
                          refine tk12 8 (some 130) (fl 32 511) HT_ HW_ hHeld ?_
                          refine tk12 9 (some 131) (fl 32 1023) HT_ HW_ hHeld ?_
                          refine on 10 (some 132) (fl 32 2047) HT_ (fun K hK => ?_)
                          refine go1 Try.func17 #[.agg #[.int .i64 t234, .int .i64 t235, .int .i64 t236, .int .i64 t237], .agg #[.int .i64 t228, .int .i64 t229, .int .i64 t230, .int .i64 t231]] ?_
                          with_reducible refine (impl_BoxHas.calls t234 t235 t236 t237 t228 t229 t230 t231 true _ A215.out).mono ?_
                          rintro e w224 ⟨rfl, hb⟩
                          refine ⟨_, rfl, ?_⟩
                          replace BK232 := kBB BK232 hb
                          replace BK233 := kBB BK233 hb
                          replace BK238 := kBB BK238 hb
                          replace HB := bS HB hb
                          clear hb
                          refine hK.out _ _ ⟨bc BK238 0, bc BK238 1, bc BK238 2, bc BK238 3, bc BK232 0, bc BK232 1, bc BK232 2, bc BK232 3, bc BK233 0, bc BK233 1, bc BK233 2, bc BK233 3⟩ (fun hHeld => ?_)
                          clear hK K
                          refine nm (some 132) ?_
                          refine pu 11 (some 133) (fl 32 4095) HT_ ?_
                          refine pu 12 (some 134) (fl 32 8191) HT_ ?_
                          refine pu 13 (some 135) (fl 32 16383) HT_ ?_
                          refine pu 14 (some 136) (fl 32 32767) HT_ ?_
                          refine pu 15 (some 137) (fl 32 65535) HT_ ?_
                          refine tk12 16 (some 138) (fl 32 131071) HT_ HW_ hHeld ?_
                          refine tk12 17 (some 139) (fl 32 262143) HT_ HW_ hHeld ?_
                          refine tk12 19 (some 141) (fl 32 786431) HT_ HW_ hHeld ?_
                          refine tk12 20 (some 142) (fl 32 1835007) HT_ HW_ hHeld ?_
                          refine pu 21 (some 143) (fl 32 3932159) HT_ ?_
                          refine on 18 (some 140) (fl 32 4194303) HT_ (fun K hK => ?_)
                          refine go1 Try.func17 #[.agg #[.int .i64 t224, .int .i64 t225, .int .i64 t226, .int .i64 t227], .agg #[.int .i64 t228, .int .i64 t229, .int .i64 t230, .int .i64 t231]] ?_
                          with_reducible refine (impl_BoxHas.calls t224 t225 t226 t227 t228 t229 t230 t231 t260 _ A218.out).mono ?_
                          rintro e w225 ⟨rfl, hb⟩
                          refine ⟨_, rfl, ?_⟩
                          replace BK232 := kBB BK232 hb
                          replace BK233 := kBB BK233 hb
                          replace BK238 := kBB BK238 hb
                          replace HB := bS HB hb
                          clear hb
                          refine hK.out _ _ ⟨bc BK238 0, bc BK238 1, bc BK238 2, bc BK238 3, bc BK232 0, bc BK232 1, bc BK232 2, bc BK232 3, bc BK233 0, bc BK233 1, bc BK233 2, bc BK233 3⟩ (fun hHeld => ?_)
                          clear hK K
                          refine nm (some 140) ?_
                          refine pu 22 (some 144) (fl 32 8388607) HT_ ?_
                          refine pu 23 (some 145) (fl 32 16777215) HT_ ?_
                          refine pu 24 (some 146) (fl 32 33554431) HT_ ?_
                          refine tk12 25 (some 147) (fl 32 67108863) HT_ HW_ hHeld ?_
                          refine tk12 26 (some 148) (fl 32 134217727) HT_ HW_ hHeld ?_
                          refine tk12 28 (some 150) (fl 32 402653183) HT_ HW_ hHeld ?_
                          refine on 27 (some 149) (fl 32 536870911) HT_ (fun K hK => ?_)
                          refine go1 Try.func13 #[.agg #[.int .i64 t224, .int .i64 t225, .int .i64 t226, .int .i64 t227], .agg #[.int .i64 t224, .int .i64 t225, .int .i64 t226, .int .i64 t227]] ?_
                          with_reducible refine (impl_BoxBoth.calls t224 t225 t226 t227 t224 t225 t226 t227 t261 t262 t263 t264 _ A220.out).mono ?_
                          rintro e w226 ⟨rfl, hb⟩
                          refine ⟨_, rfl, ?_⟩
                          replace BK232 := kBB BK232 hb
                          replace BK233 := kBB BK233 hb
                          replace BK238 := kBB BK238 hb
                          replace HB := bS HB hb
                          clear hb
                          refine hK.out _ _ ⟨bc BK238 0, bc BK238 1, bc BK238 2, bc BK238 3, bc BK232 0, bc BK232 1, bc BK232 2, bc BK232 3, bc BK233 0, bc BK233 1, bc BK233 2, bc BK233 3⟩ (fun hHeld => ?_)
                          clear hK K
                          refine nm (some 149) ?_
                          refine pu 29 (some 151) (fl 32 1073741823) HT_ ?_
                          refine pu 30 (some 152) (fl 32 2147483647) HT_ ?_
                          refine pu 31 (some 2) (fl 32 4294967295) HT_ ?_
                          refine done_ (done_of HT_.out (by kernel_rfl)) ?_
                          try go_wp2
                          go_ret
                          exact ⟨qE, qL HB⟩
                      rw [if_neg c219] at H
                      have c219b0 : (t260 == ((t234 == t224 && (t235 == t225)) && ((t236 == t226 && (t237 == t227))))) = false := by simpa using c219
                      (try (have c219b1 : decide (t260 = ((t234 == t224 && (t235 == t225)) && ((t236 == t226 && (t237 == t227))))) = false := by simpa using c219))
                      (try (have c219b2 : (t260 == ((t234 == t224 && (t235 == t225)) && ((t236 == t226 && (t237 == t227))))) = false := by simpa using c219))
                      (try (have c219b3 : ¬ (t260 = ((t234 == t224 && (t235 == t225)) && ((t236 == t226 && (t237 == t227))))) := by simpa using c219))
                      clear c219
                      obtain rfl := Option.some.inj H
                      try go_wp2
                      replace BK232 := az (blk_drew BK232.out)
                      replace BK233 := az (blk_drew BK233.out)
                      replace BK238 := az (blk_drew BK238.out)
                      replace HB := az (below_drew1 HB.out)
                      refine start_ (n := 32) (S := fun w' => w'.cell? ⟨gb238, 0, none⟩ = some (.int .i64 t234) ∧ w'.cell? ⟨gb238, 1, none⟩ = some (.int .i64 t235) ∧ w'.cell? ⟨gb238, 2, none⟩ = some (.int .i64 t236) ∧ w'.cell? ⟨gb238, 3, none⟩ = some (.int .i64 t237) ∧ w'.cell? ⟨gb232, 0, none⟩ = some (.int .i64 t224) ∧ w'.cell? ⟨gb232, 1, none⟩ = some (.int .i64 t225) ∧ w'.cell? ⟨gb232, 2, none⟩ = some (.int .i64 t226) ∧ w'.cell? ⟨gb232, 3, none⟩ = some (.int .i64 t227) ∧ w'.cell? ⟨gb233, 0, none⟩ = some (.int .i64 t228) ∧ w'.cell? ⟨gb233, 1, none⟩ = some (.int .i64 t229) ∧ w'.cell? ⟨gb233, 2, none⟩ = some (.int .i64 t230) ∧ w'.cell? ⟨gb233, 3, none⟩ = some (.int .i64 t231)) (ds := []) #[false, false, false, false, false, false, false, false, false, false, false, false, false, false, false, false, false, false, false, false, false, false, false, false, false, false, false, false, false, false, false, false] (by kernel_rfl) rfl rfl ⟨bc BK238 0, bc BK238 1, bc BK238 2, bc BK238 3, bc BK232 0, bc BK232 1, bc BK232 2, bc BK232 3, bc BK233 0, bc BK233 1, bc BK233 2, bc BK233 3⟩ (fun hHeld => ?_); refine with_tabW laws_FnBoxBoth.tab8 laws_FnBoxBoth.bits8 (fun HT_ HW_ => ?_)
                      generalize wc.drew = w227 at BK232 BK233 BK238 HB hHeld ⊢
                      refine tk12 0 (some 122) (fl 32 1) HT_ HW_ hHeld ?_
                      refine on 1 (some 123) (fl 32 3) HT_ (fun K hK => ?_)
                      refine go1 Try.func16 #[.agg #[.int .i64 t234, .int .i64 t235, .int .i64 t236, .int .i64 t237]] ?_
                      with_reducible refine (impl_BoxOk.calls t234 t235 t236 t237 true _ A211.out).mono ?_
                      rintro e w228 ⟨rfl, hb⟩
                      refine ⟨_, rfl, ?_⟩
                      replace BK232 := kBB BK232 hb
                      replace BK233 := kBB BK233 hb
                      replace BK238 := kBB BK238 hb
                      replace HB := bS HB hb
                      clear hb
                      refine hK.out _ _ ⟨bc BK238 0, bc BK238 1, bc BK238 2, bc BK238 3, bc BK232 0, bc BK232 1, bc BK232 2, bc BK232 3, bc BK233 0, bc BK233 1, bc BK233 2, bc BK233 3⟩ (fun hHeld => ?_)
                      clear hK K
                      refine nm (some 123) ?_
                      refine pu 2 (some 124) (fl 32 7) HT_ ?_
                      refine tk12 3 (some 125) (fl 32 15) HT_ HW_ hHeld ?_
                      refine tk12 4 (some 126) (fl 32 31) HT_ HW_ hHeld ?_
                      refine on 5 (some 127) (fl 32 63) HT_ (fun K hK => ?_)
                      refine go1 Try.func17 #[.agg #[.int .i64 t234, .int .i64 t235, .int .i64 t236, .int .i64 t237], .agg #[.int .i64 t224, .int .i64 t225, .int .i64 t226, .int .i64 t227]] ?_
                      with_reducible refine (impl_BoxHas.calls t234 t235 t236 t237 t224 t225 t226 t227 true _ A213.out).mono ?_
                      rintro e w229 ⟨rfl, hb⟩
                      refine ⟨_, rfl, ?_⟩
                      replace BK232 := kBB BK232 hb
                      replace BK233 := kBB BK233 hb
                      replace BK238 := kBB BK238 hb
                      replace HB := bS HB hb
                      clear hb
                      refine hK.out _ _ ⟨bc BK238 0, bc BK238 1, bc BK238 2, bc BK238 3, bc BK232 0, bc BK232 1, bc BK232 2, bc BK232 3, bc BK233 0, bc BK233 1, bc BK233 2, bc BK233 3⟩ (fun hHeld => ?_)
                      clear hK K
                      refine nm (some 127) ?_
                      refine pu 6 (some 128) (fl 32 127) HT_ ?_
                      refine pu 7 (some 129) (fl 32 255) HT_ ?_
                      refine tk12 8 (some 130) (fl 32 511) HT_ HW_ hHeld ?_
                      refine tk12 9 (some 131) (fl 32 1023) HT_ HW_ hHeld ?_
                      refine on 10 (some 132) (fl 32 2047) HT_ (fun K hK => ?_)
                      refine go1 Try.func17 #[.agg #[.int .i64 t234, .int .i64 t235, .int .i64 t236, .int .i64 t237], .agg #[.int .i64 t228, .int .i64 t229, .int .i64 t230, .int .i64 t231]] ?_
                      with_reducible refine (impl_BoxHas.calls t234 t235 t236 t237 t228 t229 t230 t231 true _ A215.out).mono ?_
                      rintro e w230 ⟨rfl, hb⟩
                      refine ⟨_, rfl, ?_⟩
                      replace BK232 := kBB BK232 hb
                      replace BK233 := kBB BK233 hb
                      replace BK238 := kBB BK238 hb
                      replace HB := bS HB hb
                      clear hb
                      refine hK.out _ _ ⟨bc BK238 0, bc BK238 1, bc BK238 2, bc BK238 3, bc BK232 0, bc BK232 1, bc BK232 2, bc BK232 3, bc BK233 0, bc BK233 1, bc BK233 2, bc BK233 3⟩ (fun hHeld => ?_)
                      clear hK K
                      refine nm (some 132) ?_
                      refine pu 11 (some 133) (fl 32 4095) HT_ ?_
                      refine pu 12 (some 134) (fl 32 8191) HT_ ?_
                      refine pu 13 (some 135) (fl 32 16383) HT_ ?_
                      refine pu 14 (some 136) (fl 32 32767) HT_ ?_
                      refine pu 15 (some 137) (fl 32 65535) HT_ ?_
                      refine tk12 16 (some 138) (fl 32 131071) HT_ HW_ hHeld ?_
                      refine tk12 17 (some 139) (fl 32 262143) HT_ HW_ hHeld ?_
                      refine tk12 19 (some 141) (fl 32 786431) HT_ HW_ hHeld ?_
                      refine tk12 20 (some 142) (fl 32 1835007) HT_ HW_ hHeld ?_
                      refine pu 21 (some 143) (fl 32 3932159) HT_ ?_
                      refine on 18 (some 140) (fl 32 4194303) HT_ (fun K hK => ?_)
                      refine go1 Try.func17 #[.agg #[.int .i64 t224, .int .i64 t225, .int .i64 t226, .int .i64 t227], .agg #[.int .i64 t228, .int .i64 t229, .int .i64 t230, .int .i64 t231]] ?_
                      with_reducible refine (impl_BoxHas.calls t224 t225 t226 t227 t228 t229 t230 t231 t260 _ A218.out).mono ?_
                      rintro e w231 ⟨rfl, hb⟩
                      refine ⟨_, rfl, ?_⟩
                      replace BK232 := kBB BK232 hb
                      replace BK233 := kBB BK233 hb
                      replace BK238 := kBB BK238 hb
                      replace HB := bS HB hb
                      clear hb
                      refine hK.out _ _ ⟨bc BK238 0, bc BK238 1, bc BK238 2, bc BK238 3, bc BK232 0, bc BK232 1, bc BK232 2, bc BK232 3, bc BK233 0, bc BK233 1, bc BK233 2, bc BK233 3⟩ (fun hHeld => ?_)
                      clear hK K
                      refine nm (some 140) ?_
                      refine pu 22 (some 144) (fl 32 8388607) HT_ ?_
                      refine pu 23 (some 145) (fl 32 16777215) HT_ ?_
                      refine pu 24 (some 146) (fl 32 33554431) HT_ ?_
                      refine pv 25 (some 147) (fl 32 67108863) HT_ ?_
                      refine pv 26 (some 148) (fl 32 134217727) HT_ ?_
                      refine pv 27 (some 149) (fl 32 268435455) HT_ ?_
                      refine pv 28 (some 150) (fl 32 536870911) HT_ ?_
                      refine pv 29 (some 151) (fl 32 1073741823) HT_ ?_
                      refine pu 30 (some 152) (fl 32 2147483647) HT_ ?_
                      refine pu 31 (some 2) (fl 32 4294967295) HT_ ?_
                      refine done_ (done_of HT_.out (by kernel_rfl)) ?_
                      try go_wp2
                      go_ret
                      exact ⟨qE, qL HB⟩
                  replace c217 := Bool.eq_false_iff.mpr c217
                  subst c217
                  replace H := qU H
                  obtain rfl := Option.some.inj H
                  try go_wp2
                  replace BK232 := az (blk_drew BK232.out)
                  replace BK233 := az (blk_drew BK233.out)
                  replace BK238 := az (blk_drew BK238.out)
                  replace HB := az (below_drew1 HB.out)
                  refine start_ (n := 32) (S := fun w' => w'.cell? ⟨gb238, 0, none⟩ = some (.int .i64 t234) ∧ w'.cell? ⟨gb238, 1, none⟩ = some (.int .i64 t235) ∧ w'.cell? ⟨gb238, 2, none⟩ = some (.int .i64 t236) ∧ w'.cell? ⟨gb238, 3, none⟩ = some (.int .i64 t237) ∧ w'.cell? ⟨gb232, 0, none⟩ = some (.int .i64 t224) ∧ w'.cell? ⟨gb232, 1, none⟩ = some (.int .i64 t225) ∧ w'.cell? ⟨gb232, 2, none⟩ = some (.int .i64 t226) ∧ w'.cell? ⟨gb232, 3, none⟩ = some (.int .i64 t227) ∧ w'.cell? ⟨gb233, 0, none⟩ = some (.int .i64 t228) ∧ w'.cell? ⟨gb233, 1, none⟩ = some (.int .i64 t229) ∧ w'.cell? ⟨gb233, 2, none⟩ = some (.int .i64 t230) ∧ w'.cell? ⟨gb233, 3, none⟩ = some (.int .i64 t231)) (ds := []) #[false, false, false, false, false, false, false, false, false, false, false, false, false, false, false, false, false, false, false, false, false, false, false, false, false, false, false, false, false, false, false, false] (by kernel_rfl) rfl rfl ⟨bc BK238 0, bc BK238 1, bc BK238 2, bc BK238 3, bc BK232 0, bc BK232 1, bc BK232 2, bc BK232 3, bc BK233 0, bc BK233 1, bc BK233 2, bc BK233 3⟩ (fun hHeld => ?_); refine with_tabW laws_FnBoxBoth.tab8 laws_FnBoxBoth.bits8 (fun HT_ HW_ => ?_)
                  generalize wc.drew = w232 at BK232 BK233 BK238 HB hHeld ⊢
                  refine tk12 0 (some 122) (fl 32 1) HT_ HW_ hHeld ?_
                  refine on 1 (some 123) (fl 32 3) HT_ (fun K hK => ?_)
                  refine go1 Try.func16 #[.agg #[.int .i64 t234, .int .i64 t235, .int .i64 t236, .int .i64 t237]] ?_
                  with_reducible refine (impl_BoxOk.calls t234 t235 t236 t237 true _ A211.out).mono ?_
                  rintro e w233 ⟨rfl, hb⟩
                  refine ⟨_, rfl, ?_⟩
                  replace BK232 := kBB BK232 hb
                  replace BK233 := kBB BK233 hb
                  replace BK238 := kBB BK238 hb
                  replace HB := bS HB hb
                  clear hb
                  refine hK.out _ _ ⟨bc BK238 0, bc BK238 1, bc BK238 2, bc BK238 3, bc BK232 0, bc BK232 1, bc BK232 2, bc BK232 3, bc BK233 0, bc BK233 1, bc BK233 2, bc BK233 3⟩ (fun hHeld => ?_)
                  clear hK K
                  refine nm (some 123) ?_
                  refine pu 2 (some 124) (fl 32 7) HT_ ?_
                  refine tk12 3 (some 125) (fl 32 15) HT_ HW_ hHeld ?_
                  refine tk12 4 (some 126) (fl 32 31) HT_ HW_ hHeld ?_
                  refine on 5 (some 127) (fl 32 63) HT_ (fun K hK => ?_)
                  refine go1 Try.func17 #[.agg #[.int .i64 t234, .int .i64 t235, .int .i64 t236, .int .i64 t237], .agg #[.int .i64 t224, .int .i64 t225, .int .i64 t226, .int .i64 t227]] ?_
                  with_reducible refine (impl_BoxHas.calls t234 t235 t236 t237 t224 t225 t226 t227 true _ A213.out).mono ?_
                  rintro e w234 ⟨rfl, hb⟩
                  refine ⟨_, rfl, ?_⟩
                  replace BK232 := kBB BK232 hb
                  replace BK233 := kBB BK233 hb
                  replace BK238 := kBB BK238 hb
                  replace HB := bS HB hb
                  clear hb
                  refine hK.out _ _ ⟨bc BK238 0, bc BK238 1, bc BK238 2, bc BK238 3, bc BK232 0, bc BK232 1, bc BK232 2, bc BK232 3, bc BK233 0, bc BK233 1, bc BK233 2, bc BK233 3⟩ (fun hHeld => ?_)
                  clear hK K
                  refine nm (some 127) ?_
                  refine pu 6 (some 128) (fl 32 127) HT_ ?_
                  refine pu 7 (some 129) (fl 32 255) HT_ ?_
                  refine tk12 8 (some 130) (fl 32 511) HT_ HW_ hHeld ?_
                  refine tk12 9 (some 131) (fl 32 1023) HT_ HW_ hHeld ?_
                  refine on 10 (some 132) (fl 32 2047) HT_ (fun K hK => ?_)
                  refine go1 Try.func17 #[.agg #[.int .i64 t234, .int .i64 t235, .int .i64 t236, .int .i64 t237], .agg #[.int .i64 t228, .int .i64 t229, .int .i64 t230, .int .i64 t231]] ?_
                  with_reducible refine (impl_BoxHas.calls t234 t235 t236 t237 t228 t229 t230 t231 true _ A215.out).mono ?_
                  rintro e w235 ⟨rfl, hb⟩
                  refine ⟨_, rfl, ?_⟩
                  replace BK232 := kBB BK232 hb
                  replace BK233 := kBB BK233 hb
                  replace BK238 := kBB BK238 hb
                  replace HB := bS HB hb
                  clear hb
                  refine hK.out _ _ ⟨bc BK238 0, bc BK238 1, bc BK238 2, bc BK238 3, bc BK232 0, bc BK232 1, bc BK232 2, bc BK232 3, bc BK233 0, bc BK233 1, bc BK233 2, bc BK233 3⟩ (fun hHeld => ?_)
                  clear hK K
                  refine nm (some 132) ?_
                  refine pu 11 (some 133) (fl 32 4095) HT_ ?_
                  refine pu 12 (some 134) (fl 32 8191) HT_ ?_
                  refine pu 13 (some 135) (fl 32 16383) HT_ ?_
                  refine pu 14 (some 136) (fl 32 32767) HT_ ?_
                  refine pu 15 (some 137) (fl 32 65535) HT_ ?_
                  refine pv 16 (some 138) (fl 32 131071) HT_ ?_
                  refine pv 17 (some 139) (fl 32 262143) HT_ ?_
                  refine pv 18 (some 140) (fl 32 524287) HT_ ?_
                  refine pv 19 (some 141) (fl 32 1048575) HT_ ?_
                  refine pv 20 (some 142) (fl 32 2097151) HT_ ?_
                  refine pv 21 (some 143) (fl 32 4194303) HT_ ?_
                  refine pv 22 (some 144) (fl 32 8388607) HT_ ?_
                  refine pu 23 (some 145) (fl 32 16777215) HT_ ?_
                  refine pu 24 (some 146) (fl 32 33554431) HT_ ?_
                  refine pv 25 (some 147) (fl 32 67108863) HT_ ?_
                  refine pv 26 (some 148) (fl 32 134217727) HT_ ?_
                  refine pv 27 (some 149) (fl 32 268435455) HT_ ?_
                  refine pv 28 (some 150) (fl 32 536870911) HT_ ?_
                  refine pv 29 (some 151) (fl 32 1073741823) HT_ ?_
                  refine pu 30 (some 152) (fl 32 2147483647) HT_ ?_
                  refine pu 31 (some 2) (fl 32 4294967295) HT_ ?_
                  refine done_ (done_of HT_.out (by kernel_rfl)) ?_
                  try go_wp2
                  go_ret
                  exact ⟨qE, qL HB⟩
              replace c216 := Bool.eq_false_iff.mpr c216
              subst c216
              replace H := qU H
              obtain rfl := Option.some.inj H
              try go_wp2
              replace BK232 := az (blk_drew BK232.out)
              replace BK233 := az (blk_drew BK233.out)
              replace BK238 := az (blk_drew BK238.out)
              replace HB := az (below_drew1 HB.out)
              refine start_ (n := 32) (S := fun w' => w'.cell? ⟨gb238, 0, none⟩ = some (.int .i64 t234) ∧ w'.cell? ⟨gb238, 1, none⟩ = some (.int .i64 t235) ∧ w'.cell? ⟨gb238, 2, none⟩ = some (.int .i64 t236) ∧ w'.cell? ⟨gb238, 3, none⟩ = some (.int .i64 t237) ∧ w'.cell? ⟨gb232, 0, none⟩ = some (.int .i64 t224) ∧ w'.cell? ⟨gb232, 1, none⟩ = some (.int .i64 t225) ∧ w'.cell? ⟨gb232, 2, none⟩ = some (.int .i64 t226) ∧ w'.cell? ⟨gb232, 3, none⟩ = some (.int .i64 t227) ∧ w'.cell? ⟨gb233, 0, none⟩ = some (.int .i64 t228) ∧ w'.cell? ⟨gb233, 1, none⟩ = some (.int .i64 t229) ∧ w'.cell? ⟨gb233, 2, none⟩ = some (.int .i64 t230) ∧ w'.cell? ⟨gb233, 3, none⟩ = some (.int .i64 t231)) (ds := []) #[false, false, false, false, false, false, false, false, false, false, false, false, false, false, false, false, false, false, false, false, false, false, false, false, false, false, false, false, false, false, false, false] (by kernel_rfl) rfl rfl ⟨bc BK238 0, bc BK238 1, bc BK238 2, bc BK238 3, bc BK232 0, bc BK232 1, bc BK232 2, bc BK232 3, bc BK233 0, bc BK233 1, bc BK233 2, bc BK233 3⟩ (fun hHeld => ?_); refine with_tabW laws_FnBoxBoth.tab8 laws_FnBoxBoth.bits8 (fun HT_ HW_ => ?_)
              generalize wc.drew = w236 at BK232 BK233 BK238 HB hHeld ⊢
              refine tk12 0 (some 122) (fl 32 1) HT_ HW_ hHeld ?_
              refine on 1 (some 123) (fl 32 3) HT_ (fun K hK => ?_)
              refine go1 Try.func16 #[.agg #[.int .i64 t234, .int .i64 t235, .int .i64 t236, .int .i64 t237]] ?_
              with_reducible refine (impl_BoxOk.calls t234 t235 t236 t237 true _ A211.out).mono ?_
              rintro e w237 ⟨rfl, hb⟩
              refine ⟨_, rfl, ?_⟩
              replace BK232 := kBB BK232 hb
              replace BK233 := kBB BK233 hb
              replace BK238 := kBB BK238 hb
              replace HB := bS HB hb
              clear hb
              refine hK.out _ _ ⟨bc BK238 0, bc BK238 1, bc BK238 2, bc BK238 3, bc BK232 0, bc BK232 1, bc BK232 2, bc BK232 3, bc BK233 0, bc BK233 1, bc BK233 2, bc BK233 3⟩ (fun hHeld => ?_)
              clear hK K
              refine nm (some 123) ?_
              refine pu 2 (some 124) (fl 32 7) HT_ ?_
              refine tk12 3 (some 125) (fl 32 15) HT_ HW_ hHeld ?_
              refine tk12 4 (some 126) (fl 32 31) HT_ HW_ hHeld ?_
              refine on 5 (some 127) (fl 32 63) HT_ (fun K hK => ?_)
              refine go1 Try.func17 #[.agg #[.int .i64 t234, .int .i64 t235, .int .i64 t236, .int .i64 t237], .agg #[.int .i64 t224, .int .i64 t225, .int .i64 t226, .int .i64 t227]] ?_
              with_reducible refine (impl_BoxHas.calls t234 t235 t236 t237 t224 t225 t226 t227 true _ A213.out).mono ?_
              rintro e w238 ⟨rfl, hb⟩
              refine ⟨_, rfl, ?_⟩
              replace BK232 := kBB BK232 hb
              replace BK233 := kBB BK233 hb
              replace BK238 := kBB BK238 hb
              replace HB := bS HB hb
              clear hb
              refine hK.out _ _ ⟨bc BK238 0, bc BK238 1, bc BK238 2, bc BK238 3, bc BK232 0, bc BK232 1, bc BK232 2, bc BK232 3, bc BK233 0, bc BK233 1, bc BK233 2, bc BK233 3⟩ (fun hHeld => ?_)
              clear hK K
              refine nm (some 127) ?_
              refine pu 6 (some 128) (fl 32 127) HT_ ?_
              refine pu 7 (some 129) (fl 32 255) HT_ ?_
              refine tk12 8 (some 130) (fl 32 511) HT_ HW_ hHeld ?_
              refine tk12 9 (some 131) (fl 32 1023) HT_ HW_ hHeld ?_
              refine on 10 (some 132) (fl 32 2047) HT_ (fun K hK => ?_)
              refine go1 Try.func17 #[.agg #[.int .i64 t234, .int .i64 t235, .int .i64 t236, .int .i64 t237], .agg #[.int .i64 t228, .int .i64 t229, .int .i64 t230, .int .i64 t231]] ?_
              with_reducible refine (impl_BoxHas.calls t234 t235 t236 t237 t228 t229 t230 t231 false _ A215.out).mono ?_
              rintro e w239 ⟨rfl, hb⟩
              refine ⟨_, rfl, ?_⟩
              replace BK232 := kBB BK232 hb
              replace BK233 := kBB BK233 hb
              replace BK238 := kBB BK238 hb
              replace HB := bS HB hb
              clear hb
              refine hK.out _ _ ⟨bc BK238 0, bc BK238 1, bc BK238 2, bc BK238 3, bc BK232 0, bc BK232 1, bc BK232 2, bc BK232 3, bc BK233 0, bc BK233 1, bc BK233 2, bc BK233 3⟩ (fun hHeld => ?_)
              clear hK K
              refine nm (some 132) ?_
              refine pu 11 (some 133) (fl 32 4095) HT_ ?_
              refine pu 12 (some 134) (fl 32 8191) HT_ ?_
              refine pv 13 (some 135) (fl 32 16383) HT_ ?_
              refine pu 14 (some 136) (fl 32 32767) HT_ ?_
              refine pu 15 (some 137) (fl 32 65535) HT_ ?_
              refine pv 16 (some 138) (fl 32 131071) HT_ ?_
              refine pv 17 (some 139) (fl 32 262143) HT_ ?_
              refine pv 18 (some 140) (fl 32 524287) HT_ ?_
              refine pv 19 (some 141) (fl 32 1048575) HT_ ?_
              refine pv 20 (some 142) (fl 32 2097151) HT_ ?_
              refine pv 21 (some 143) (fl 32 4194303) HT_ ?_
              refine pv 22 (some 144) (fl 32 8388607) HT_ ?_
              refine pu 23 (some 145) (fl 32 16777215) HT_ ?_
              refine pu 24 (some 146) (fl 32 33554431) HT_ ?_
              refine pv 25 (some 147) (fl 32 67108863) HT_ ?_
              refine pv 26 (some 148) (fl 32 134217727) HT_ ?_
              refine pv 27 (some 149) (fl 32 268435455) HT_ ?_
              refine pv 28 (some 150) (fl 32 536870911) HT_ ?_
              refine pv 29 (some 151) (fl 32 1073741823) HT_ ?_
              refine pu 30 (some 152) (fl 32 2147483647) HT_ ?_
              refine pu 31 (some 2) (fl 32 4294967295) HT_ ?_
              refine done_ (done_of HT_.out (by kernel_rfl)) ?_
              try go_wp2
              go_ret
              exact ⟨qE, qL HB⟩
          replace c214 := Bool.eq_false_iff.mpr c214
          subst c214
          replace H := qU H
          obtain rfl := Option.some.inj H
          try go_wp2
          replace BK232 := az (blk_drew BK232.out)
          replace BK233 := az (blk_drew BK233.out)
          replace BK238 := az (blk_drew BK238.out)
          replace HB := az (below_drew1 HB.out)
          refine start_ (n := 32) (S := fun w' => w'.cell? ⟨gb238, 0, none⟩ = some (.int .i64 t234) ∧ w'.cell? ⟨gb238, 1, none⟩ = some (.int .i64 t235) ∧ w'.cell? ⟨gb238, 2, none⟩ = some (.int .i64 t236) ∧ w'.cell? ⟨gb238, 3, none⟩ = some (.int .i64 t237) ∧ w'.cell? ⟨gb232, 0, none⟩ = some (.int .i64 t224) ∧ w'.cell? ⟨gb232, 1, none⟩ = some (.int .i64 t225) ∧ w'.cell? ⟨gb232, 2, none⟩ = some (.int .i64 t226) ∧ w'.cell? ⟨gb232, 3, none⟩ = some (.int .i64 t227)) (ds := []) #[false, false, false, false, false, false, false, false, false, false, false, false, false, false, false, false, false, false, false, false, false, false, false, false, false, false, false, false, false, false, false, false] (by kernel_rfl) rfl rfl ⟨bc BK238 0, bc BK238 1, bc BK238 2, bc BK238 3, bc BK232 0, bc BK232 1, bc BK232 2, bc BK232 3⟩ (fun hHeld => ?_); refine with_tabW laws_FnBoxBoth.tab8 laws_FnBoxBoth.bits8 (fun HT_ HW_ => ?_)
          generalize wc.drew = w240 at BK232 BK233 BK238 HB hHeld ⊢
          refine tk8 0 (some 122) (fl 32 1) HT_ HW_ hHeld ?_
          refine on 1 (some 123) (fl 32 3) HT_ (fun K hK => ?_)
          refine go1 Try.func16 #[.agg #[.int .i64 t234, .int .i64 t235, .int .i64 t236, .int .i64 t237]] ?_
          with_reducible refine (impl_BoxOk.calls t234 t235 t236 t237 true _ A211.out).mono ?_
          rintro e w241 ⟨rfl, hb⟩
          refine ⟨_, rfl, ?_⟩
          replace BK232 := kBB BK232 hb
          replace BK233 := kBB BK233 hb
          replace BK238 := kBB BK238 hb
          replace HB := bS HB hb
          clear hb
          refine hK.out _ _ ⟨bc BK238 0, bc BK238 1, bc BK238 2, bc BK238 3, bc BK232 0, bc BK232 1, bc BK232 2, bc BK232 3⟩ (fun hHeld => ?_)
          clear hK K
          refine nm (some 123) ?_
          refine pu 2 (some 124) (fl 32 7) HT_ ?_
          refine tk8 3 (some 125) (fl 32 15) HT_ HW_ hHeld ?_
          refine tk8 4 (some 126) (fl 32 31) HT_ HW_ hHeld ?_
          refine on 5 (some 127) (fl 32 63) HT_ (fun K hK => ?_)
          refine go1 Try.func17 #[.agg #[.int .i64 t234, .int .i64 t235, .int .i64 t236, .int .i64 t237], .agg #[.int .i64 t224, .int .i64 t225, .int .i64 t226, .int .i64 t227]] ?_
          with_reducible refine (impl_BoxHas.calls t234 t235 t236 t237 t224 t225 t226 t227 false _ A213.out).mono ?_
          rintro e w242 ⟨rfl, hb⟩
          refine ⟨_, rfl, ?_⟩
          replace BK232 := kBB BK232 hb
          replace BK233 := kBB BK233 hb
          replace BK238 := kBB BK238 hb
          replace HB := bS HB hb
          clear hb
          refine hK.out _ _ ⟨bc BK238 0, bc BK238 1, bc BK238 2, bc BK238 3, bc BK232 0, bc BK232 1, bc BK232 2, bc BK232 3⟩ (fun hHeld => ?_)
          clear hK K
          refine nm (some 127) ?_
          refine pu 6 (some 128) (fl 32 127) HT_ ?_
          refine pu 7 (some 129) (fl 32 255) HT_ ?_
          refine pv 8 (some 130) (fl 32 511) HT_ ?_
          refine pv 9 (some 131) (fl 32 1023) HT_ ?_
          refine pv 10 (some 132) (fl 32 2047) HT_ ?_
          refine pu 11 (some 133) (fl 32 4095) HT_ ?_
          refine pu 12 (some 134) (fl 32 8191) HT_ ?_
          refine pv 13 (some 135) (fl 32 16383) HT_ ?_
          refine pu 14 (some 136) (fl 32 32767) HT_ ?_
          refine pu 15 (some 137) (fl 32 65535) HT_ ?_
          refine pv 16 (some 138) (fl 32 131071) HT_ ?_
          refine pv 17 (some 139) (fl 32 262143) HT_ ?_
          refine pv 18 (some 140) (fl 32 524287) HT_ ?_
          refine pv 19 (some 141) (fl 32 1048575) HT_ ?_
          refine pv 20 (some 142) (fl 32 2097151) HT_ ?_
          refine pv 21 (some 143) (fl 32 4194303) HT_ ?_
          refine pv 22 (some 144) (fl 32 8388607) HT_ ?_
          refine pu 23 (some 145) (fl 32 16777215) HT_ ?_
          refine pu 24 (some 146) (fl 32 33554431) HT_ ?_
          refine pv 25 (some 147) (fl 32 67108863) HT_ ?_
          refine pv 26 (some 148) (fl 32 134217727) HT_ ?_
          refine pv 27 (some 149) (fl 32 268435455) HT_ ?_
          refine pv 28 (some 150) (fl 32 536870911) HT_ ?_
          refine pv 29 (some 151) (fl 32 1073741823) HT_ ?_
          refine pu 30 (some 152) (fl 32 2147483647) HT_ ?_
          refine pu 31 (some 2) (fl 32 4294967295) HT_ ?_
          refine done_ (done_of HT_.out (by kernel_rfl)) ?_
          try go_wp2
          go_ret
          exact ⟨qE, qL HB⟩
      replace c212 := Bool.eq_false_iff.mpr c212
      subst c212
      replace H := qU H
      obtain rfl := Option.some.inj H
      try go_wp2
      replace BK232 := az (blk_drew BK232.out)
      replace BK233 := az (blk_drew BK233.out)
      replace BK238 := az (blk_drew BK238.out)
      replace HB := az (below_drew1 HB.out)
      refine start_ (n := 32) (S := fun w' => w'.cell? ⟨gb238, 0, none⟩ = some (.int .i64 t234) ∧ w'.cell? ⟨gb238, 1, none⟩ = some (.int .i64 t235) ∧ w'.cell? ⟨gb238, 2, none⟩ = some (.int .i64 t236) ∧ w'.cell? ⟨gb238, 3, none⟩ = some (.int .i64 t237)) (ds := []) #[false, false, false, false, false, false, false, false, false, false, false, false, false, false, false, false, false, false, false, false, false, false, false, false, false, false, false, false, false, false, false, false] (by kernel_rfl) rfl rfl ⟨bc BK238 0, bc BK238 1, bc BK238 2, bc BK238 3⟩ (fun hHeld => ?_); refine with_tabW laws_FnBoxBoth.tab8 laws_FnBoxBoth.bits8 (fun HT_ HW_ => ?_)
      generalize wc.drew = w243 at BK232 BK233 BK238 HB hHeld ⊢
      refine tk4 0 (some 122) (fl 32 1) HT_ HW_ hHeld ?_
      refine on 1 (some 123) (fl 32 3) HT_ (fun K hK => ?_)
      refine go1 Try.func16 #[.agg #[.int .i64 t234, .int .i64 t235, .int .i64 t236, .int .i64 t237]] ?_
      with_reducible refine (impl_BoxOk.calls t234 t235 t236 t237 false _ A211.out).mono ?_
      rintro e w244 ⟨rfl, hb⟩
      refine ⟨_, rfl, ?_⟩
      replace BK232 := kBB BK232 hb
      replace BK233 := kBB BK233 hb
      replace BK238 := kBB BK238 hb
      replace HB := bS HB hb
      clear hb
      refine hK.out _ _ ⟨bc BK238 0, bc BK238 1, bc BK238 2, bc BK238 3⟩ (fun hHeld => ?_)
      clear hK K
      refine nm (some 123) ?_
      refine pu 2 (some 124) (fl 32 7) HT_ ?_
      refine pv 3 (some 125) (fl 32 15) HT_ ?_
      refine pv 4 (some 126) (fl 32 31) HT_ ?_
      refine pv 5 (some 127) (fl 32 63) HT_ ?_
      refine pu 6 (some 128) (fl 32 127) HT_ ?_
      refine pu 7 (some 129) (fl 32 255) HT_ ?_
      refine pv 8 (some 130) (fl 32 511) HT_ ?_
      refine pv 9 (some 131) (fl 32 1023) HT_ ?_
      refine pv 10 (some 132) (fl 32 2047) HT_ ?_
      refine pu 11 (some 133) (fl 32 4095) HT_ ?_
      refine pu 12 (some 134) (fl 32 8191) HT_ ?_
      refine pv 13 (some 135) (fl 32 16383) HT_ ?_
      refine pu 14 (some 136) (fl 32 32767) HT_ ?_
      refine pu 15 (some 137) (fl 32 65535) HT_ ?_
      refine pv 16 (some 138) (fl 32 131071) HT_ ?_
      refine pv 17 (some 139) (fl 32 262143) HT_ ?_
      refine pv 18 (some 140) (fl 32 524287) HT_ ?_
      refine pv 19 (some 141) (fl 32 1048575) HT_ ?_
      refine pv 20 (some 142) (fl 32 2097151) HT_ ?_
      refine pv 21 (some 143) (fl 32 4194303) HT_ ?_
      refine pv 22 (some 144) (fl 32 8388607) HT_ ?_
      refine pu 23 (some 145) (fl 32 16777215) HT_ ?_
      refine pu 24 (some 146) (fl 32 33554431) HT_ ?_
      refine pv 25 (some 147) (fl 32 67108863) HT_ ?_
      refine pv 26 (some 148) (fl 32 134217727) HT_ ?_
      refine pv 27 (some 149) (fl 32 268435455) HT_ ?_
      refine pv 28 (some 150) (fl 32 536870911) HT_ ?_
      refine pv 29 (some 151) (fl 32 1073741823) HT_ ?_
      refine pu 30 (some 152) (fl 32 2147483647) HT_ ?_
      refine pu 31 (some 2) (fl 32 4294967295) HT_ ?_
      refine done_ (done_of HT_.out (by kernel_rfl)) ?_
      try go_wp2
      go_ret
      exact ⟨qE, qL HB⟩

/-- THE ONE PURE STATEMENT of laws_FnBoxBoth: yours. -/
def laws_FnBoxBoth.Pure : Prop := ∀ (l0 : List Int), l0.length ≤ maxLen → l0.length * 1 ≤ 140737488351232 → (∀ x ∈ l0, (Lit.int .u8 x).wf = true) → ∃ k, laws_FnBoxBoth.f k l0 = some true
theorem laws_FnBoxBoth.walk (P : laws_FnBoxBoth.Pure) (a0 : Option Addr) (len0 cap0 : Nat) (z0 : List Int) (w : World) (w0 : (a0 = none ∧ len0 = 0 ∧ cap0 = 0 ∧ z0 = []) ∨ ∃ x, a0 = some x ∧ len0 ≤ cap0 ∧ cap0 ≤ maxLen ∧ z0.length = cap0 ∧ (∀ i, i < z0.length → w.cell? (x.add i) = some (.int .u8 (z0.getD i 0))) ∧ ∀ n ∈ z0, (Lit.int .u8 n).wf = true) (y0 : len0 * 1 ≤ 140737488351232) :
    Calls Try.prog 3 #[.slice a0 len0 cap0] w fun e w' => e = .returned (.bool true) ∧ Below w.heap.size w w' := by
  obtain ⟨l0, rfl, hr0, hm0, hw0, hc0⟩ := ReadsInt.ofRowC w0
  obtain ⟨k, h⟩ := P l0 hm0 y0 hw0
  refine (laws_FnBoxBoth.calls k _ _ l0 true w (Kd.C_of_reads (d := (0 : Int)) (h1 := fun _ => rfl) hr0) hc0 h).mono ?_
  rintro e w' ⟨rfl, hd⟩
  exact ⟨rfl, hd⟩
end Go.Proofs.Ytihajbjkjclmoaa.PBig
