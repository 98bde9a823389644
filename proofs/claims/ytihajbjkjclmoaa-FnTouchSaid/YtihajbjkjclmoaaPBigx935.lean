/- What these functions compute, each walked once: laws_FnTouch; for all arguments and worlds, under the conditions that each theorem names. -/
import Derived.Test.YtihajbjkjclmoaaSq
import Derived.Test.YtihajbjkjclmoaaPBigx900
import Derived.Test.YtihajbjkjclmoaaPBigx926
import Derived.Test.YtihajbjkjclmoaaPBigx930
import Derived.Test.YtihajbjkjclmoaaPBigx932
import Derived.Test.YtihajbjkjclmoaaPBigx934
namespace Go.Proofs.Ytihajbjkjclmoaa.PBig
open Go.RowKit Go.Proofs.YtihajbjkjclmoaaW.PrintWords Go.Proofs.YtihajbjkjclmoaaW.PrintLast Go.Proofs.YtihajbjkjclmoaaW.PrintMore
attribute [local go_sem] max2_int min2_int max_two min_two max_three min_three max_four min_four   -- for this text's walks alone
set_option linter.unusedVariables false
set_option linter.unusedSimpArgs false

attribute [local go_sem high] eqA56
/-! ### laws_FnTouch: function 10 -/
def laws_FnTouch.j0 : Nat → Bool → Bool → Bool → Bool → Int → Int → Int → Int → Int → Int → Int → Int → Int → Int → Int → Int → Int → Int → Int → Int → Int → Int → Int → Option (Bool)
  | 0, _, _, _, _, _, _, _, _, _, _, _, _, _, _, _, _, _, _, _, _, _, _, _ => none
  | k + 1, x8, x10, x12, x64, x1243000, x1243001, x1243002, x1244000, x1244001, x1245000, x1245001, x1245002, x1246000, x1246001, x1251000, x1251001, x1251002, x1256000, x1256001, x1256002, x1261000, x1261001, x1261002 => if x64 = true then (if (x8 == x10) = true then (if ((x1251000 == x1256000 && (x1251001 == x1256001)) && (x1251002 == x1256002)) = true then (some (x12 == x8)) else (some false)) else (some false)) else (if x1261002 = x1251002 then (if x1251002 ≥ 0 then ((impl_ShapeBounds.f x1243000 x1243001 x1243002 x1244000 x1244001).bind fun bt1261 => ((impl_ShapeBounds.f x1245000 x1245001 x1245002 x1246000 x1246001).bind fun bt1265 => ((impl_BoxMeets.f bt1261.1 bt1261.2.1 bt1261.2.2.1 bt1261.2.2.2 bt1265.1 bt1265.2.1 bt1265.2.2.1 bt1265.2.2.2).bind fun t1269 => (if t1269 = true then (if (wrap64 ((wrap64 (x1251000 * x1251000)) + (wrap64 (x1251001 * x1251001)))) ≤ 131769 then (some (decide ((wrap64 ((wrap64 (x1251000 * x1251000)) + (wrap64 (x1251001 * x1251001)))) ≥ 62500))) else (some false)) else (some false))))) else (some false)) else (some false))
def laws_FnTouch.f (k : Nat) (l0 : List Int) : Option (Bool) := if (l0.length : Int) > 1048576 then (some true) else ((spec_DrawTouch.f k l0).bind fun bt1232 => ((impl_Touch.f k bt1232.1 bt1232.2.1 bt1232.2.2.1 bt1232.2.2.2.1 bt1232.2.2.2.2.1 bt1232.2.2.2.2.2.1 bt1232.2.2.2.2.2.2.1 bt1232.2.2.2.2.2.2.2.1 bt1232.2.2.2.2.2.2.2.2.1 bt1232.2.2.2.2.2.2.2.2.2).bind fun bt1246 => ((spec_Touch.f k bt1232.1 bt1232.2.1 bt1232.2.2.1 bt1232.2.2.2.1 bt1232.2.2.2.2.1 bt1232.2.2.2.2.2.1 bt1232.2.2.2.2.2.2.1 bt1232.2.2.2.2.2.2.2.1 bt1232.2.2.2.2.2.2.2.2.1 bt1232.2.2.2.2.2.2.2.2.2).bind fun bt1251 => ((impl_Touch.f k bt1232.2.2.2.2.2.1 bt1232.2.2.2.2.2.2.1 bt1232.2.2.2.2.2.2.2.1 bt1232.2.2.2.2.2.2.2.2.1 bt1232.2.2.2.2.2.2.2.2.2 bt1232.1 bt1232.2.1 bt1232.2.2.1 bt1232.2.2.2.1 bt1232.2.2.2.2.1).bind fun bt1256 => (if (bt1246.2.2.2 != bt1251.2.2.2) = true then (laws_FnTouch.j0 k bt1246.2.2.2 bt1251.2.2.2 bt1256.2.2.2 true bt1232.1 bt1232.2.1 bt1232.2.2.1 bt1232.2.2.2.1 bt1232.2.2.2.2.1 bt1232.2.2.2.2.2.1 bt1232.2.2.2.2.2.2.1 bt1232.2.2.2.2.2.2.2.1 bt1232.2.2.2.2.2.2.2.2.1 bt1232.2.2.2.2.2.2.2.2.2 bt1246.1 bt1246.2.1 bt1246.2.2.1 bt1251.1 bt1251.2.1 bt1251.2.2.1 bt1256.1 bt1256.2.1 bt1256.2.2.1) else (if ((!(bt1246.1 == bt1251.1) || (!(bt1246.2.1 == bt1251.2.1))) || (!(bt1246.2.2.1 == bt1251.2.2.1))) = true then (laws_FnTouch.j0 k bt1246.2.2.2 bt1251.2.2.2 bt1256.2.2.2 true bt1232.1 bt1232.2.1 bt1232.2.2.1 bt1232.2.2.2.1 bt1232.2.2.2.2.1 bt1232.2.2.2.2.2.1 bt1232.2.2.2.2.2.2.1 bt1232.2.2.2.2.2.2.2.1 bt1232.2.2.2.2.2.2.2.2.1 bt1232.2.2.2.2.2.2.2.2.2 bt1246.1 bt1246.2.1 bt1246.2.2.1 bt1251.1 bt1251.2.1 bt1251.2.2.1 bt1256.1 bt1256.2.1 bt1256.2.2.1) else (if (bt1256.2.2.2 != bt1246.2.2.2) = true then (laws_FnTouch.j0 k bt1246.2.2.2 bt1251.2.2.2 bt1256.2.2.2 true bt1232.1 bt1232.2.1 bt1232.2.2.1 bt1232.2.2.2.1 bt1232.2.2.2.2.1 bt1232.2.2.2.2.2.1 bt1232.2.2.2.2.2.2.1 bt1232.2.2.2.2.2.2.2.1 bt1232.2.2.2.2.2.2.2.2.1 bt1232.2.2.2.2.2.2.2.2.2 bt1246.1 bt1246.2.1 bt1246.2.2.1 bt1251.1 bt1251.2.1 bt1251.2.2.1 bt1256.1 bt1256.2.1 bt1256.2.2.1) else (laws_FnTouch.j0 k bt1246.2.2.2 bt1251.2.2.2 bt1256.2.2.2 (!bt1246.2.2.2) bt1232.1 bt1232.2.1 bt1232.2.2.1 bt1232.2.2.2.1 bt1232.2.2.2.2.1 bt1232.2.2.2.2.2.1 bt1232.2.2.2.2.2.2.1 bt1232.2.2.2.2.2.2.2.1 bt1232.2.2.2.2.2.2.2.2.1 bt1232.2.2.2.2.2.2.2.2.2 bt1246.1 bt1246.2.1 bt1246.2.2.1 bt1251.1 bt1251.2.1 bt1251.2.2.1 bt1256.1 bt1256.2.1 bt1256.2.2.1))))))))
theorem laws_FnTouch.mono_l : ∀ k, (∀ y0 y1 y2 y3 y4 y5 y6 y7 y8 y9 y10 y11 y12 y13 y14 y15 y16 y17 y18 y19 y20 y21 y22, LeO (laws_FnTouch.j0 k y0 y1 y2 y3 y4 y5 y6 y7 y8 y9 y10 y11 y12 y13 y14 y15 y16 y17 y18 y19 y20 y21 y22) (laws_FnTouch.j0 (k + 1) y0 y1 y2 y3 y4 y5 y6 y7 y8 y9 y10 y11 y12 y13 y14 y15 y16 y17 y18 y19 y20 y21 y22))
  | 0 => fun _ _ _ _ _ _ _ _ _ _ _ _ _ _ _ _ _ _ _ _ _ _ _ r h => by simp [laws_FnTouch.j0] at h
  | k + 1 => by
    have ih0 := laws_FnTouch.mono_l k
    · intro y0 y1 y2 y3 y4 y5 y6 y7 y8 y9 y10 y11 y12 y13 y14 y15 y16 y17 y18 y19 y20 y21 y22
      unfold laws_FnTouch.j0
      repeat' first
      | (with_reducible exact ih0 _ _ _ _ _ _ _ _ _ _ _ _ _ _ _ _ _ _ _ _ _ _ _)
      | (with_reducible exact impl_Touch.mono _ _ _ _ _ _ _ _ _ _ _)
      | (with_reducible exact spec_DrawTouch.mono _ _)
      | (with_reducible exact spec_Touch.mono _ _ _ _ _ _ _ _ _ _ _)
      | (with_reducible exact LeO.refl _)
      | (with_reducible exact LeO.none _)
      | (with_reducible refine LeO.ite ?_ ?_)
      | (with_reducible refine LeO.bind ?_ (fun _ => ?_))
theorem laws_FnTouch.mono : ∀ a0 k, LeO (laws_FnTouch.f k a0) (laws_FnTouch.f (k + 1) a0) := by
  intro a0 k
  have ih0 := laws_FnTouch.mono_l k
  unfold laws_FnTouch.f
  repeat' first
      | (with_reducible exact ih0 _ _ _ _ _ _ _ _ _ _ _ _ _ _ _ _ _ _ _ _ _ _ _)
      | (with_reducible exact impl_Touch.mono _ _ _ _ _ _ _ _ _ _ _)
      | (with_reducible exact spec_DrawTouch.mono _ _)
      | (with_reducible exact spec_Touch.mono _ _ _ _ _ _ _ _ _ _ _)
      | (with_reducible exact LeO.refl _)
      | (with_reducible exact LeO.none _)
      | (with_reducible refine LeO.ite ?_ ?_)
      | (with_reducible refine LeO.bind ?_ (fun _ => ?_))
def laws_FnTouch.T10 : Bool × List (List Nat × List Nat) := (true, [([], []), ([0], [0]), ([], []), ([2], [2]), ([1, 3], [1, 3]), ([4], [4]), ([5], [5]), ([6, 5], [5, 6]), ([7, 5], [5, 7]), ([5, 8], [5, 8]), ([9, 5], [9]), ([10], [10]), ([10], [10]), ([11, 12, 10, 10], [10, 11, 12]), ([10], [10]), ([10], [10]), ([14, 15, 13, 10], [10, 14, 15]), ([13, 16, 16, 10], [10, 13, 16]), ([10, 17], [10, 17]), ([18, 17], [18]), ([19], [19]), ([20, 19], [19, 20]), ([19, 21], [19, 21]), ([22, 19], [22]), ([23], [23]), ([24, 23], [23, 24]), ([23, 25], [23, 25]), ([26, 23, 0, 1, 2, 3, 4, 5, 6, 7, 8, 9, 10, 11, 12, 13, 14, 15, 16, 17, 18, 19, 20, 21, 22, 23, 24, 25, 26], [26])])
def laws_FnTouch.B10 : List Nat := [0, 1, 0, 4, 15, 31, 63, 127, 255, 511, 1023, 2047, 2047, 8191, 2047, 2047, 65535, 131071, 262143, 524287, 1048575, 2097151, 4194303, 8388607, 16777215, 33554431, 67108863, 134217727]
theorem laws_FnTouch.tab10 : rtab .any (opsOf Try.f10 10) = laws_FnTouch.T10 := by kernel_rfl
theorem laws_FnTouch.bits10 : waitsOk laws_FnTouch.T10.2 laws_FnTouch.B10 = true := by kernel_rfl
set_option maxHeartbeats 8000000 in
set_option maxRecDepth 100000 in
theorem laws_FnTouch.calls (k : Nat) (A0 : Option Addr) (c0 : Nat) (l0 : List Int) (r : Bool) (w : World) (hr0 : Kd.C (Kd.int .u8) w A0 l0.length l0) (hc0 : l0.length ≤ c0) (h : laws_FnTouch.f k l0 = some r) :
    Calls Try.prog 10 #[.slice A0 l0.length c0] w fun e w' => e = .returned (.bool r) ∧ Below w.heap.size w w' := by
  have hu38 := Try.underlying38
  have hu24 := Try.underlying24
  have hu56 := Try.underlying56
  have HR0 := az hr0
  have HC0 := az hc0
  clear hr0 hc0
  have HB := az (Below.refl w.heap.size w)
  have H : (if (l0.length : Int) > 1048576 then (some true) else ((spec_DrawTouch.f k l0).bind fun bt1232 => ((impl_Touch.f k bt1232.1 bt1232.2.1 bt1232.2.2.1 bt1232.2.2.2.1 bt1232.2.2.2.2.1 bt1232.2.2.2.2.2.1 bt1232.2.2.2.2.2.2.1 bt1232.2.2.2.2.2.2.2.1 bt1232.2.2.2.2.2.2.2.2.1 bt1232.2.2.2.2.2.2.2.2.2).bind fun bt1246 => ((spec_Touch.f k bt1232.1 bt1232.2.1 bt1232.2.2.1 bt1232.2.2.2.1 bt1232.2.2.2.2.1 bt1232.2.2.2.2.2.1 bt1232.2.2.2.2.2.2.1 bt1232.2.2.2.2.2.2.2.1 bt1232.2.2.2.2.2.2.2.2.1 bt1232.2.2.2.2.2.2.2.2.2).bind fun bt1251 => ((impl_Touch.f k bt1232.2.2.2.2.2.1 bt1232.2.2.2.2.2.2.1 bt1232.2.2.2.2.2.2.2.1 bt1232.2.2.2.2.2.2.2.2.1 bt1232.2.2.2.2.2.2.2.2.2 bt1232.1 bt1232.2.1 bt1232.2.2.1 bt1232.2.2.2.1 bt1232.2.2.2.2.1).bind fun bt1256 => (if (bt1246.2.2.2 != bt1251.2.2.2) = true then (laws_FnTouch.j0 k bt1246.2.2.2 bt1251.2.2.2 bt1256.2.2.2 true bt1232.1 bt1232.2.1 bt1232.2.2.1 bt1232.2.2.2.1 bt1232.2.2.2.2.1 bt1232.2.2.2.2.2.1 bt1232.2.2.2.2.2.2.1 bt1232.2.2.2.2.2.2.2.1 bt1232.2.2.2.2.2.2.2.2.1 bt1232.2.2.2.2.2.2.2.2.2 bt1246.1 bt1246.2.1 bt1246.2.2.1 bt1251.1 bt1251.2.1 bt1251.2.2.1 bt1256.1 bt1256.2.1 bt1256.2.2.1) else (if ((!(bt1246.1 == bt1251.1) || (!(bt1246.2.1 == bt1251.2.1))) || (!(bt1246.2.2.1 == bt1251.2.2.1))) = true then (laws_FnTouch.j0 k bt1246.2.2.2 bt1251.2.2.2 bt1256.2.2.2 true bt1232.1 bt1232.2.1 bt1232.2.2.1 bt1232.2.2.2.1 bt1232.2.2.2.2.1 bt1232.2.2.2.2.2.1 bt1232.2.2.2.2.2.2.1 bt1232.2.2.2.2.2.2.2.1 bt1232.2.2.2.2.2.2.2.2.1 bt1232.2.2.2.2.2.2.2.2.2 bt1246.1 bt1246.2.1 bt1246.2.2.1 bt1251.1 bt1251.2.1 bt1251.2.2.1 bt1256.1 bt1256.2.1 bt1256.2.2.1) else (if (bt1256.2.2.2 != bt1246.2.2.2) = true then (laws_FnTouch.j0 k bt1246.2.2.2 bt1251.2.2.2 bt1256.2.2.2 true bt1232.1 bt1232.2.1 bt1232.2.2.1 bt1232.2.2.2.1 bt1232.2.2.2.2.1 bt1232.2.2.2.2.2.1 bt1232.2.2.2.2.2.2.1 bt1232.2.2.2.2.2.2.2.1 bt1232.2.2.2.2.2.2.2.2.1 bt1232.2.2.2.2.2.2.2.2.2 bt1246.1 bt1246.2.1 bt1246.2.2.1 bt1251.1 bt1251.2.1 bt1251.2.2.1 bt1256.1 bt1256.2.1 bt1256.2.2.1) else (laws_FnTouch.j0 k bt1246.2.2.2 bt1251.2.2.2 bt1256.2.2.2 (!bt1246.2.2.2) bt1232.1 bt1232.2.1 bt1232.2.2.1 bt1232.2.2.2.1 bt1232.2.2.2.2.1 bt1232.2.2.2.2.2.1 bt1232.2.2.2.2.2.2.1 bt1232.2.2.2.2.2.2.2.1 bt1232.2.2.2.2.2.2.2.2.1 bt1232.2.2.2.2.2.2.2.2.2 bt1246.1 bt1246.2.1 bt1246.2.2.1 bt1251.1 bt1251.2.1 bt1251.2.2.1 bt1256.1 bt1256.2.1 bt1256.2.2.1))))))))) = some r := h
  clear h
  by_cases c2 : (l0.length : Int) > 1048576
  · rw [if_pos c2] at H
    have c2b0 : decide (1048576 < (l0.length : Int)) = true := decide_eq_true c2
    have c2b1 : decide (1048576 < l0.length) = true := decide_eq_true (by omega)
    clear c2
    obtain rfl := Option.some.inj H
    go_enter Try.func10, Try.ntmps10
    go_wp2
    go_ret
    exact ⟨qE, qL HB⟩
  rw [if_neg c2] at H
  have c2b0 : decide (1048576 < (l0.length : Int)) = false := decide_eq_false c2
  have c2b1 : decide (1048576 < l0.length) = false := decide_eq_false (by omega)
  clear c2
  replace H := qH H
  obtain ⟨⟨t1232, t1233, t1234, t1235, t1236, t1237, t1238, t1239, t1240, t1241⟩, A3, H⟩ := H
  try dsimp only at H
  replace H := qH H
  obtain ⟨⟨t1246, t1247, t1248, t1249⟩, A4, H⟩ := H
  try dsimp only at H
  replace H := qH H
  obtain ⟨⟨t1251, t1252, t1253, t1254⟩, A5, H⟩ := H
  try dsimp only at H
  replace H := qH H
  obtain ⟨⟨t1256, t1257, t1258, t1259⟩, A6, H⟩ := H
  try dsimp only at H
  have HC7 := az H
  clear H
  go_enter Try.func10, Try.ntmps10
  go_upto_region 7 with (first | ((with_reducible refine gate_callee (f := 37) rfl ?_); refine gl (some 19) Try.func37 #[.slice A0 l0.length c0] ?_; (with_reducible refine (spec_DrawTouch.calls k _ _ l0 t1232 t1233 t1234 t1235 t1236 t1237 t1238 t1239 t1240 t1241 _ ?side1 ?side2 A3.out).mono ?_); (case side1 => repeat (first | exact HR0.out | (with_reducible refine Kd.C_alloc ?_ _) | (with_reducible refine Kd.C_drewN ?_ _) | (with_reducible refine Kd.C_drew ?_))); (case side2 => exact HC0.out); rintro e w8 ⟨rfl, hb⟩; refine ⟨_, rfl, ?_⟩; replace HB := bS HB hb; clear hb) | ((with_reducible refine gate_dst (N := 3) rfl ?_); refine bx (N := 3) (cs := #[.int .i64 0, .int .i64 0, .int .i64 0]) (t := 38) ?_; intro gb1242 hg w9 hbox hb; have BK1242 := az hbox; have GW1242 := az ((gE hg (qL HB) : w.heap.size ≤ gb1242)); have GE1242 := GW1242; replace HB := bS HB hb; clear hb hbox hg) | ((with_reducible refine gate_dst (N := 4) rfl ?_); refine bx (N := 4) (cs := #[.int .i64 0, .int .i64 0]) (t := 24) ?_; intro gb1243 hg w10 hbox hb; have BK1243 := az hbox; have GW1243 := az ((gE hg (qL HB) : w.heap.size ≤ gb1243)); have GE1243 := GW1243; obtain ⟨NB1242_1243, NB1243_1242⟩ := nPB BK1242 hg; replace BK1242 := kBB BK1242 hb; replace HB := bS HB hb; clear hb hbox hg) | ((with_reducible refine gate_dst (N := 5) rfl ?_); refine bx (N := 5) (cs := #[.int .i64 0, .int .i64 0, .int .i64 0]) (t := 38) ?_; intro gb1244 hg w11 hbox hb; have BK1244 := az hbox; have GW1244 := az ((gE hg (qL HB) : w.heap.size ≤ gb1244)); have GE1244 := GW1244; obtain ⟨NB1242_1244, NB1244_1242⟩ := nPB BK1242 hg; obtain ⟨NB1243_1244, NB1244_1243⟩ := nPB BK1243 hg; replace BK1242 := kBB BK1242 hb; replace BK1243 := kBB BK1243 hb; replace HB := bS HB hb; clear hb hbox hg) | ((with_reducible refine gate_dst (N := 6) rfl ?_); refine bx (N := 6) (cs := #[.int .i64 0, .int .i64 0]) (t := 24) ?_; intro gb1245 hg w12 hbox hb; have BK1245 := az hbox; have GW1245 := az ((gE hg (qL HB) : w.heap.size ≤ gb1245)); have GE1245 := GW1245; obtain ⟨NB1242_1245, NB1245_1242⟩ := nPB BK1242 hg; obtain ⟨NB1243_1245, NB1245_1243⟩ := nPB BK1243 hg; obtain ⟨NB1244_1245, NB1245_1244⟩ := nPB BK1244 hg; replace BK1242 := kBB BK1242 hb; replace BK1243 := kBB BK1243 hb; replace BK1244 := kBB BK1244 hb; replace HB := bS HB hb; clear hb hbox hg; have hnb13 := NB1242_1243.out; have hnc13 := NB1243_1242.out; have hnb14 := NB1242_1244.out; have hnc14 := NB1244_1242.out; have hnb15 := NB1242_1245.out; have hnc15 := NB1245_1242.out; obtain ⟨hcz16_0, hcz16_1, hcz16_2⟩ := cz3 BK1242.out; obtain ⟨hfz16_0, hfz16_1, hfz16_2⟩ := fz3 BK1242.out; have hnb17 := NB1243_1244.out; have hnc17 := NB1244_1243.out; have hnb18 := NB1243_1245.out; have hnc18 := NB1245_1243.out; obtain ⟨hcz19_0, hcz19_1⟩ := cz2 BK1243.out; have hfz19_0 := blk_frozen BK1243.out 0; have hfz19_1 := blk_frozen BK1243.out 1; have hnb20 := NB1244_1245.out; have hnc20 := NB1245_1244.out; obtain ⟨hcz21_0, hcz21_1, hcz21_2⟩ := cz3 BK1244.out; obtain ⟨hfz21_0, hfz21_1, hfz21_2⟩ := fz3 BK1244.out; obtain ⟨hcz22_0, hcz22_1⟩ := cz2 BK1245.out; have hfz22_0 := blk_frozen BK1245.out 0; have hfz22_1 := blk_frozen BK1245.out 1) | ((with_reducible refine gate_callee (f := 35) rfl ?_); refine gl (some 29) Try.func35 #[.agg #[.int .i64 t1232, .int .i64 t1233, .int .i64 t1234], .agg #[.int .i64 t1235, .int .i64 t1236], .agg #[.int .i64 t1237, .int .i64 t1238, .int .i64 t1239], .agg #[.int .i64 t1240, .int .i64 t1241]] ?_; (with_reducible refine (impl_Touch.calls k t1232 t1233 t1234 t1235 t1236 t1237 t1238 t1239 t1240 t1241 t1246 t1247 t1248 t1249 _ A4.out).mono ?_); rintro e w23 ⟨rfl, hb⟩; refine ⟨_, rfl, ?_⟩; replace BK1242 := kBP (o' := .cells #[.int .i64 t1232, .int .i64 t1233, .int .i64 t1234] 38 (0, 0)) BK1242 hb; replace BK1243 := kBP (o' := .cells #[.int .i64 t1235, .int .i64 t1236] 24 (0, 0)) BK1243 hb; replace BK1244 := kBP (o' := .cells #[.int .i64 t1237, .int .i64 t1238, .int .i64 t1239] 38 (0, 0)) BK1244 hb; replace BK1245 := kBP (o' := .cells #[.int .i64 t1240, .int .i64 t1241] 24 (0, 0)) BK1245 hb; replace HB := bS HB hb; clear hb) | ((with_reducible refine gate_dst (N := 7) rfl ?_); refine bx (N := 7) (cs := #[.int .i64 0, .int .i64 0, .int .i64 0]) (t := 56) ?_; intro gb1250 hg w24 hbox hb; have BK1250 := az hbox; have GW1250 := az ((gE hg (qL HB) : w.heap.size ≤ gb1250)); have GE1250 := GW1250; obtain ⟨NB1242_1250, NB1250_1242⟩ := nPB BK1242 hg; obtain ⟨NB1243_1250, NB1250_1243⟩ := nPB BK1243 hg; obtain ⟨NB1244_1250, NB1250_1244⟩ := nPB BK1244 hg; obtain ⟨NB1245_1250, NB1250_1245⟩ := nPB BK1245 hg; replace BK1242 := kBB BK1242 hb; replace BK1243 := kBB BK1243 hb; replace BK1244 := kBB BK1244 hb; replace BK1245 := kBB BK1245 hb; replace HB := bS HB hb; clear hb hbox hg; have hnb25 := NB1250_1242.out; have hnc25 := NB1242_1250.out; have hnb26 := NB1250_1243.out; have hnc26 := NB1243_1250.out; have hnb27 := NB1250_1244.out; have hnc27 := NB1244_1250.out; have hnb28 := NB1250_1245.out; have hnc28 := NB1245_1250.out; obtain ⟨hcz29_0, hcz29_1, hcz29_2⟩ := cz3 BK1250.out; obtain ⟨hfz29_0, hfz29_1, hfz29_2⟩ := fz3 BK1250.out; obtain ⟨hcz30_0, hcz30_1, hcz30_2⟩ := cz3 BK1242.out; obtain ⟨hfz30_0, hfz30_1, hfz30_2⟩ := fz3 BK1242.out; obtain ⟨hcz31_0, hcz31_1⟩ := cz2 BK1243.out; have hfz31_0 := blk_frozen BK1243.out 0; have hfz31_1 := blk_frozen BK1243.out 1; obtain ⟨hcz32_0, hcz32_1, hcz32_2⟩ := cz3 BK1244.out; obtain ⟨hfz32_0, hfz32_1, hfz32_2⟩ := fz3 BK1244.out; obtain ⟨hcz33_0, hcz33_1⟩ := cz2 BK1245.out; have hfz33_0 := blk_frozen BK1245.out 0; have hfz33_1 := blk_frozen BK1245.out 1) | ((with_reducible refine gate_callee (f := 33) rfl ?_); refine gl (some 37) Try.func33 #[.agg #[.int .i64 t1232, .int .i64 t1233, .int .i64 t1234], .agg #[.int .i64 t1235, .int .i64 t1236], .agg #[.int .i64 t1237, .int .i64 t1238, .int .i64 t1239], .agg #[.int .i64 t1240, .int .i64 t1241]] ?_; (with_reducible refine (spec_Touch.calls k t1232 t1233 t1234 t1235 t1236 t1237 t1238 t1239 t1240 t1241 t1251 t1252 t1253 t1254 _ A5.out).mono ?_); rintro e w34 ⟨rfl, hb⟩; refine ⟨_, rfl, ?_⟩; replace BK1242 := kBF BK1242 hb; replace BK1243 := kBF BK1243 hb; replace BK1244 := kBF BK1244 hb; replace BK1245 := kBF BK1245 hb; replace BK1250 := kBP (o' := .cells #[.int .i64 t1246, .int .i64 t1247, .int .i64 t1248] 56 (0, 0)) BK1250 hb; replace HB := bS HB hb; clear hb) | ((with_reducible refine gate_dst (N := 9) rfl ?_); refine bx (N := 9) (cs := #[.int .i64 0, .int .i64 0, .int .i64 0]) (t := 56) ?_; intro gb1255 hg w35 hbox hb; have BK1255 := az hbox; have GW1255 := az ((gE hg (qL HB) : w.heap.size ≤ gb1255)); have GE1255 := GW1255; obtain ⟨NB1242_1255, NB1255_1242⟩ := nPB BK1242 hg; obtain ⟨NB1243_1255, NB1255_1243⟩ := nPB BK1243 hg; obtain ⟨NB1244_1255, NB1255_1244⟩ := nPB BK1244 hg; obtain ⟨NB1245_1255, NB1255_1245⟩ := nPB BK1245 hg; obtain ⟨NB1250_1255, NB1255_1250⟩ := nPB BK1250 hg; replace BK1242 := kBB BK1242 hb; replace BK1243 := kBB BK1243 hb; replace BK1244 := kBB BK1244 hb; replace BK1245 := kBB BK1245 hb; replace BK1250 := kBB BK1250 hb; replace HB := bS HB hb; clear hb hbox hg; have hnb36 := NB1255_1242.out; have hnc36 := NB1242_1255.out; have hnb37 := NB1255_1243.out; have hnc37 := NB1243_1255.out; have hnb38 := NB1255_1244.out; have hnc38 := NB1244_1255.out; have hnb39 := NB1255_1245.out; have hnc39 := NB1245_1255.out; have hnb40 := NB1255_1250.out; have hnc40 := NB1250_1255.out; obtain ⟨hcz41_0, hcz41_1, hcz41_2⟩ := cz3 BK1255.out; obtain ⟨hfz41_0, hfz41_1, hfz41_2⟩ := fz3 BK1255.out; obtain ⟨hcz42_0, hcz42_1, hcz42_2⟩ := cz3 BK1244.out; obtain ⟨hfz42_0, hfz42_1, hfz42_2⟩ := fz3 BK1244.out; obtain ⟨hcz43_0, hcz43_1⟩ := cz2 BK1245.out; have hfz43_0 := blk_frozen BK1245.out 0; have hfz43_1 := blk_frozen BK1245.out 1; obtain ⟨hcz44_0, hcz44_1, hcz44_2⟩ := cz3 BK1242.out; obtain ⟨hfz44_0, hfz44_1, hfz44_2⟩ := fz3 BK1242.out; obtain ⟨hcz45_0, hcz45_1⟩ := cz2 BK1243.out; have hfz45_0 := blk_frozen BK1243.out 0; have hfz45_1 := blk_frozen BK1243.out 1) | ((with_reducible refine gate_callee (f := 35) rfl ?_); refine gl (some 45) Try.func35 #[.agg #[.int .i64 t1237, .int .i64 t1238, .int .i64 t1239], .agg #[.int .i64 t1240, .int .i64 t1241], .agg #[.int .i64 t1232, .int .i64 t1233, .int .i64 t1234], .agg #[.int .i64 t1235, .int .i64 t1236]] ?_; (with_reducible refine (impl_Touch.calls k t1237 t1238 t1239 t1240 t1241 t1232 t1233 t1234 t1235 t1236 t1256 t1257 t1258 t1259 _ A6.out).mono ?_); rintro e w46 ⟨rfl, hb⟩; refine ⟨_, rfl, ?_⟩; replace BK1242 := kBF BK1242 hb; replace BK1243 := kBF BK1243 hb; replace BK1244 := kBF BK1244 hb; replace BK1245 := kBF BK1245 hb; replace BK1250 := kBF BK1250 hb; replace BK1255 := kBP (o' := .cells #[.int .i64 t1251, .int .i64 t1252, .int .i64 t1253] 56 (0, 0)) BK1255 hb; replace HB := bS HB hb; clear hb) | ((with_reducible refine gate_dst (N := 11) rfl ?_); refine bx (N := 11) (cs := #[.int .i64 0, .int .i64 0, .int .i64 0]) (t := 56) ?_; intro gb1260 hg w47 hbox hb; have BK1260 := az hbox; have GW1260 := az ((gE hg (qL HB) : w.heap.size ≤ gb1260)); have GE1260 := GW1260; obtain ⟨NB1242_1260, NB1260_1242⟩ := nPB BK1242 hg; obtain ⟨NB1243_1260, NB1260_1243⟩ := nPB BK1243 hg; obtain ⟨NB1244_1260, NB1260_1244⟩ := nPB BK1244 hg; obtain ⟨NB1245_1260, NB1260_1245⟩ := nPB BK1245 hg; obtain ⟨NB1250_1260, NB1260_1250⟩ := nPB BK1250 hg; obtain ⟨NB1255_1260, NB1260_1255⟩ := nPB BK1255 hg; replace BK1242 := kBB BK1242 hb; replace BK1243 := kBB BK1243 hb; replace BK1244 := kBB BK1244 hb; replace BK1245 := kBB BK1245 hb; replace BK1250 := kBB BK1250 hb; replace BK1255 := kBB BK1255 hb; replace HB := bS HB hb; clear hb hbox hg; have hnb48 := NB1260_1242.out; have hnc48 := NB1242_1260.out; have hnb49 := NB1260_1243.out; have hnc49 := NB1243_1260.out; have hnb50 := NB1260_1244.out; have hnc50 := NB1244_1260.out; have hnb51 := NB1260_1245.out; have hnc51 := NB1245_1260.out; have hnb52 := NB1260_1250.out; have hnc52 := NB1250_1260.out; have hnb53 := NB1260_1255.out; have hnc53 := NB1255_1260.out; obtain ⟨hcz54_0, hcz54_1, hcz54_2⟩ := cz3 BK1260.out; obtain ⟨hfz54_0, hfz54_1, hfz54_2⟩ := fz3 BK1260.out))
  (try simp only [Act.put, List.setIfInBounds_toArray, List.set_cons_zero, List.set_cons_succ])
  go_cut [64] (fun v64 wc => ∃ (kq : Nat) (x64_6 : Bool), v64 = .bool x64_6 ∧ Aside0 (laws_FnTouch.j0 kq t1249 t1254 t1259 x64_6 t1232 t1233 t1234 t1235 t1236 t1237 t1238 t1239 t1240 t1241 t1246 t1247 t1248 t1251 t1252 t1253 t1256 t1257 t1258 = some r) ∧ Aside0 (kq ≤ k) ∧ Aside0 (wc.heap[gb1242]? = some (.cells #[.int .i64 t1232, .int .i64 t1233, .int .i64 t1234] 38 (0, 0))) ∧ Aside0 (wc.heap[gb1243]? = some (.cells #[.int .i64 t1235, .int .i64 t1236] 24 (0, 0))) ∧ Aside0 (wc.heap[gb1244]? = some (.cells #[.int .i64 t1237, .int .i64 t1238, .int .i64 t1239] 38 (0, 0))) ∧ Aside0 (wc.heap[gb1245]? = some (.cells #[.int .i64 t1240, .int .i64 t1241] 24 (0, 0))) ∧ Aside0 (wc.heap[gb1250]? = some (.cells #[.int .i64 t1246, .int .i64 t1247, .int .i64 t1248] 56 (0, 0))) ∧ Aside0 (wc.heap[gb1255]? = some (.cells #[.int .i64 t1251, .int .i64 t1252, .int .i64 t1253] 56 (0, 0))) ∧ Aside0 (wc.heap[gb1260]? = some (.cells #[.int .i64 t1256, .int .i64 t1257, .int .i64 t1258] 56 (0, 0))) ∧ Aside0 (Below w.heap.size w wc))
  case first =>
    have H := HC7.out
    clear HC7
    by_cases c55 : (t1249 != t1254) = true
    · rw [if_pos c55] at H
      have c55b0 : (t1249 != t1254) = true := c55
      (try (have c55b1 : decide (t1249 = t1254) = false := by simpa using c55))
      (try (have c55b2 : (t1249 == t1254) = false := by simpa using c55))
      (try (have c55b3 : ¬ (t1249 = t1254) := by simpa using c55))
      clear c55
      (first | rw [c55b0] | (simp only [i64_w, i32_w]; rw [c55b0]) | skip)
      have H' := az H
      clear H
      go_wp2
      go_meet
      case rel => exact ⟨_, (true), (by first | rfl | (simp; done) | (simp [*]; done)), H', ⟨by first | omega | exact Nat.le_refl _⟩, ⟨qF BK1242⟩, ⟨qF BK1243⟩, ⟨qF BK1244⟩, ⟨qF BK1245⟩, ⟨qF BK1250⟩, ⟨qF BK1255⟩, ⟨qP BK1260⟩, ⟨qL HB⟩⟩
    rw [if_neg c55] at H
    have c55b0 : (t1249 != t1254) = false := by simpa using c55
    (try (have c55b1 : decide (t1249 = t1254) = true := by simpa using c55))
    (try (have c55b2 : (t1249 == t1254) = true := by simpa using c55))
    clear c55
    (first | rw [c55b0] | (simp only [i64_w, i32_w]; rw [c55b0]) | skip)
    by_cases c56 : ((!(t1246 == t1251) || (!(t1247 == t1252))) || (!(t1248 == t1253))) = true
    · rw [if_pos c56] at H
      have c56b0 : ((!(t1246 == t1251) || (!(t1247 == t1252))) || (!(t1248 == t1253))) = true := c56
      clear c56
      have H' := az H
      clear H
      have hnb57 := NB1250_1242.out
      have hnc57 := NB1242_1250.out
      have hnb58 := NB1250_1243.out
      have hnc58 := NB1243_1250.out
      have hnb59 := NB1250_1244.out
      have hnc59 := NB1244_1250.out
      have hnb60 := NB1250_1245.out
      have hnc60 := NB1245_1250.out
      have hnb61 := NB1250_1255.out
      have hnc61 := NB1255_1250.out
      have hnb62 := NB1250_1260.out
      have hnc62 := NB1260_1250.out
      obtain ⟨hcz63_0, hcz63_1, hcz63_2⟩ := cz3 BK1250.out
      obtain ⟨hfz63_0, hfz63_1, hfz63_2⟩ := fz3 BK1250.out
      have hnb64 := NB1255_1242.out
      have hnc64 := NB1242_1255.out
      have hnb65 := NB1255_1243.out
      have hnc65 := NB1243_1255.out
      have hnb66 := NB1255_1244.out
      have hnc66 := NB1244_1255.out
      have hnb67 := NB1255_1245.out
      have hnc67 := NB1245_1255.out
      have hnb68 := NB1255_1260.out
      have hnc68 := NB1260_1255.out
      obtain ⟨hcz69_0, hcz69_1, hcz69_2⟩ := cz3 BK1255.out
      obtain ⟨hfz69_0, hfz69_1, hfz69_2⟩ := fz3 BK1255.out
      go_wp2
      go_meet
      case rel => exact ⟨_, (true), (by first | rfl | (simp; done) | (simp [*]; done)), H', ⟨by first | omega | exact Nat.le_refl _⟩, ⟨qF BK1242⟩, ⟨qF BK1243⟩, ⟨qF BK1244⟩, ⟨qF BK1245⟩, ⟨qF BK1250⟩, ⟨qF BK1255⟩, ⟨qP BK1260⟩, ⟨qL HB⟩⟩
    rw [if_neg c56] at H
    have c56b0 : ((!(t1246 == t1251) || (!(t1247 == t1252))) || (!(t1248 == t1253))) = false := by simpa using c56
    clear c56
    by_cases c70 : (t1259 != t1249) = true
    · rw [if_pos c70] at H
      have c70b0 : (t1259 != t1249) = true := c70
      (try (have c70b1 : decide (t1259 = t1249) = false := by simpa using c70))
      (try (have c70b2 : (t1259 == t1249) = false := by simpa using c70))
      (try (have c70b3 : ¬ (t1259 = t1249) := by simpa using c70))
      clear c70
      have H' := az H
      clear H
      have hnb71 := NB1250_1242.out
      have hnc71 := NB1242_1250.out
      have hnb72 := NB1250_1243.out
      have hnc72 := NB1243_1250.out
      have hnb73 := NB1250_1244.out
      have hnc73 := NB1244_1250.out
      have hnb74 := NB1250_1245.out
      have hnc74 := NB1245_1250.out
      have hnb75 := NB1250_1255.out
      have hnc75 := NB1255_1250.out
      have hnb76 := NB1250_1260.out
      have hnc76 := NB1260_1250.out
      obtain ⟨hcz77_0, hcz77_1, hcz77_2⟩ := cz3 BK1250.out
      obtain ⟨hfz77_0, hfz77_1, hfz77_2⟩ := fz3 BK1250.out
      have hnb78 := NB1255_1242.out
      have hnc78 := NB1242_1255.out
      have hnb79 := NB1255_1243.out
      have hnc79 := NB1243_1255.out
      have hnb80 := NB1255_1244.out
      have hnc80 := NB1244_1255.out
      have hnb81 := NB1255_1245.out
      have hnc81 := NB1245_1255.out
      have hnb82 := NB1255_1260.out
      have hnc82 := NB1260_1255.out
      obtain ⟨hcz83_0, hcz83_1, hcz83_2⟩ := cz3 BK1255.out
      obtain ⟨hfz83_0, hfz83_1, hfz83_2⟩ := fz3 BK1255.out
      go_wp2
      go_meet
      case rel => exact ⟨_, (true), (by first | rfl | (simp; done) | (simp [*]; done)), H', ⟨by first | omega | exact Nat.le_refl _⟩, ⟨qF BK1242⟩, ⟨qF BK1243⟩, ⟨qF BK1244⟩, ⟨qF BK1245⟩, ⟨qF BK1250⟩, ⟨qF BK1255⟩, ⟨qP BK1260⟩, ⟨qL HB⟩⟩
    rw [if_neg c70] at H
    have c70b0 : (t1259 != t1249) = false := by simpa using c70
    (try (have c70b1 : decide (t1259 = t1249) = true := by simpa using c70))
    (try (have c70b2 : (t1259 == t1249) = true := by simpa using c70))
    clear c70
    have H' := az H
    clear H
    have hnb84 := NB1250_1242.out
    have hnc84 := NB1242_1250.out
    have hnb85 := NB1250_1243.out
    have hnc85 := NB1243_1250.out
    have hnb86 := NB1250_1244.out
    have hnc86 := NB1244_1250.out
    have hnb87 := NB1250_1245.out
    have hnc87 := NB1245_1250.out
    have hnb88 := NB1250_1255.out
    have hnc88 := NB1255_1250.out
    have hnb89 := NB1250_1260.out
    have hnc89 := NB1260_1250.out
    obtain ⟨hcz90_0, hcz90_1, hcz90_2⟩ := cz3 BK1250.out
    obtain ⟨hfz90_0, hfz90_1, hfz90_2⟩ := fz3 BK1250.out
    have hnb91 := NB1255_1242.out
    have hnc91 := NB1242_1255.out
    have hnb92 := NB1255_1243.out
    have hnc92 := NB1243_1255.out
    have hnb93 := NB1255_1244.out
    have hnc93 := NB1244_1255.out
    have hnb94 := NB1255_1245.out
    have hnc94 := NB1245_1255.out
    have hnb95 := NB1255_1260.out
    have hnc95 := NB1260_1255.out
    obtain ⟨hcz96_0, hcz96_1, hcz96_2⟩ := cz3 BK1255.out
    obtain ⟨hfz96_0, hfz96_1, hfz96_2⟩ := fz3 BK1255.out
    go_wp2
    go_meet
    case rel => exact ⟨_, (!t1249), (by first | rfl | (simp; done) | (simp [*]; done)), H', ⟨by first | omega | exact Nat.le_refl _⟩, ⟨qF BK1242⟩, ⟨qF BK1243⟩, ⟨qF BK1244⟩, ⟨qF BK1245⟩, ⟨qF BK1250⟩, ⟨qF BK1255⟩, ⟨qP BK1260⟩, ⟨qL HB⟩⟩
  case rest =>
    clear HC7
    (try clear c2); (try clear c2b0); (try clear c2b1); (try clear hcz16_0); (try clear hcz16_1); (try clear hcz16_2); (try clear hcz19_0); (try clear hcz19_1); (try clear hcz21_0); (try clear hcz21_1); (try clear hcz21_2); (try clear hcz22_0); (try clear hcz22_1); (try clear hcz29_0); (try clear hcz29_1); (try clear hcz29_2); (try clear hcz30_0); (try clear hcz30_1); (try clear hcz30_2); (try clear hcz31_0); (try clear hcz31_1); (try clear hcz32_0); (try clear hcz32_1); (try clear hcz32_2); (try clear hcz33_0); (try clear hcz33_1); (try clear hcz41_0); (try clear hcz41_1); (try clear hcz41_2); (try clear hcz42_0); (try clear hcz42_1); (try clear hcz42_2); (try clear hcz43_0); (try clear hcz43_1); (try clear hcz44_0); (try clear hcz44_1); (try clear hcz44_2); (try clear hcz45_0); (try clear hcz45_1); (try clear hcz54_0); (try clear hcz54_1); (try clear hcz54_2); (try clear hfz16_0); (try clear hfz16_1); (try clear hfz16_2); (try clear hfz19_0); (try clear hfz19_1); (try clear hfz21_0); (try clear hfz21_1); (try clear hfz21_2); (try clear hfz22_0); (try clear hfz22_1); (try clear hfz29_0); (try clear hfz29_1); (try clear hfz29_2); (try clear hfz30_0); (try clear hfz30_1); (try clear hfz30_2); (try clear hfz31_0); (try clear hfz31_1); (try clear hfz32_0); (try clear hfz32_1); (try clear hfz32_2); (try clear hfz33_0); (try clear hfz33_1); (try clear hfz41_0); (try clear hfz41_1); (try clear hfz41_2); (try clear hfz42_0); (try clear hfz42_1); (try clear hfz42_2); (try clear hfz43_0); (try clear hfz43_1); (try clear hfz44_0); (try clear hfz44_1); (try clear hfz44_2); (try clear hfz45_0); (try clear hfz45_1); (try clear hfz54_0); (try clear hfz54_1); (try clear hfz54_2)
    obtain ⟨kq, x64_6, rfl, HA, HJ6, BK1242, BK1243, BK1244, BK1245, BK1250, BK1255, BK1260, HB⟩ := hcut
    cases kq with
    | zero => exact absurd HA.out (by simp [laws_FnTouch.j0])
    | succ kj6 => ?_
    have H := HA.out
    clear HA
    simp only [laws_FnTouch.j0] at H
    by_cases c97 : x64_6 = true
    · subst c97
      replace H := qT H
      by_cases c98 : (t1249 == t1254) = true
      · rw [if_pos c98] at H
        have c98b0 : (t1249 == t1254) = true := c98
        (try (have c98b1 : decide (t1249 = t1254) = true := by simpa using c98))
        (try (have c98b2 : (t1249 == t1254) = true := by simpa using c98))
        clear c98
        by_cases c99 : ((t1246 == t1251 && (t1247 == t1252)) && (t1248 == t1253)) = true
        · rw [if_pos c99] at H
          have c99b0 : ((t1246 == t1251 && (t1247 == t1252)) && (t1248 == t1253)) = true := c99
          clear c99
          obtain rfl := Option.some.inj H
          have hnb100 := NB1250_1242.out
          have hnc100 := NB1242_1250.out
          have hnb101 := NB1250_1243.out
          have hnc101 := NB1243_1250.out
          have hnb102 := NB1250_1244.out
          have hnc102 := NB1244_1250.out
          have hnb103 := NB1250_1245.out
          have hnc103 := NB1245_1250.out
          have hnb104 := NB1250_1255.out
          have hnc104 := NB1255_1250.out
          have hnb105 := NB1250_1260.out
          have hnc105 := NB1260_1250.out
          obtain ⟨hcz106_0, hcz106_1, hcz106_2⟩ := cz3 BK1250.out
          obtain ⟨hfz106_0, hfz106_1, hfz106_2⟩ := fz3 BK1250.out
          have hnb107 := NB1255_1242.out
          have hnc107 := NB1242_1255.out
          have hnb108 := NB1255_1243.out
          have hnc108 := NB1243_1255.out
          have hnb109 := NB1255_1244.out
          have hnc109 := NB1244_1255.out
          have hnb110 := NB1255_1245.out
          have hnc110 := NB1245_1255.out
          have hnb111 := NB1255_1260.out
          have hnc111 := NB1260_1255.out
          obtain ⟨hcz112_0, hcz112_1, hcz112_2⟩ := cz3 BK1255.out
          obtain ⟨hfz112_0, hfz112_1, hfz112_2⟩ := fz3 BK1255.out
          go_wp2
          go_ret
          exact ⟨qE, qL HB⟩
        rw [if_neg c99] at H
        have c99b0 : ((t1246 == t1251 && (t1247 == t1252)) && (t1248 == t1253)) = false := by simpa using c99
        clear c99
        obtain rfl := Option.some.inj H
        have hnb113 := NB1250_1242.out
        have hnc113 := NB1242_1250.out
        have hnb114 := NB1250_1243.out
        have hnc114 := NB1243_1250.out
        have hnb115 := NB1250_1244.out
        have hnc115 := NB1244_1250.out
        have hnb116 := NB1250_1245.out
        have hnc116 := NB1245_1250.out
        have hnb117 := NB1250_1255.out
        have hnc117 := NB1255_1250.out
        have hnb118 := NB1250_1260.out
        have hnc118 := NB1260_1250.out
        obtain ⟨hcz119_0, hcz119_1, hcz119_2⟩ := cz3 BK1250.out
        obtain ⟨hfz119_0, hfz119_1, hfz119_2⟩ := fz3 BK1250.out
        have hnb120 := NB1255_1242.out
        have hnc120 := NB1242_1255.out
        have hnb121 := NB1255_1243.out
        have hnc121 := NB1243_1255.out
        have hnb122 := NB1255_1244.out
        have hnc122 := NB1244_1255.out
        have hnb123 := NB1255_1245.out
        have hnc123 := NB1245_1255.out
        have hnb124 := NB1255_1260.out
        have hnc124 := NB1260_1255.out
        obtain ⟨hcz125_0, hcz125_1, hcz125_2⟩ := cz3 BK1255.out
        obtain ⟨hfz125_0, hfz125_1, hfz125_2⟩ := fz3 BK1255.out
        go_wp2
        go_ret
        exact ⟨qE, qL HB⟩
      rw [if_neg c98] at H
      have c98b0 : (t1249 == t1254) = false := by simpa using c98
      (try (have c98b1 : decide (t1249 = t1254) = false := by simpa using c98))
      (try (have c98b2 : (t1249 == t1254) = false := by simpa using c98))
      (try (have c98b3 : ¬ (t1249 = t1254) := by simpa using c98))
      clear c98
      obtain rfl := Option.some.inj H
      go_wp2
      go_ret
      exact ⟨qE, qL HB⟩
    replace c97 := Bool.eq_false_iff.mpr c97
    subst c97
    replace H := qU H
    by_cases c126 : t1258 = t1248
    · rw [if_pos c126] at H
      have c126b0 : (t1258 == t1248) = true := beq_iff_eq.mpr c126
      have c126b1 : (t1258 != t1248) = false := bne_eq_false_iff_eq.mpr c126
      clear c126
      by_cases c127 : t1248 ≥ 0
      · rw [if_pos c127] at H
        have c127b0 : decide (0 ≤ t1248) = true := decide_eq_true c127
        clear c127
        replace H := qH H
        obtain ⟨⟨t1261, t1262, t1263, t1264⟩, A128, H⟩ := H
        try dsimp only at H
        replace H := qH H
        obtain ⟨⟨t1265, t1266, t1267, t1268⟩, A129, H⟩ := H
        try dsimp only at H
        replace H := qH H
        obtain ⟨t1269, A130, H⟩ := H
        try dsimp only at H
        by_cases c131 : t1269 = true
        · subst c131
          replace H := qT H
          by_cases c132 : (wrap64 ((wrap64 (t1246 * t1246)) + (wrap64 (t1247 * t1247)))) ≤ 131769
          · rw [if_pos c132] at H
            have c132b0 : decide ((wrap64 ((wrap64 (t1246 * t1246)) + (wrap64 (t1247 * t1247)))) ≤ 131769) = true := decide_eq_true c132
            clear c132
            obtain rfl := Option.some.inj H
            have hnb133 := NB1250_1242.out
            have hnc133 := NB1242_1250.out
            have hnb134 := NB1250_1243.out
            have hnc134 := NB1243_1250.out
            have hnb135 := NB1250_1244.out
            have hnc135 := NB1244_1250.out
            have hnb136 := NB1250_1245.out
            have hnc136 := NB1245_1250.out
            have hnb137 := NB1250_1255.out
            have hnc137 := NB1255_1250.out
            have hnb138 := NB1250_1260.out
            have hnc138 := NB1260_1250.out
            obtain ⟨hcz139_0, hcz139_1, hcz139_2⟩ := cz3 BK1250.out
            obtain ⟨hfz139_0, hfz139_1, hfz139_2⟩ := fz3 BK1250.out
            try go_wp2
            replace BK1242 := az (blk_drew BK1242.out)
            replace BK1243 := az (blk_drew BK1243.out)
            replace BK1244 := az (blk_drew BK1244.out)
            replace BK1245 := az (blk_drew BK1245.out)
            replace BK1250 := az (blk_drew BK1250.out)
            replace BK1255 := az (blk_drew BK1255.out)
            replace BK1260 := az (blk_drew BK1260.out)
            replace HB := az (below_drew1 HB.out)
            refine start_ (n := 28) (S := fun w' => w'.cell? ⟨gb1260, 0, none⟩ = some (.int .i64 t1256) ∧ w'.cell? ⟨gb1260, 1, none⟩ = some (.int .i64 t1257) ∧ w'.cell? ⟨gb1260, 2, none⟩ = some (.int .i64 t1258) ∧ w'.cell? ⟨gb1250, 0, none⟩ = some (.int .i64 t1246) ∧ w'.cell? ⟨gb1250, 1, none⟩ = some (.int .i64 t1247) ∧ w'.cell? ⟨gb1250, 2, none⟩ = some (.int .i64 t1248) ∧ w'.cell? ⟨gb1242, 0, none⟩ = some (.int .i64 t1232) ∧ w'.cell? ⟨gb1242, 1, none⟩ = some (.int .i64 t1233) ∧ w'.cell? ⟨gb1242, 2, none⟩ = some (.int .i64 t1234) ∧ w'.cell? ⟨gb1243, 0, none⟩ = some (.int .i64 t1235) ∧ w'.cell? ⟨gb1243, 1, none⟩ = some (.int .i64 t1236) ∧ w'.cell? ⟨gb1244, 0, none⟩ = some (.int .i64 t1237) ∧ w'.cell? ⟨gb1244, 1, none⟩ = some (.int .i64 t1238) ∧ w'.cell? ⟨gb1244, 2, none⟩ = some (.int .i64 t1239) ∧ w'.cell? ⟨gb1245, 0, none⟩ = some (.int .i64 t1240) ∧ w'.cell? ⟨gb1245, 1, none⟩ = some (.int .i64 t1241)) (ds := []) #[false, false, false, false, false, false, false, false, false, false, false, false, false, false, false, false, false, false, false, false, false, false, false, false, false, false, false, false] (by kernel_rfl) rfl rfl ⟨bc BK1260 0, bc BK1260 1, bc BK1260 2, bc BK1250 0, bc BK1250 1, bc BK1250 2, bc BK1242 0, bc BK1242 1, bc BK1242 2, bc BK1243 0, bc BK1243 1, bc BK1244 0, bc BK1244 1, bc BK1244 2, bc BK1245 0, bc BK1245 1⟩ (fun hHeld => ?_); refine with_tabW laws_FnTouch.tab10 laws_FnTouch.bits10 (fun HT_ HW_ => ?_)
            generalize wc.drew = w140 at BK1242 BK1243 BK1244 BK1245 BK1250 BK1255 BK1260 HB hHeld ⊢
            refine pu 0 (some 93) (fl 28 1) HT_ ?_
            refine pu 2 (some 95) (fl 28 5) HT_ ?_
            refine tk16 1 (some 94) (fl 28 7) HT_ HW_ hHeld ?_
            refine tk16 3 (some 96) (fl 28 15) HT_ HW_ hHeld ?_
            refine pu 4 (some 97) (fl 28 31) HT_ ?_
            refine pu 5 (some 98) (fl 28 63) HT_ ?_
            refine pu 6 (some 99) (fl 28 127) HT_ ?_
            refine tk16 7 (some 100) (fl 28 255) HT_ HW_ hHeld ?_
            refine pu 8 (some 101) (fl 28 511) HT_ ?_
            refine pu 9 (some 102) (fl 28 1023) HT_ ?_
            refine pu 10 (some 103) (fl 28 2047) HT_ ?_
            refine tk16 11 (some 104) (fl 28 4095) HT_ HW_ hHeld ?_
            refine tk16 12 (some 105) (fl 28 8191) HT_ HW_ hHeld ?_
            refine tk16 14 (some 107) (fl 28 24575) HT_ HW_ hHeld ?_
            refine tk16 15 (some 108) (fl 28 57343) HT_ HW_ hHeld ?_
            refine on 13 (some 106) (fl 28 65535) HT_ (fun K hK => ?_)
            refine go1 Try.func39 #[.agg #[.int .i64 t1232, .int .i64 t1233, .int .i64 t1234], .agg #[.int .i64 t1235, .int .i64 t1236]] ?_
            with_reducible refine (impl_ShapeBounds.calls t1232 t1233 t1234 t1235 t1236 t1261 t1262 t1263 t1264 _ A128.out).mono ?_
            rintro e w141 ⟨rfl, hb⟩
            refine ⟨_, rfl, ?_⟩
            replace BK1242 := kBB BK1242 hb
            replace BK1243 := kBB BK1243 hb
            replace BK1244 := kBB BK1244 hb
            replace BK1245 := kBB BK1245 hb
            replace BK1250 := kBB BK1250 hb
            replace BK1255 := kBB BK1255 hb
            replace BK1260 := kBB BK1260 hb
            replace HB := bS HB hb
            clear hb
            refine hK.out _ _ ⟨bc BK1260 0, bc BK1260 1, bc BK1260 2, bc BK1250 0, bc BK1250 1, bc BK1250 2, bc BK1242 0, bc BK1242 1, bc BK1242 2, bc BK1243 0, bc BK1243 1, bc BK1244 0, bc BK1244 1, bc BK1244 2, bc BK1245 0, bc BK1245 1⟩ (fun hHeld => ?_)
            clear hK K
            refine nm (some 106) ?_
            refine on 16 (some 109) (fl 28 131071) HT_ (fun K hK => ?_)
            refine go1 Try.func39 #[.agg #[.int .i64 t1237, .int .i64 t1238, .int .i64 t1239], .agg #[.int .i64 t1240, .int .i64 t1241]] ?_
            with_reducible refine (impl_ShapeBounds.calls t1237 t1238 t1239 t1240 t1241 t1265 t1266 t1267 t1268 _ A129.out).mono ?_
            rintro e w142 ⟨rfl, hb⟩
            refine ⟨_, rfl, ?_⟩
            replace BK1242 := kBB BK1242 hb
            replace BK1243 := kBB BK1243 hb
            replace BK1244 := kBB BK1244 hb
            replace BK1245 := kBB BK1245 hb
            replace BK1250 := kBB BK1250 hb
            replace BK1255 := kBB BK1255 hb
            replace BK1260 := kBB BK1260 hb
            replace HB := bS HB hb
            clear hb
            refine hK.out _ _ ⟨bc BK1260 0, bc BK1260 1, bc BK1260 2, bc BK1250 0, bc BK1250 1, bc BK1250 2, bc BK1242 0, bc BK1242 1, bc BK1242 2, bc BK1243 0, bc BK1243 1, bc BK1244 0, bc BK1244 1, bc BK1244 2, bc BK1245 0, bc BK1245 1⟩ (fun hHeld => ?_)
            clear hK K
            refine nm (some 109) ?_
            refine on 17 (some 110) (fl 28 262143) HT_ (fun K hK => ?_)
            refine go1 Try.func38 #[.agg #[.int .i64 t1261, .int .i64 t1262, .int .i64 t1263, .int .i64 t1264], .agg #[.int .i64 t1265, .int .i64 t1266, .int .i64 t1267, .int .i64 t1268]] ?_
            with_reducible refine (impl_BoxMeets.calls t1261 t1262 t1263 t1264 t1265 t1266 t1267 t1268 true _ A130.out).mono ?_
            rintro e w143 ⟨rfl, hb⟩
            refine ⟨_, rfl, ?_⟩
            replace BK1242 := kBB BK1242 hb
            replace BK1243 := kBB BK1243 hb
            replace BK1244 := kBB BK1244 hb
            replace BK1245 := kBB BK1245 hb
            replace BK1250 := kBB BK1250 hb
            replace BK1255 := kBB BK1255 hb
            replace BK1260 := kBB BK1260 hb
            replace HB := bS HB hb
            clear hb
            refine hK.out _ _ ⟨bc BK1260 0, bc BK1260 1, bc BK1260 2, bc BK1250 0, bc BK1250 1, bc BK1250 2, bc BK1242 0, bc BK1242 1, bc BK1242 2, bc BK1243 0, bc BK1243 1, bc BK1244 0, bc BK1244 1, bc BK1244 2, bc BK1245 0, bc BK1245 1⟩ (fun hHeld => ?_)
            clear hK K
            refine nm (some 110) ?_
            refine pu 18 (some 111) (fl 28 524287) HT_ ?_
            refine pu 19 (some 112) (fl 28 1048575) HT_ ?_
            refine pu 20 (some 113) (fl 28 2097151) HT_ ?_
            refine pu 21 (some 114) (fl 28 4194303) HT_ ?_
            refine pu 22 (some 115) (fl 28 8388607) HT_ ?_
            refine pu 23 (some 116) (fl 28 16777215) HT_ ?_
            refine pu 24 (some 117) (fl 28 33554431) HT_ ?_
            refine pu 25 (some 118) (fl 28 67108863) HT_ ?_
            refine pu 26 (some 119) (fl 28 134217727) HT_ ?_
            refine pu 27 (some 2) (fl 28 268435455) HT_ ?_
            refine done_ (done_of HT_.out (by kernel_rfl)) ?_
            try go_wp2
            go_ret
            exact ⟨qE, qL HB⟩
          rw [if_neg c132] at H
          have c132b0 : decide ((wrap64 ((wrap64 (t1246 * t1246)) + (wrap64 (t1247 * t1247)))) ≤ 131769) = false := decide_eq_false c132
          clear c132
          obtain rfl := Option.some.inj H
          have hnb144 := NB1250_1242.out
          have hnc144 := NB1242_1250.out
          have hnb145 := NB1250_1243.out
          have hnc145 := NB1243_1250.out
          have hnb146 := NB1250_1244.out
          have hnc146 := NB1244_1250.out
          have hnb147 := NB1250_1245.out
          have hnc147 := NB1245_1250.out
          have hnb148 := NB1250_1255.out
          have hnc148 := NB1255_1250.out
          have hnb149 := NB1250_1260.out
          have hnc149 := NB1260_1250.out
          obtain ⟨hcz150_0, hcz150_1, hcz150_2⟩ := cz3 BK1250.out
          obtain ⟨hfz150_0, hfz150_1, hfz150_2⟩ := fz3 BK1250.out
          try go_wp2
          replace BK1242 := az (blk_drew BK1242.out)
          replace BK1243 := az (blk_drew BK1243.out)
          replace BK1244 := az (blk_drew BK1244.out)
          replace BK1245 := az (blk_drew BK1245.out)
          replace BK1250 := az (blk_drew BK1250.out)
          replace BK1255 := az (blk_drew BK1255.out)
          replace BK1260 := az (blk_drew BK1260.out)
          replace HB := az (below_drew1 HB.out)
          refine start_ (n := 28) (S := fun w' => w'.cell? ⟨gb1260, 0, none⟩ = some (.int .i64 t1256) ∧ w'.cell? ⟨gb1260, 1, none⟩ = some (.int .i64 t1257) ∧ w'.cell? ⟨gb1260, 2, none⟩ = some (.int .i64 t1258) ∧ w'.cell? ⟨gb1250, 0, none⟩ = some (.int .i64 t1246) ∧ w'.cell? ⟨gb1250, 1, none⟩ = some (.int .i64 t1247) ∧ w'.cell? ⟨gb1250, 2, none⟩ = some (.int .i64 t1248) ∧ w'.cell? ⟨gb1242, 0, none⟩ = some (.int .i64 t1232) ∧ w'.cell? ⟨gb1242, 1, none⟩ = some (.int .i64 t1233) ∧ w'.cell? ⟨gb1242, 2, none⟩ = some (.int .i64 t1234) ∧ w'.cell? ⟨gb1243, 0, none⟩ = some (.int .i64 t1235) ∧ w'.cell? ⟨gb1243, 1, none⟩ = some (.int .i64 t1236) ∧ w'.cell? ⟨gb1244, 0, none⟩ = some (.int .i64 t1237) ∧ w'.cell? ⟨gb1244, 1, none⟩ = some (.int .i64 t1238) ∧ w'.cell? ⟨gb1244, 2, none⟩ = some (.int .i64 t1239) ∧ w'.cell? ⟨gb1245, 0, none⟩ = some (.int .i64 t1240) ∧ w'.cell? ⟨gb1245, 1, none⟩ = some (.int .i64 t1241)) (ds := []) #[false, false, false, false, false, false, false, false, false, false, false, false, false, false, false, false, false, false, false, false, false, false, false, false, false, false, false, false] (by kernel_rfl) rfl rfl ⟨bc BK1260 0, bc BK1260 1, bc BK1260 2, bc BK1250 0, bc BK1250 1, bc BK1250 2, bc BK1242 0, bc BK1242 1, bc BK1242 2, bc BK1243 0, bc BK1243 1, bc BK1244 0, bc BK1244 1, bc BK1244 2, bc BK1245 0, bc BK1245 1⟩ (fun hHeld => ?_); refine with_tabW laws_FnTouch.tab10 laws_FnTouch.bits10 (fun HT_ HW_ => ?_)
          generalize wc.drew = w151 at BK1242 BK1243 BK1244 BK1245 BK1250 BK1255 BK1260 HB hHeld ⊢
          refine pu 0 (some 93) (fl 28 1) HT_ ?_
          refine pu 2 (some 95) (fl 28 5) HT_ ?_
          refine tk16 1 (some 94) (fl 28 7) HT_ HW_ hHeld ?_
          refine tk16 3 (some 96) (fl 28 15) HT_ HW_ hHeld ?_
          refine pu 4 (some 97) (fl 28 31) HT_ ?_
          refine pu 5 (some 98) (fl 28 63) HT_ ?_
          refine pu 6 (some 99) (fl 28 127) HT_ ?_
          refine tk16 7 (some 100) (fl 28 255) HT_ HW_ hHeld ?_
          refine pu 8 (some 101) (fl 28 511) HT_ ?_
          refine pu 9 (some 102) (fl 28 1023) HT_ ?_
          refine pu 10 (some 103) (fl 28 2047) HT_ ?_
          refine tk16 11 (some 104) (fl 28 4095) HT_ HW_ hHeld ?_
          refine tk16 12 (some 105) (fl 28 8191) HT_ HW_ hHeld ?_
          refine tk16 14 (some 107) (fl 28 24575) HT_ HW_ hHeld ?_
          refine tk16 15 (some 108) (fl 28 57343) HT_ HW_ hHeld ?_
          refine on 13 (some 106) (fl 28 65535) HT_ (fun K hK => ?_)
          refine go1 Try.func39 #[.agg #[.int .i64 t1232, .int .i64 t1233, .int .i64 t1234], .agg #[.int .i64 t1235, .int .i64 t1236]] ?_
          with_reducible refine (impl_ShapeBounds.calls t1232 t1233 t1234 t1235 t1236 t1261 t1262 t1263 t1264 _ A128.out).mono ?_
          rintro e w152 ⟨rfl, hb⟩
          refine ⟨_, rfl, ?_⟩
          replace BK1242 := kBB BK1242 hb
          replace BK1243 := kBB BK1243 hb
          replace BK1244 := kBB BK1244 hb
          replace BK1245 := kBB BK1245 hb
          replace BK1250 := kBB BK1250 hb
          replace BK1255 := kBB BK1255 hb
          replace BK1260 := kBB BK1260 hb
          replace HB := bS HB hb
          clear hb
          refine hK.out _ _ ⟨bc BK1260 0, bc BK1260 1, bc BK1260 2, bc BK1250 0, bc BK1250 1, bc BK1250 2, bc BK1242 0, bc BK1242 1, bc BK1242 2, bc BK1243 0, bc BK1243 1, bc BK1244 0, bc BK1244 1, bc BK1244 2, bc BK1245 0, bc BK1245 1⟩ (fun hHeld => ?_)
          clear hK K
          refine nm (some 106) ?_
          refine on 16 (some 109) (fl 28 131071) HT_ (fun K hK => ?_)
          refine go1 Try.func39 #[.agg #[.int .i64 t1237, .int .i64 t1238, .int .i64 t1239], .agg #[.int .i64 t1240, .int .i64 t1241]] ?_
          with_reducible refine (impl_ShapeBounds.calls t1237 t1238 t1239 t1240 t1241 t1265 t1266 t1267 t1268 _ A129.out).mono ?_
          rintro e w153 ⟨rfl, hb⟩
          refine ⟨_, rfl, ?_⟩
          replace BK1242 := kBB BK1242 hb
          replace BK1243 := kBB BK1243 hb
          replace BK1244 := kBB BK1244 hb
          replace BK1245 := kBB BK1245 hb
          replace BK1250 := kBB BK1250 hb
          replace BK1255 := kBB BK1255 hb
          replace BK1260 := kBB BK1260 hb
          replace HB := bS HB hb
          clear hb
          refine hK.out _ _ ⟨bc BK1260 0, bc BK1260 1, bc BK1260 2, bc BK1250 0, bc BK1250 1, bc BK1250 2, bc BK1242 0, bc BK1242 1, bc BK1242 2, bc BK1243 0, bc BK1243 1, bc BK1244 0, bc BK1244 1, bc BK1244 2, bc BK1245 0, bc BK1245 1⟩ (fun hHeld => ?_)
          clear hK K
          refine nm (some 109) ?_
          refine on 17 (some 110) (fl 28 262143) HT_ (fun K hK => ?_)
          refine go1 Try.func38 #[.agg #[.int .i64 t1261, .int .i64 t1262, .int .i64 t1263, .int .i64 t1264], .agg #[.int .i64 t1265, .int .i64 t1266, .int .i64 t1267, .int .i64 t1268]] ?_
          with_reducible refine (impl_BoxMeets.calls t1261 t1262 t1263 t1264 t1265 t1266 t1267 t1268 true _ A130.out).mono ?_
          rintro e w154 ⟨rfl, hb⟩
          refine ⟨_, rfl, ?_⟩
          replace BK1242 := kBB BK1242 hb
          replace BK1243 := kBB BK1243 hb
          replace BK1244 := kBB BK1244 hb
          replace BK1245 := kBB BK1245 hb
          replace BK1250 := kBB BK1250 hb
          replace BK1255 := kBB BK1255 hb
          replace BK1260 := kBB BK1260 hb
          replace HB := bS HB hb
          clear hb
          refine hK.out _ _ ⟨bc BK1260 0, bc BK1260 1, bc BK1260 2, bc BK1250 0, bc BK1250 1, bc BK1250 2, bc BK1242 0, bc BK1242 1, bc BK1242 2, bc BK1243 0, bc BK1243 1, bc BK1244 0, bc BK1244 1, bc BK1244 2, bc BK1245 0, bc BK1245 1⟩ (fun hHeld => ?_)
          clear hK K
          refine nm (some 110) ?_
          refine pu 18 (some 111) (fl 28 524287) HT_ ?_
          refine pu 19 (some 112) (fl 28 1048575) HT_ ?_
          refine pu 20 (some 113) (fl 28 2097151) HT_ ?_
          refine pu 21 (some 114) (fl 28 4194303) HT_ ?_
          refine pu 22 (some 115) (fl 28 8388607) HT_ ?_
          refine pu 23 (some 116) (fl 28 16777215) HT_ ?_
          refine pv 24 (some 117) (fl 28 33554431) HT_ ?_
          refine pv 25 (some 118) (fl 28 67108863) HT_ ?_
          refine pu 26 (some 119) (fl 28 134217727) HT_ ?_
          refine pu 27 (some 2) (fl 28 268435455) HT_ ?_
          refine done_ (done_of HT_.out (by kernel_rfl)) ?_
          try go_wp2
          go_ret
          exact ⟨qE, qL HB⟩
        replace c131 := Bool.eq_false_iff.mpr c131
        subst c131
        replace H := qU H
        obtain rfl := Option.some.inj H
        have hnb155 := NB1250_1242.out
        have hnc155 := NB1242_1250.out
        have hnb156 := NB1250_1243.out
        have hnc156 := NB1243_1250.out
        have hnb157 := NB1250_1244.out
        have hnc157 := NB1244_1250.out
        have hnb158 := NB1250_1245.out
        have hnc158 := NB1245_1250.out
        have hnb159 := NB1250_1255.out
        have hnc159 := NB1255_1250.out
        have hnb160 := NB1250_1260.out
        have hnc160 := NB1260_1250.out
        obtain ⟨hcz161_0, hcz161_1, hcz161_2⟩ := cz3 BK1250.out
        obtain ⟨hfz161_0, hfz161_1, hfz161_2⟩ := fz3 BK1250.out
        try go_wp2
        replace BK1242 := az (blk_drew BK1242.out)
        replace BK1243 := az (blk_drew BK1243.out)
        replace BK1244 := az (blk_drew BK1244.out)
        replace BK1245 := az (blk_drew BK1245.out)
        replace BK1250 := az (blk_drew BK1250.out)
        replace BK1255 := az (blk_drew BK1255.out)
        replace BK1260 := az (blk_drew BK1260.out)
        replace HB := az (below_drew1 HB.out)
        refine start_ (n := 28) (S := fun w' => w'.cell? ⟨gb1260, 0, none⟩ = some (.int .i64 t1256) ∧ w'.cell? ⟨gb1260, 1, none⟩ = some (.int .i64 t1257) ∧ w'.cell? ⟨gb1260, 2, none⟩ = some (.int .i64 t1258) ∧ w'.cell? ⟨gb1250, 0, none⟩ = some (.int .i64 t1246) ∧ w'.cell? ⟨gb1250, 1, none⟩ = some (.int .i64 t1247) ∧ w'.cell? ⟨gb1250, 2, none⟩ = some (.int .i64 t1248) ∧ w'.cell? ⟨gb1242, 0, none⟩ = some (.int .i64 t1232) ∧ w'.cell? ⟨gb1242, 1, none⟩ = some (.int .i64 t1233) ∧ w'.cell? ⟨gb1242, 2, none⟩ = some (.int .i64 t1234) ∧ w'.cell? ⟨gb1243, 0, none⟩ = some (.int .i64 t1235) ∧ w'.cell? ⟨gb1243, 1, none⟩ = some (.int .i64 t1236) ∧ w'.cell? ⟨gb1244, 0, none⟩ = some (.int .i64 t1237) ∧ w'.cell? ⟨gb1244, 1, none⟩ = some (.int .i64 t1238) ∧ w'.cell? ⟨gb1244, 2, none⟩ = some (.int .i64 t1239) ∧ w'.cell? ⟨gb1245, 0, none⟩ = some (.int .i64 t1240) ∧ w'.cell? ⟨gb1245, 1, none⟩ = some (.int .i64 t1241)) (ds := []) #[false, false, false, false, false, false, false, false, false, false, false, false, false, false, false, false, false, false, false, false, false, false, false, false, false, false, false, false] (by kernel_rfl) rfl rfl ⟨bc BK1260 0, bc BK1260 1, bc BK1260 2, bc BK1250 0, bc BK1250 1, bc BK1250 2, bc BK1242 0, bc BK1242 1, bc BK1242 2, bc BK1243 0, bc BK1243 1, bc BK1244 0, bc BK1244 1, bc BK1244 2, bc BK1245 0, bc BK1245 1⟩ (fun hHeld => ?_); refine with_tabW laws_FnTouch.tab10 laws_FnTouch.bits10 (fun HT_ HW_ => ?_)
        generalize wc.drew = w162 at BK1242 BK1243 BK1244 BK1245 BK1250 BK1255 BK1260 HB hHeld ⊢
        refine pu 0 (some 93) (fl 28 1) HT_ ?_
        refine pu 2 (some 95) (fl 28 5) HT_ ?_
        refine tk16 1 (some 94) (fl 28 7) HT_ HW_ hHeld ?_
        refine tk16 3 (some 96) (fl 28 15) HT_ HW_ hHeld ?_
        refine pu 4 (some 97) (fl 28 31) HT_ ?_
        refine pu 5 (some 98) (fl 28 63) HT_ ?_
        refine pu 6 (some 99) (fl 28 127) HT_ ?_
        refine tk16 7 (some 100) (fl 28 255) HT_ HW_ hHeld ?_
        refine pu 8 (some 101) (fl 28 511) HT_ ?_
        refine pu 9 (some 102) (fl 28 1023) HT_ ?_
        refine pu 10 (some 103) (fl 28 2047) HT_ ?_
        refine tk16 11 (some 104) (fl 28 4095) HT_ HW_ hHeld ?_
        refine tk16 12 (some 105) (fl 28 8191) HT_ HW_ hHeld ?_
        refine tk16 14 (some 107) (fl 28 24575) HT_ HW_ hHeld ?_
        refine tk16 15 (some 108) (fl 28 57343) HT_ HW_ hHeld ?_
        refine on 13 (some 106) (fl 28 65535) HT_ (fun K hK => ?_)
        refine go1 Try.func39 #[.agg #[.int .i64 t1232, .int .i64 t1233, .int .i64 t1234], .agg #[.int .i64 t1235, .int .i64 t1236]] ?_
        with_reducible refine (impl_ShapeBounds.calls t1232 t1233 t1234 t1235 t1236 t1261 t1262 t1263 t1264 _ A128.out).mono ?_
        rintro e w163 ⟨rfl, hb⟩
        refine ⟨_, rfl, ?_⟩
        replace BK1242 := kBB BK1242 hb
        replace BK1243 := kBB BK1243 hb
        replace BK1244 := kBB BK1244 hb
        replace BK1245 := kBB BK1245 hb
        replace BK1250 := kBB BK1250 hb
        replace BK1255 := kBB BK1255 hb
        replace BK1260 := kBB BK1260 hb
        replace HB := bS HB hb
        clear hb
        refine hK.out _ _ ⟨bc BK1260 0, bc BK1260 1, bc BK1260 2, bc BK1250 0, bc BK1250 1, bc BK1250 2, bc BK1242 0, bc BK1242 1, bc BK1242 2, bc BK1243 0, bc BK1243 1, bc BK1244 0, bc BK1244 1, bc BK1244 2, bc BK1245 0, bc BK1245 1⟩ (fun hHeld => ?_)
        clear hK K
        refine nm (some 106) ?_
        refine on 16 (some 109) (fl 28 131071) HT_ (fun K hK => ?_)
        refine go1 Try.func39 #[.agg #[.int .i64 t1237, .int .i64 t1238, .int .i64 t1239], .agg #[.int .i64 t1240, .int .i64 t1241]] ?_
        with_reducible refine (impl_ShapeBounds.calls t1237 t1238 t1239 t1240 t1241 t1265 t1266 t1267 t1268 _ A129.out).mono ?_
        rintro e w164 ⟨rfl, hb⟩
        refine ⟨_, rfl, ?_⟩
        replace BK1242 := kBB BK1242 hb
        replace BK1243 := kBB BK1243 hb
        replace BK1244 := kBB BK1244 hb
        replace BK1245 := kBB BK1245 hb
        replace BK1250 := kBB BK1250 hb
        replace BK1255 := kBB BK1255 hb
        replace BK1260 := kBB BK1260 hb
        replace HB := bS HB hb
        clear hb
        refine hK.out _ _ ⟨bc BK1260 0, bc BK1260 1, bc BK1260 2, bc BK1250 0, bc BK1250 1, bc BK1250 2, bc BK1242 0, bc BK1242 1, bc BK1242 2, bc BK1243 0, bc BK1243 1, bc BK1244 0, bc BK1244 1, bc BK1244 2, bc BK1245 0, bc BK1245 1⟩ (fun hHeld => ?_)
        clear hK K
        refine nm (some 109) ?_
        refine on 17 (some 110) (fl 28 262143) HT_ (fun K hK => ?_)
        refine go1 Try.func38 #[.agg #[.int .i64 t1261, .int .i64 t1262, .int .i64 t1263, .int .i64 t1264], .agg #[.int .i64 t1265, .int .i64 t1266, .int .i64 t1267, .int .i64 t1268]] ?_
        with_reducible refine (impl_BoxMeets.calls t1261 t1262 t1263 t1264 t1265 t1266 t1267 t1268 false _ A130.out).mono ?_
        rintro e w165 ⟨rfl, hb⟩
        refine ⟨_, rfl, ?_⟩
        replace BK1242 := kBB BK1242 hb
        replace BK1243 := kBB BK1243 hb
        replace BK1244 := kBB BK1244 hb
        replace BK1245 := kBB BK1245 hb
        replace BK1250 := kBB BK1250 hb
        replace BK1255 := kBB BK1255 hb
        replace BK1260 := kBB BK1260 hb
        replace HB := bS HB hb
        clear hb
        refine hK.out _ _ ⟨bc BK1260 0, bc BK1260 1, bc BK1260 2, bc BK1250 0, bc BK1250 1, bc BK1250 2, bc BK1242 0, bc BK1242 1, bc BK1242 2, bc BK1243 0, bc BK1243 1, bc BK1244 0, bc BK1244 1, bc BK1244 2, bc BK1245 0, bc BK1245 1⟩ (fun hHeld => ?_)
        clear hK K
        refine nm (some 110) ?_
        refine pu 18 (some 111) (fl 28 524287) HT_ ?_
        refine pu 19 (some 112) (fl 28 1048575) HT_ ?_
        refine pv 20 (some 113) (fl 28 2097151) HT_ ?_
        refine pv 21 (some 114) (fl 28 4194303) HT_ ?_
        refine pu 22 (some 115) (fl 28 8388607) HT_ ?_
        refine pu 23 (some 116) (fl 28 16777215) HT_ ?_
        refine pv 24 (some 117) (fl 28 33554431) HT_ ?_
        refine pv 25 (some 118) (fl 28 67108863) HT_ ?_
        refine pu 26 (some 119) (fl 28 134217727) HT_ ?_
        refine pu 27 (some 2) (fl 28 268435455) HT_ ?_
        refine done_ (done_of HT_.out (by kernel_rfl)) ?_
        try go_wp2
        go_ret
        exact ⟨qE, qL HB⟩
      rw [if_neg c127] at H
      have c127b0 : decide (0 ≤ t1248) = false := decide_eq_false c127
      clear c127
      obtain rfl := Option.some.inj H
      have hnb166 := NB1250_1242.out
      have hnc166 := NB1242_1250.out
      have hnb167 := NB1250_1243.out
      have hnc167 := NB1243_1250.out
      have hnb168 := NB1250_1244.out
      have hnc168 := NB1244_1250.out
      have hnb169 := NB1250_1245.out
      have hnc169 := NB1245_1250.out
      have hnb170 := NB1250_1255.out
      have hnc170 := NB1255_1250.out
      have hnb171 := NB1250_1260.out
      have hnc171 := NB1260_1250.out
      obtain ⟨hcz172_0, hcz172_1, hcz172_2⟩ := cz3 BK1250.out
      obtain ⟨hfz172_0, hfz172_1, hfz172_2⟩ := fz3 BK1250.out
      try go_wp2
      replace BK1242 := az (blk_drew BK1242.out)
      replace BK1243 := az (blk_drew BK1243.out)
      replace BK1244 := az (blk_drew BK1244.out)
      replace BK1245 := az (blk_drew BK1245.out)
      replace BK1250 := az (blk_drew BK1250.out)
      replace BK1255 := az (blk_drew BK1255.out)
      replace BK1260 := az (blk_drew BK1260.out)
      replace HB := az (below_drew1 HB.out)
      refine start_ (n := 28) (S := fun w' => w'.cell? ⟨gb1260, 0, none⟩ = some (.int .i64 t1256) ∧ w'.cell? ⟨gb1260, 1, none⟩ = some (.int .i64 t1257) ∧ w'.cell? ⟨gb1260, 2, none⟩ = some (.int .i64 t1258) ∧ w'.cell? ⟨gb1250, 0, none⟩ = some (.int .i64 t1246) ∧ w'.cell? ⟨gb1250, 1, none⟩ = some (.int .i64 t1247) ∧ w'.cell? ⟨gb1250, 2, none⟩ = some (.int .i64 t1248)) (ds := []) #[false, false, false, false, false, false, false, false, false, false, false, false, false, false, false, false, false, false, false, false, false, false, false, false, false, false, false, false] (by kernel_rfl) rfl rfl ⟨bc BK1260 0, bc BK1260 1, bc BK1260 2, bc BK1250 0, bc BK1250 1, bc BK1250 2⟩ (fun hHeld => ?_); refine with_tabW laws_FnTouch.tab10 laws_FnTouch.bits10 (fun HT_ HW_ => ?_)
      generalize wc.drew = w173 at BK1242 BK1243 BK1244 BK1245 BK1250 BK1255 BK1260 HB hHeld ⊢
      refine pu 0 (some 93) (fl 28 1) HT_ ?_
      refine pu 2 (some 95) (fl 28 5) HT_ ?_
      refine tk6 1 (some 94) (fl 28 7) HT_ HW_ hHeld ?_
      refine tk6 3 (some 96) (fl 28 15) HT_ HW_ hHeld ?_
      refine pu 4 (some 97) (fl 28 31) HT_ ?_
      refine pu 5 (some 98) (fl 28 63) HT_ ?_
      refine pu 6 (some 99) (fl 28 127) HT_ ?_
      refine tk6 7 (some 100) (fl 28 255) HT_ HW_ hHeld ?_
      refine pu 8 (some 101) (fl 28 511) HT_ ?_
      refine pu 9 (some 102) (fl 28 1023) HT_ ?_
      refine pu 10 (some 103) (fl 28 2047) HT_ ?_
      refine pv 11 (some 104) (fl 28 4095) HT_ ?_
      refine pv 12 (some 105) (fl 28 8191) HT_ ?_
      refine pv 13 (some 106) (fl 28 16383) HT_ ?_
      refine pv 14 (some 107) (fl 28 32767) HT_ ?_
      refine pv 15 (some 108) (fl 28 65535) HT_ ?_
      refine pv 16 (some 109) (fl 28 131071) HT_ ?_
      refine pv 17 (some 110) (fl 28 262143) HT_ ?_
      refine pu 18 (some 111) (fl 28 524287) HT_ ?_
      refine pu 19 (some 112) (fl 28 1048575) HT_ ?_
      refine pv 20 (some 113) (fl 28 2097151) HT_ ?_
      refine pv 21 (some 114) (fl 28 4194303) HT_ ?_
      refine pu 22 (some 115) (fl 28 8388607) HT_ ?_
      refine pu 23 (some 116) (fl 28 16777215) HT_ ?_
      refine pv 24 (some 117) (fl 28 33554431) HT_ ?_
      refine pv 25 (some 118) (fl 28 67108863) HT_ ?_
      refine pu 26 (some 119) (fl 28 134217727) HT_ ?_
      refine pu 27 (some 2) (fl 28 268435455) HT_ ?_
      refine done_ (done_of HT_.out (by kernel_rfl)) ?_
      try go_wp2
      go_ret
      exact ⟨qE, qL HB⟩
    rw [if_neg c126] at H
    have c126b0 : (t1258 == t1248) = false := beq_eq_false_iff_ne.mpr c126
    have c126b1 : (t1258 != t1248) = true := bne_iff_ne.mpr c126
    obtain rfl := Option.some.inj H
    have hnb174 := NB1250_1242.out
    have hnc174 := NB1242_1250.out
    have hnb175 := NB1250_1243.out
    have hnc175 := NB1243_1250.out
    have hnb176 := NB1250_1244.out
    have hnc176 := NB1244_1250.out
    have hnb177 := NB1250_1245.out
    have hnc177 := NB1245_1250.out
    have hnb178 := NB1250_1255.out
    have hnc178 := NB1255_1250.out
    have hnb179 := NB1250_1260.out
    have hnc179 := NB1260_1250.out
    obtain ⟨hcz180_0, hcz180_1, hcz180_2⟩ := cz3 BK1250.out
    obtain ⟨hfz180_0, hfz180_1, hfz180_2⟩ := fz3 BK1250.out
    try go_wp2
    replace BK1242 := az (blk_drew BK1242.out)
    replace BK1243 := az (blk_drew BK1243.out)
    replace BK1244 := az (blk_drew BK1244.out)
    replace BK1245 := az (blk_drew BK1245.out)
    replace BK1250 := az (blk_drew BK1250.out)
    replace BK1255 := az (blk_drew BK1255.out)
    replace BK1260 := az (blk_drew BK1260.out)
    replace HB := az (below_drew1 HB.out)
    refine start_ (n := 28) (S := fun w' => w'.cell? ⟨gb1260, 0, none⟩ = some (.int .i64 t1256) ∧ w'.cell? ⟨gb1260, 1, none⟩ = some (.int .i64 t1257) ∧ w'.cell? ⟨gb1260, 2, none⟩ = some (.int .i64 t1258) ∧ w'.cell? ⟨gb1250, 0, none⟩ = some (.int .i64 t1246) ∧ w'.cell? ⟨gb1250, 1, none⟩ = some (.int .i64 t1247) ∧ w'.cell? ⟨gb1250, 2, none⟩ = some (.int .i64 t1248)) (ds := []) #[false, false, false, false, false, false, false, false, false, false, false, false, false, false, false, false, false, false, false, false, false, false, false, false, false, false, false, false] (by kernel_rfl) rfl rfl ⟨bc BK1260 0, bc BK1260 1, bc BK1260 2, bc BK1250 0, bc BK1250 1, bc BK1250 2⟩ (fun hHeld => ?_); refine with_tabW laws_FnTouch.tab10 laws_FnTouch.bits10 (fun HT_ HW_ => ?_)
    generalize wc.drew = w181 at BK1242 BK1243 BK1244 BK1245 BK1250 BK1255 BK1260 HB hHeld ⊢
    refine pu 0 (some 93) (fl 28 1) HT_ ?_
    refine pu 2 (some 95) (fl 28 5) HT_ ?_
    refine tk6 1 (some 94) (fl 28 7) HT_ HW_ hHeld ?_
    refine tk6 3 (some 96) (fl 28 15) HT_ HW_ hHeld ?_
    refine pu 4 (some 97) (fl 28 31) HT_ ?_
    refine pu 5 (some 98) (fl 28 63) HT_ ?_
    refine pv 6 (some 99) (fl 28 127) HT_ ?_
    refine pv 7 (some 100) (fl 28 255) HT_ ?_
    refine pv 8 (some 101) (fl 28 511) HT_ ?_
    refine pu 9 (some 102) (fl 28 1023) HT_ ?_
    refine pu 10 (some 103) (fl 28 2047) HT_ ?_
    refine pv 11 (some 104) (fl 28 4095) HT_ ?_
    refine pv 12 (some 105) (fl 28 8191) HT_ ?_
    refine pv 13 (some 106) (fl 28 16383) HT_ ?_
    refine pv 14 (some 107) (fl 28 32767) HT_ ?_
    refine pv 15 (some 108) (fl 28 65535) HT_ ?_
    refine pv 16 (some 109) (fl 28 131071) HT_ ?_
    refine pv 17 (some 110) (fl 28 262143) HT_ ?_
    refine pu 18 (some 111) (fl 28 524287) HT_ ?_
    refine pu 19 (some 112) (fl 28 1048575) HT_ ?_
    refine pv 20 (some 113) (fl 28 2097151) HT_ ?_
    refine pv 21 (some 114) (fl 28 4194303) HT_ ?_
    refine pu 22 (some 115) (fl 28 8388607) HT_ ?_
    refine pu 23 (some 116) (fl 28 16777215) HT_ ?_
    refine pv 24 (some 117) (fl 28 33554431) HT_ ?_
    refine pv 25 (some 118) (fl 28 67108863) HT_ ?_
    refine pu 26 (some 119) (fl 28 134217727) HT_ ?_
    refine pu 27 (some 2) (fl 28 268435455) HT_ ?_
    refine done_ (done_of HT_.out (by kernel_rfl)) ?_
    try go_wp2
    go_ret
    exact ⟨qE, qL HB⟩

/-- THE ONE PURE STATEMENT of laws_FnTouch: yours. -/
def laws_FnTouch.Pure : Prop := ∀ (l0 : List Int), l0.length ≤ maxLen → l0.length * 1 ≤ 140737488351232 → (∀ x ∈ l0, (Lit.int .u8 x).wf = true) → ∃ k, laws_FnTouch.f k l0 = some true
theorem laws_FnTouch.walk (P : laws_FnTouch.Pure) (a0 : Option Addr) (len0 cap0 : Nat) (z0 : List Int) (w : World) (w0 : (a0 = none ∧ len0 = 0 ∧ cap0 = 0 ∧ z0 = []) ∨ ∃ x, a0 = some x ∧ len0 ≤ cap0 ∧ cap0 ≤ maxLen ∧ z0.length = cap0 ∧ (∀ i, i < z0.length → w.cell? (x.add i) = some (.int .u8 (z0.getD i 0))) ∧ ∀ n ∈ z0, (Lit.int .u8 n).wf = true) (y0 : len0 * 1 ≤ 140737488351232) :
    Calls Try.prog 10 #[.slice a0 len0 cap0] w fun e w' => e = .returned (.bool true) ∧ Below w.heap.size w w' := by
  obtain ⟨l0, rfl, hr0, hm0, hw0, hc0⟩ := ReadsInt.ofRowC w0
  obtain ⟨k, h⟩ := P l0 hm0 y0 hw0
  refine (laws_FnTouch.calls k _ _ l0 true w (Kd.C_of_reads (d := (0 : Int)) (h1 := fun _ => rfl) hr0) hc0 h).mono ?_
  rintro e w' ⟨rfl, hd⟩
  exact ⟨rfl, hd⟩
end Go.Proofs.Ytihajbjkjclmoaa.PBig
