/- What these functions compute, each walked once: impl_Touch, impl_Body_touch, impl_Contacts; for all arguments and worlds, under the conditions that each theorem names. -/
import Derived.Test.YtdngjedhbnoaoaaSq
import Derived.Test.YtdngjedhbnoaoaaPBigx912
import Derived.Test.YtdngjedhbnoaoaaPBigx914
import Derived.Test.YtdngjedhbnoaoaaPBigx915
namespace Go.Proofs.Ytdngjedhbnoaoaa.PBig
open Go.RowKit Go.Proofs.YtdngjedhbnoaoaaW.PrintWords Go.Proofs.YtdngjedhbnoaoaaW.PrintLast Go.Proofs.YtdngjedhbnoaoaaW.PrintMore
attribute [local go_sem] max2_int min2_int max_two min_two max_three min_three max_four min_four
set_option linter.unusedVariables false
set_option linter.unusedSimpArgs false
set_option maxHeartbeats 8000000
set_option maxRecDepth 100000

/-! ### impl_Touch: function 48 -/
mutual
def impl_Touch.j0 : Nat → Bool → Int → Int → Int → Int → Int → Int → Int → Int → Int → Int → Option (Int × Int × Int × Bool)
  | 0, _, _, _, _, _, _, _, _, _, _, _ => none
  | k + 1, lA, aR, b1, b9, b2, b3, b4, b5, bA, b6, b7 => if lA = true then (some (0, 0, 0, false)) else (if aR = 1 then (impl_Touch.j1 k (b4 == 1) aR b1 b9 b2 b3 b4 b5 bA b6 b7) else (impl_Touch.j1 k false aR b1 b9 b2 b3 b4 b5 bA b6 b7))
def impl_Touch.j1 : Nat → Bool → Int → Int → Int → Int → Int → Int → Int → Int → Int → Int → Option (Int × Int × Int × Bool)
  | 0, _, _, _, _, _, _, _, _, _, _, _ => none
  | k + 1, lB, aR, b1, b9, b2, b3, b4, b5, bA, b6, b7 => if lB = true then ((impl_rounds.f k b2 b3 b1 b6 b7 b5).bind fun bt961 => (some (bt961.1, bt961.2.1, bt961.2.2.1, bt961.2.2.2))) else (if aR = 2 then (impl_Touch.j2 k (b4 == 2) aR b1 b9 b2 b3 b4 b5 bA b6 b7) else (impl_Touch.j2 k false aR b1 b9 b2 b3 b4 b5 bA b6 b7))
def impl_Touch.j2 : Nat → Bool → Int → Int → Int → Int → Int → Int → Int → Int → Int → Int → Option (Int × Int × Int × Bool)
  | 0, _, _, _, _, _, _, _, _, _, _, _ => none
  | k + 1, lC, aR, b1, b9, b2, b3, b4, b5, bA, b6, b7 => if lC = true then ((impl_Shape_bounds.f aR b1 b9 b2 b3).bind fun bt965 => ((impl_Shape_bounds.f b4 b5 bA b6 b7).bind fun bt969 => ((impl_boxes.f k bt965.1 bt965.2.1 bt965.2.2.1 bt965.2.2.2 bt969.1 bt969.2.1 bt969.2.2.1 bt969.2.2.2).bind fun bt973 => (some (bt973.1, bt973.2.1, bt973.2.2.1, bt973.2.2.2))))) else (if aR = 2 then ((impl_Shape_bounds.f aR b1 b9 b2 b3).bind fun bt977 => ((impl_boxRound.f k bt977.1 bt977.2.1 bt977.2.2.1 bt977.2.2.2 b6 b7 b5).bind fun bt981 => (some (bt981.1, bt981.2.1, bt981.2.2.1, bt981.2.2.2)))) else ((impl_Shape_bounds.f b4 b5 bA b6 b7).bind fun bt985 => ((impl_boxRound.f k bt985.1 bt985.2.1 bt985.2.2.1 bt985.2.2.2 b2 b3 b1).bind fun bt989 => ((impl_Vec_opposite.f bt989.1 bt989.2.1).bind fun bt994 => (some (bt994.1, bt994.2, bt989.2.2.1, bt989.2.2.2))))))
end
def impl_Touch.f (k : Nat) (a9 aS aT aU aV aQ aW aX aY aZ : Int) : Option (Int × Int × Int × Bool) := (impl_ShapeOk.f a9 aS aT).bind fun dJ => (if dJ = true then ((impl_ShapeOk.f aQ aW aX).bind fun dK => (if dK = true then ((impl_isPlace.f aU aV).bind fun dL => (if dL = true then ((impl_isPlace.f aY aZ).bind fun dM => (impl_Touch.j0 k (!dM) a9 aS aT aU aV aQ aW aX aY aZ)) else (impl_Touch.j0 k true a9 aS aT aU aV aQ aW aX aY aZ))) else (impl_Touch.j0 k true a9 aS aT aU aV aQ aW aX aY aZ))) else (impl_Touch.j0 k true a9 aS aT aU aV aQ aW aX aY aZ))
def impl_Touch.T6 : TT := (true, [([], []), ([], []), ([0, 1], [0, 1]), ([], []), ([], []), ([3, 4, 2], [3, 4]), ([2, 5, 5], [2, 5]), ([6], [6]), ([6], [6]), ([7, 6, 0, 1, 2, 3, 4, 5, 6, 7, 8], [7]), ([8, 9, 0, 1, 2, 3, 4, 5, 6, 7, 8, 9], [8])])
def impl_Touch.B6 : List Nat := [0, 0, 3, 0, 0, 31, 63, 127, 127, 511, 1023]
theorem impl_Touch.tab6 : rtab .any (opsOf Try.f48 6) = impl_Touch.T6 := by kernel_rfl
theorem impl_Touch.bits6 : waitsOk impl_Touch.T6.2 impl_Touch.B6 = true := by kernel_rfl
def impl_Touch.T8 : TT := (true, [([], []), ([], []), ([0, 1], [0, 1]), ([], []), ([], []), ([4], [4]), ([2, 3, 5, 2], [2, 3, 5]), ([6], [6]), ([6], [6]), ([7, 6, 0, 1, 2, 3, 4, 5, 6, 7, 8], [7]), ([8, 9, 0, 1, 2, 3, 4, 5, 6, 7, 8, 9], [8])])
def impl_Touch.B8 : List Nat := [0, 0, 3, 0, 0, 16, 63, 127, 127, 511, 1023]
theorem impl_Touch.tab8 : rtab .any (opsOf Try.f48 8) = impl_Touch.T8 := by kernel_rfl
theorem impl_Touch.bits8 : waitsOk impl_Touch.T8.2 impl_Touch.B8 = true := by kernel_rfl
def impl_Touch.T9 : TT := (true, [([], []), ([], []), ([0, 1], [0, 1]), ([], []), ([], []), ([4], [4]), ([2, 3, 5, 2], [2, 3, 5]), ([6], [6]), ([7], [7]), ([7], [7]), ([], []), ([10, 8, 6, 0, 1, 2, 3, 4, 5, 6, 7, 8, 10], [8, 10]), ([9, 11, 0, 1, 2, 3, 4, 5, 6, 7, 8, 9, 10, 11], [9])])
def impl_Touch.B9 : List Nat := [0, 0, 3, 0, 0, 16, 63, 127, 255, 255, 0, 1535, 4095]
theorem impl_Touch.tab9 : rtab .any (opsOf Try.f48 9) = impl_Touch.T9 := by kernel_rfl
theorem impl_Touch.bits9 : waitsOk impl_Touch.T9.2 impl_Touch.B9 = true := by kernel_rfl
theorem impl_Touch.calls {k : Nat} {a9 aS aT aU aV aQ aW aX aY aZ r1 r2 r3 : Int} {r4 : Bool} {w : World} (h : impl_Touch.f k a9 aS aT aU aV aQ aW aX aY aZ = some (r1, r2, r3, r4)) :
  Calls Try.prog 48 #[.agg #[.int .i64 a9, .int .i64 aS, .int .i64 aT], .agg #[.int .i64 aU, .int .i64 aV], .agg #[.int .i64 aQ, .int .i64 aW, .int .i64 aX], .agg #[.int .i64 aY, .int .i64 aZ]] w fun e w' => e = .returned (.tuple #[.agg #[.int .i64 r1, .int .i64 r2, .int .i64 r3], .bool r4]) ∧ Below w.heap.size w w' := by
 have hu39 := Try.underlying39; have hu33 := Try.underlying33; have hu35 := Try.underlying35; have HB := br w
 unfold impl_Touch.f at h
 have H := h; clear h; have cV := az H; clear H; go_enter Try.func48, Try.ntmps48
 go_upto_region 1 with (first | ((with_reducible refine gd 4 rfl ?_); refine bx 4 #[.int .i64 a9, .int .i64 aS, .int .i64 aT] 39 ?_; intro bB hg w6 a0 hb; have mY := se hg HB; replace HB := bS HB hb; clear hb hg) | ((with_reducible refine gd 5 rfl ?_); refine bx 5 #[.int .i64 aU, .int .i64 aV] 33 ?_; intro bC hg w7 a1 hb; have mZ := se hg HB; obtain ⟨bG, bH⟩ := nPB a0 hg; replace a0 := kBB a0 hb; replace HB := bS HB hb; clear hb hg) | ((with_reducible refine gd 6 rfl ?_); refine bx 6 #[.int .i64 aQ, .int .i64 aW, .int .i64 aX] 39 ?_; intro bD hg w8 a2 hb; have nA := se hg HB; obtain ⟨bI, bJ⟩ := nPB a0 hg; obtain ⟨bN, bO⟩ := nPB a1 hg; replace a0 := kBB a0 hb; replace a1 := kBB a1 hb; replace HB := bS HB hb; clear hb hg) | ((with_reducible refine gd 7 rfl ?_); refine bx 7 #[.int .i64 aY, .int .i64 aZ] 33 ?_; intro bE hg w9 a3 hb; have nB := se hg HB; obtain ⟨bK, bL⟩ := nPB a0 hg; obtain ⟨c6, c7⟩ := nPB a1 hg; obtain ⟨bP, bQ⟩ := nPB a2 hg; replace a0 := kBB a0 hb; replace a1 := kBB a1 hb; replace a2 := kBB a2 hb; replace HB := bS HB hb; clear hb hg) | ((with_reducible refine gd 8 rfl ?_); refine bz3 8 35 ?_; intro aP hg pI a4 hb; have nC := se hg HB; obtain ⟨a5, aF⟩ := nPB a0 hg; obtain ⟨a7, aH⟩ := nPB a1 hg; obtain ⟨a6, aG⟩ := nPB a2 hg; obtain ⟨a8, aI⟩ := nPB a3 hg; replace a0 := kBB a0 hb; replace a1 := kBB a1 hb; replace a2 := kBB a2 hb; replace a3 := kBB a3 hb; replace HB := bS HB hb; clear hb hg))
 (try simp only [Act.put, List.setIfInBounds_toArray, List.set_cons_zero, List.set_cons_succ])
 go_cut [29] (fun lD wc => ∃ (kq : Nat) (c8 : Bool), lD = .bool c8 ∧ Aside0 (impl_Touch.j0 kq c8 a9 aS aT aU aV aQ aW aX aY aZ = some (r1, r2, r3, r4)) ∧ Aside0 (kq ≤ k) ∧ Aside0 (wc.heap[bB]? = some (.cells #[.int .i64 a9, .int .i64 aS, .int .i64 aT] 39 (0, 0))) ∧ Aside0 (wc.heap[bC]? = some (.cells #[.int .i64 aU, .int .i64 aV] 33 (0, 0))) ∧ Aside0 (wc.heap[bD]? = some (.cells #[.int .i64 aQ, .int .i64 aW, .int .i64 aX] 39 (0, 0))) ∧ Aside0 (wc.heap[bE]? = some (.cells #[.int .i64 aY, .int .i64 aZ] 33 (0, 0))) ∧ Aside0 (wc.heap[aP]? = some (.cells #[.int .i64 0, .int .i64 0, .int .i64 0] 35 (0, 0))) ∧ Aside0 (Below w.heap.size w wc))
 case first =>
  have H := cV.out; clear cV; replace H := qH H; obtain ⟨cZ, cQ, H⟩ := H
  by_cases c9 : cZ = true; subst c9; replace H := qT H; replace H := qH H; obtain ⟨dA, cR, H⟩ := H
  by_cases cA : dA = true; subst cA; replace H := qT H; replace H := qH H; obtain ⟨dB, cS, H⟩ := H
  by_cases cB : dB = true; subst cB; replace H := qT H; replace H := qH H; obtain ⟨dC, dD, H⟩ := H
  have H' := az H; clear H; refine ?L1; rotate_left; replace cB := Bool.eq_false_iff.mpr cB; subst cB; replace H := qU H; have H' := az H; clear H; refine ?L2
  rotate_right
  rotate_left 2
  replace cA := Bool.eq_false_iff.mpr cA; subst cA; replace H := qU H; have H' := az H; clear H; refine ?L3
  rotate_right 2
  rotate_left 3
  replace c9 := Bool.eq_false_iff.mpr c9; subst c9; replace H := qU H; have H' := az H; clear H; refine ?L4
  rotate_right 3
  case' L1 | L2 | L3 | L4 =>
   have nD := bG.out; have nE := bH.out; have nF := bI.out; have nG := bJ.out; have nH := bK.out; have nI := bL.out; have nJ := a5.out; have nK := aF.out; obtain ⟨hI, hJ, hL⟩ := cz3 a0.out; obtain ⟨hM, hO, hP⟩ := fz3 a0.out
  case' L1 | L2 | L3 =>
   go_wp2_with (first | ((with_reducible refine gc 65 rfl ?_); refine gr 13 Try.func65 (impl_ShapeOk.calls (r := true) cQ.out) ?_; rintro pJ hb; replace a0 := kBB a0 hb; replace a1 := kBB a1 hb; replace a2 := kBB a2 hb; replace a3 := kBB a3 hb; replace a4 := kBB a4 hb; replace HB := bS HB hb; clear hb; have nL := bO.out; have nM := bN.out; have nN := bP.out; have nO := bQ.out; have nP := a6.out; have nQ := aG.out; obtain ⟨hQ, hR, hS⟩ := cz3 a2.out; obtain ⟨hU, hV, hW⟩ := fz3 a2.out) | (go_at_call 65; (with_reducible refine (impl_ShapeOk.calls (r := true) cR.out).mono ?_); rintro e pK ⟨rfl, hb⟩; replace a0 := kBB a0 hb; replace a1 := kBB a1 hb; replace a2 := kBB a2 hb; replace a3 := kBB a3 hb; replace a4 := kBB a4 hb; replace HB := bS HB hb; clear hb; have nR := c6.out; have nS := c7.out; have nT := a7.out; have nU := aH.out; obtain ⟨hX, hY⟩ := cz2 a1.out; have hZ := blk_frozen a1.out 0; have jA := blk_frozen a1.out 1) | (go_at_call 66; (with_reducible refine (impl_isPlace.calls (r := true) cS.out).mono ?_); rintro e pL ⟨rfl, hb⟩; replace a0 := kBB a0 hb; replace a1 := kBB a1 hb; replace a2 := kBB a2 hb; replace a3 := kBB a3 hb; replace a4 := kBB a4 hb; replace HB := bS HB hb; clear hb; have nV := a8.out; have nW := aI.out; obtain ⟨jB, jC⟩ := cz2 a3.out; have jD := blk_frozen a3.out 0; have jE := blk_frozen a3.out 1) | (go_at_call 66; (with_reducible refine (impl_isPlace.calls dD.out).mono ?_); rintro e pM ⟨rfl, hb⟩; replace a0 := kBB a0 hb; replace a1 := kBB a1 hb; replace a2 := kBB a2 hb; replace a3 := kBB a3 hb; replace a4 := kBB a4 hb; replace HB := bS HB hb; clear hb) | (go_at_call 66; (with_reducible refine (impl_isPlace.calls (r := false) cS.out).mono ?_); rintro e pN ⟨rfl, hb⟩; replace a0 := kBB a0 hb; replace a1 := kBB a1 hb; replace a2 := kBB a2 hb; replace a3 := kBB a3 hb; replace a4 := kBB a4 hb; replace HB := bS HB hb; clear hb) | (go_at_call 65; (with_reducible refine (impl_ShapeOk.calls (r := false) cR.out).mono ?_); rintro e pO ⟨rfl, hb⟩; replace a0 := kBB a0 hb; replace a1 := kBB a1 hb; replace a2 := kBB a2 hb; replace a3 := kBB a3 hb; replace a4 := kBB a4 hb; replace HB := bS HB hb; clear hb))
   go_meet
  case L1 =>
   exact ⟨_, (!dC), qG, H', ⟨qO⟩, ⟨qF a0⟩, ⟨qF a1⟩, ⟨qF a2⟩, ⟨qF a3⟩, ⟨qF a4⟩, ⟨qL HB⟩⟩
  case' L2 | L3 =>
   exact ⟨_, (true), qG, H', ⟨qO⟩, ⟨qF a0⟩, ⟨qF a1⟩, ⟨qF a2⟩, ⟨qF a3⟩, ⟨qF a4⟩, ⟨qL HB⟩⟩
  case L4 =>
   go_wp2_with (first | ((with_reducible refine gc 65 rfl ?_); refine gr 13 Try.func65 (impl_ShapeOk.calls (r := false) cQ.out) ?_; rintro pP hb; replace a0 := kBB a0 hb; replace a1 := kBB a1 hb; replace a2 := kBB a2 hb; replace a3 := kBB a3 hb; replace a4 := kBB a4 hb; replace HB := bS HB hb; clear hb))
   go_meet
   exact ⟨_, (true), qG, H', ⟨qO⟩, ⟨qF a0⟩, ⟨qF a1⟩, ⟨qF a2⟩, ⟨qF a3⟩, ⟨qF a4⟩, ⟨qL HB⟩⟩
 case rest =>
  clear cV; obtain ⟨kq, c8, rfl, HA, cT, a0, a1, a2, a3, a4, HB⟩ := hcut
  obtain ⟨lE, rfl⟩ := qz kq HA
  have H := HA.out; clear HA; simp only [impl_Touch.j0] at H; by_cases bY : c8 = true; subst bY; replace H := qT H; simp only [Option.some.injEq, Prod.mk.injEq] at H; obtain ⟨rfl, rfl, rfl, rfl⟩ := H; refine ?L5; rotate_left; replace bY := Bool.eq_false_iff.mpr bY; subst bY; replace H := qU H; refine ?L15
  rotate_right
  case L5 =>
   have nX := aF.out; have nY := a5.out; have nZ := aH.out; have o0 := a7.out; have o1 := aG.out; have o2 := a6.out; have o3 := aI.out; have o4 := a8.out; obtain ⟨jF, jG, jH⟩ := cz3 a4.out; obtain ⟨jI, jJ, jK⟩ := fz3 a4.out; go_wp2; refine rt aP 35 #[.int .i64 0, .int .i64 0, .int .i64 0] (qP a4) Try.underlying35 ?_; exact ⟨qE, qL HB⟩
  case L15 =>
   have cM := az H; clear H
   go_upto_region 3 with (fail)
   go_cut [31] (fun lF wc => ∃ (kq : Nat) (c2 : Bool), lF = .bool c2 ∧ Aside0 (impl_Touch.j1 kq c2 a9 aS aT aU aV aQ aW aX aY aZ = some (r1, r2, r3, r4)) ∧ Aside0 (kq ≤ lE) ∧ Aside0 (wc.heap[bB]? = some (.cells #[.int .i64 a9, .int .i64 aS, .int .i64 aT] 39 (0, 0))) ∧ Aside0 (wc.heap[bC]? = some (.cells #[.int .i64 aU, .int .i64 aV] 33 (0, 0))) ∧ Aside0 (wc.heap[bD]? = some (.cells #[.int .i64 aQ, .int .i64 aW, .int .i64 aX] 39 (0, 0))) ∧ Aside0 (wc.heap[bE]? = some (.cells #[.int .i64 aY, .int .i64 aZ] 33 (0, 0))) ∧ Aside0 (wc.heap[aP]? = some (.cells #[.int .i64 0, .int .i64 0, .int .i64 0] 35 (0, 0))) ∧ Aside0 (Below w.heap.size w wc))
   case first =>
    have H := cM.out; clear cM; by_cases bU : a9 = 1; rw [if_pos bU] at H; have bT := ba bU; have cU := bb bU; clear bU; (first | rw [bT] | (simp only [i64_w, i32_w]; rw [bT]) | skip); have H' := az H; clear H; refine ?L6; rotate_left; rw [if_neg bU] at H; have bT := be bU; have cU := bf bU; (first | rw [bT] | (simp only [i64_w, i32_w]; rw [bT]) | skip); have H' := az H; clear H; refine ?L7
    rotate_right
    case' L6 | L7 =>
     have o5 := bG.out; have o6 := bH.out; have o7 := bI.out; have o8 := bJ.out; have o9 := bK.out; have oA := bL.out; have oB := a5.out; have oC := aF.out; obtain ⟨jL, jM, jN⟩ := cz3 a0.out; obtain ⟨jO, jP, jQ⟩ := fz3 a0.out
    case L6 =>
     have oD := bO.out; have oE := bN.out; have oF := bP.out; have oG := bQ.out; have oH := a6.out; have oI := aG.out; obtain ⟨jR, jS, jT⟩ := cz3 a2.out; obtain ⟨jU, jV, jW⟩ := fz3 a2.out; go_wp2
     go_meet
     exact ⟨_, ((aQ == 1)), qG, H', ⟨ma cT⟩, ⟨qF a0⟩, ⟨qF a1⟩, ⟨qF a2⟩, ⟨qF a3⟩, ⟨qF a4⟩, ⟨qL HB⟩⟩
    case L7 =>
     go_wp2
     go_meet
     exact ⟨_, (false), qG, H', ⟨ma cT⟩, ⟨qF a0⟩, ⟨qF a1⟩, ⟨qF a2⟩, ⟨qF a3⟩, ⟨qF a4⟩, ⟨qL HB⟩⟩
   case rest =>
    clear cM; obtain ⟨kq, c2, rfl, HA, cW, a0, a1, a2, a3, a4, HB⟩ := hcut
    obtain ⟨dN, rfl⟩ := qz kq HA
    have H := HA.out; clear HA; simp only [impl_Touch.j1] at H; by_cases c3 : c2 = true; subst c3; replace H := qT H; replace H := qH H; obtain ⟨⟨dE, dF, dG, oJ⟩, dH, H⟩ := H
    try dsimp only at H
    simp only [Option.some.injEq, Prod.mk.injEq] at H; obtain ⟨rfl, rfl, rfl, rfl⟩ := H; refine ?L8; rotate_left; replace c3 := Bool.eq_false_iff.mpr c3; subst c3; replace H := qU H; refine ?L14
    rotate_right
    case L8 =>
     have oK := bH.out; have oL := bG.out; have oM := bN.out; have oN := bO.out; have oO := c6.out; have oP := c7.out; have oQ := a7.out; have oR := aH.out; obtain ⟨jX, jY⟩ := cz2 a1.out; have jZ := blk_frozen a1.out 0; have l9 := blk_frozen a1.out 1; have oS := bI.out; have oT := bJ.out; have oU := bK.out; have oV := bL.out; have oW := a5.out; have oX := aF.out; obtain ⟨dO, dP, dQ⟩ := cz3 a0.out; obtain ⟨dR, dS, dT⟩ := fz3 a0.out; have lG := bQ.out; have lH := bP.out; have lI := a8.out; have lJ := aI.out; obtain ⟨dU, dV⟩ := cz2 a3.out; have dW := blk_frozen a3.out 0; have dX := blk_frozen a3.out 1; have lK := a6.out; have lL := aG.out; obtain ⟨dY, dZ, e0⟩ := cz3 a2.out; obtain ⟨e1, e2, e3⟩ := fz3 a2.out; go_wp2_with (first | ((with_reducible refine gc 67 rfl ?_); refine gr 46 Try.func67 (impl_rounds.calls dH.out) ?_; rintro pA hb; replace a0 := kBB a0 hb; replace a1 := kBB a1 hb; replace a2 := kBB a2 hb; replace a3 := kBB a3 hb; replace a4 := kBB a4 hb; replace HB := bS HB hb; clear hb; obtain ⟨e4, e5, e6⟩ := cz3 a4.out; obtain ⟨e7, e8, e9⟩ := fz3 a4.out)); refine rt aP 35 #[.int .i64 dE, .int .i64 dF, .int .i64 dG] (qP a4) Try.underlying35 ?_; exact ⟨qE, qL HB⟩
    case L14 =>
     have cD := az H; clear H
     go_upto_region 5 with (fail)
     go_cut [49] (fun lM wc => ∃ (kq : Nat) (bZ : Bool), lM = .bool bZ ∧ Aside0 (impl_Touch.j2 kq bZ a9 aS aT aU aV aQ aW aX aY aZ = some (r1, r2, r3, r4)) ∧ Aside0 (kq ≤ dN) ∧ Aside0 (wc.heap[bB]? = some (.cells #[.int .i64 a9, .int .i64 aS, .int .i64 aT] 39 (0, 0))) ∧ Aside0 (wc.heap[bC]? = some (.cells #[.int .i64 aU, .int .i64 aV] 33 (0, 0))) ∧ Aside0 (wc.heap[bD]? = some (.cells #[.int .i64 aQ, .int .i64 aW, .int .i64 aX] 39 (0, 0))) ∧ Aside0 (wc.heap[bE]? = some (.cells #[.int .i64 aY, .int .i64 aZ] 33 (0, 0))) ∧ Aside0 (wc.heap[aP]? = some (.cells #[.int .i64 0, .int .i64 0, .int .i64 0] 35 (0, 0))) ∧ Aside0 (Below w.heap.size w wc))
     case first =>
      have H := cD.out; clear cD; by_cases b0 : a9 = 2; rw [if_pos b0] at H; have bF := ba b0; have c5 := bb b0; clear b0; (first | rw [bF] | (simp only [i64_w, i32_w]; rw [bF]) | skip); have H' := az H; clear H; refine ?L9; rotate_left; rw [if_neg b0] at H; have bF := be b0; have c5 := bf b0; (first | rw [bF] | (simp only [i64_w, i32_w]; rw [bF]) | skip); have H' := az H; clear H; refine ?L10
      rotate_right
      case' L9 | L10 =>
       have lN := bG.out; have lO := bH.out; have lP := bI.out; have lQ := bJ.out; have lR := bK.out; have lS := bL.out; have lT := a5.out; have lU := aF.out; obtain ⟨eA, eB, eC⟩ := cz3 a0.out; obtain ⟨eD, eE, eF⟩ := fz3 a0.out
      case L9 =>
       have lV := bO.out; have lW := bN.out; have lX := bP.out; have lY := bQ.out; have lZ := a6.out; have m0 := aG.out; obtain ⟨eG, eH, eI⟩ := cz3 a2.out; obtain ⟨eJ, eK, eL⟩ := fz3 a2.out; go_wp2
       go_meet
       exact ⟨_, ((aQ == 2)), qG, H', ⟨mb cT cW⟩, ⟨qF a0⟩, ⟨qF a1⟩, ⟨qF a2⟩, ⟨qF a3⟩, ⟨qF a4⟩, ⟨qL HB⟩⟩
      case L10 =>
       go_wp2
       go_meet
       exact ⟨_, (false), qG, H', ⟨mb cT cW⟩, ⟨qF a0⟩, ⟨qF a1⟩, ⟨qF a2⟩, ⟨qF a3⟩, ⟨qF a4⟩, ⟨qL HB⟩⟩
     case rest =>
      clear cD; obtain ⟨kq, bZ, rfl, HA, oY, a0, a1, a2, a3, a4, HB⟩ := hcut
      obtain ⟨oZ, rfl⟩ := qz kq HA
      have H := HA.out; clear HA; simp only [impl_Touch.j2] at H; by_cases cC : bZ = true; subst cC; replace H := qT H; replace H := qH H; obtain ⟨⟨cE, cF, cG, cH⟩, c0, H⟩ := H
      try dsimp only at H
      replace H := qH H; obtain ⟨⟨bV, bW, bR, c4⟩, bX, H⟩ := H
      try dsimp only at H
      replace H := qH H; obtain ⟨⟨cJ, cK, dI, p0⟩, cL, H⟩ := H
      try dsimp only at H
      simp only [Option.some.injEq, Prod.mk.injEq] at H; obtain ⟨rfl, rfl, rfl, rfl⟩ := H; refine ?L11; rotate_left; replace cC := Bool.eq_false_iff.mpr cC; subst cC; replace H := qU H; by_cases b0 : a9 = 2; rw [if_pos b0] at H; have bF := ba b0; have c5 := bb b0; clear b0; replace H := qH H; obtain ⟨⟨cE, cF, cG, cH⟩, c0, H⟩ := H
      try dsimp only at H
      replace H := qH H; obtain ⟨⟨bV, bW, bR, c4⟩, bX, H⟩ := H
      try dsimp only at H
      simp only [Option.some.injEq, Prod.mk.injEq] at H; obtain ⟨rfl, rfl, rfl, rfl⟩ := H; refine ?L12; rotate_left; rw [if_neg b0] at H; have bF := be b0; have c5 := bf b0; replace H := qH H; obtain ⟨⟨cE, cF, cG, cH⟩, c0, H⟩ := H
      try dsimp only at H
      replace H := qH H; obtain ⟨⟨bV, bW, bR, c4⟩, bX, H⟩ := H
      try dsimp only at H
      replace H := qH H; obtain ⟨⟨cJ, cK⟩, cL, H⟩ := H
      try dsimp only at H
      simp only [Option.some.injEq, Prod.mk.injEq] at H; obtain ⟨rfl, rfl, rfl, rfl⟩ := H; refine ?L13
      rotate_right 2
      case L11 =>
       try go_wp2
       replace a0 := bd a0; replace a1 := bd a1; replace a2 := bd a2; replace a3 := bd a3; replace a4 := bd a4; replace HB := ed HB; refine sa 11 (fun w' => ci bB 0 [.int .i64 a9, .int .i64 aS, .int .i64 aT] w' ∧ ci bC 0 [.int .i64 aU, .int .i64 aV] w' ∧ ci bD 0 [.int .i64 aQ, .int .i64 aW, .int .i64 aX] w' ∧ ci bE 0 [.int .i64 aY, .int .i64 aZ] w') [] ⟨cI a0, cI a1, cI a2, cI a3⟩ fun Z => ?_; refine with_tabW impl_Touch.tab6 impl_Touch.bits6 fun T Y => ?_; generalize wc.drew = pB at a0 a1 a2 a3 a4 HB Z ⊢; refine tz 0 58 T Y Z ?_; refine tz 1 59 T Y Z ?_; refine tz 3 61 T Y Z ?_; refine tz 4 62 T Y Z ?_; refine oo 11 2 60 31 T fun K hK => ?_; refine ky Try.func69 (impl_Shape_bounds.calls c0.out) ?_; rintro pC hb; replace a0 := kBB a0 hb; replace a1 := kBB a1 hb; replace a2 := kBB a2 hb; replace a3 := kBB a3 hb; replace a4 := kBB a4 hb; replace HB := bS HB hb; clear hb; refine hz hK ⟨cI a0, cI a1, cI a2, cI a3⟩ fun Z => ?_; clear hK K; refine nn 60 ?_; refine oo 11 5 63 63 T fun K hK => ?_; refine ky Try.func69 (impl_Shape_bounds.calls bX.out) ?_; rintro pD hb; replace a0 := kBB a0 hb; replace a1 := kBB a1 hb; replace a2 := kBB a2 hb; replace a3 := kBB a3 hb; replace a4 := kBB a4 hb; replace HB := bS HB hb; clear hb; refine hz hK ⟨cI a0, cI a1, cI a2, cI a3⟩ fun Z => ?_; clear hK K; refine nn 63 ?_; refine oo 11 6 64 127 T fun K hK => ?_; refine ky Try.func68 (impl_boxes.calls cL.out) ?_; rintro cN hb; replace a0 := kBB a0 hb; replace a1 := kBB a1 hb; replace a2 := kBB a2 hb; replace a3 := kBB a3 hb; replace a4 := kBB a4 hb; replace HB := bS HB hb; clear hb; refine hz hK ⟨cI a0, cI a1, cI a2, cI a3⟩ fun Z => ?_; clear hK K; refine nn 64 ?_; refine pz 7 65 T ?_; refine pz 8 66 T ?_; refine op 11 9 1023 T fun K hK => ?_; have p1 : cN.cell? ⟨aP, 0, none⟩ = some (.int .i64 0) := bc a4 0
       have m1 := blk_frozen a4.out 0; have eM := a5.out; have eN := a7.out; have eO := a6.out; have eP := a8.out; have eQ := aF.out; have eR := aH.out; have eS := aG.out; have eT := aI.out; have p2 : cN.cell? ⟨aP, 1, none⟩ = some (.int .i64 0) := bc a4 1; have m2 := blk_frozen a4.out 1; have eU := a5.out; have eV := a7.out; have eW := a6.out; have eX := a8.out; have eY := aF.out; have eZ := aH.out; have fA := aG.out; have fB := aI.out; have p3 : cN.cell? ⟨aP, 2, none⟩ = some (.int .i64 0) := bc a4 2; have m3 := blk_frozen a4.out 2; have fC := a5.out; have fD := a7.out; have fE := a6.out; have fG := a8.out; have fH := aF.out; have fI := aH.out; have fJ := aG.out; have fK := aI.out; refine sq ?_ ?_ ?_; rotate_left
       ·go_simp
        rfl
       refine hz hK ⟨(cif a5 (cif a5 (cif a5 Z.1))), (cif a7 (cif a7 (cif a7 Z.2.1))), (cif a6 (cif a6 (cif a6 Z.2.2.1))), (cif a8 (cif a8 (cif a8 Z.2.2.2)))⟩ fun Z => ?_; clear hK K; refine pz 10 9 T ?_; refine dn T ?_
       try go_wp2
       refine rt aP 35 #[.int .i64 cJ, .int .i64 cK, .int .i64 dI] (qP a4) Try.underlying35 ?_; exact ⟨qE, qL HB⟩
      case' L12 | L13 =>
       have m4 := bG.out; have m5 := bH.out; have m6 := bI.out; have m7 := bJ.out; have m8 := bK.out; have m9 := bL.out; have mA := a5.out; have mB := aF.out; have hcz142_c := cz3 a0.out; have hfz142_c := fz3 a0.out
       try go_wp2
       replace a0 := bd a0; replace a1 := bd a1; replace a2 := bd a2; replace a3 := bd a3; replace a4 := bd a4; replace HB := ed HB
      case L12 =>
       refine sa 11 (fun w' => ci bB 0 [.int .i64 a9, .int .i64 aS, .int .i64 aT] w' ∧ ci bC 0 [.int .i64 aU, .int .i64 aV] w' ∧ ci bE 0 [.int .i64 aY, .int .i64 aZ] w' ∧ ci bD 0 [.int .i64 aQ, .int .i64 aW, .int .i64 aX] w') [] ⟨cI a0, cI a1, cI a3, cI a2⟩ fun Z => ?_; refine with_tabW impl_Touch.tab8 impl_Touch.bits8 fun T Y => ?_; generalize wc.drew = pE at a0 a1 a2 a3 a4 HB Z ⊢; refine pz 4 75 T ?_; refine tz 0 71 T Y Z ?_; refine tz 1 72 T Y Z ?_; refine tz 3 74 T Y Z ?_; refine tz 5 76 T Y Z ?_; refine oo 11 2 73 63 T fun K hK => ?_; refine ky Try.func69 (impl_Shape_bounds.calls c0.out) ?_; rintro pF hb; replace a0 := kBB a0 hb; replace a1 := kBB a1 hb; replace a2 := kBB a2 hb; replace a3 := kBB a3 hb; replace a4 := kBB a4 hb; replace HB := bS HB hb; clear hb; refine hz hK ⟨cI a0, cI a1, cI a3, cI a2⟩ fun Z => ?_; clear hK K; refine nn 73 ?_; refine oo 11 6 77 127 T fun K hK => ?_; refine ky Try.func70 (impl_boxRound.calls bX.out) ?_; rintro cO hb; replace a0 := kBB a0 hb; replace a1 := kBB a1 hb; replace a2 := kBB a2 hb; replace a3 := kBB a3 hb; replace a4 := kBB a4 hb; replace HB := bS HB hb; clear hb; refine hz hK ⟨cI a0, cI a1, cI a3, cI a2⟩ fun Z => ?_; clear hK K; refine nn 77 ?_; refine pz 7 78 T ?_; refine pz 8 79 T ?_; refine op 11 9 1023 T fun K hK => ?_; have p4 : cO.cell? ⟨aP, 0, none⟩ = some (.int .i64 0) := bc a4 0; have mC := blk_frozen a4.out 0; have fL := a5.out; have fM := a7.out; have fN := a6.out; have fO := a8.out; have fP := aF.out; have fQ := aH.out; have fR := aG.out; have fS := aI.out; have p5 : cO.cell? ⟨aP, 1, none⟩ = some (.int .i64 0) := bc a4 1; have mD := blk_frozen a4.out 1; have fT := a5.out; have fU := a7.out; have fV := a6.out; have fW := a8.out; have fX := aF.out; have fY := aH.out; have fZ := aG.out; have g0 := aI.out; have p6 : cO.cell? ⟨aP, 2, none⟩ = some (.int .i64 0) := bc a4 2
       have mE := blk_frozen a4.out 2; have g1 := a5.out; have g2 := a7.out; have g3 := a6.out; have g4 := a8.out; have g5 := aF.out; have g6 := aH.out; have g7 := aG.out; have g8 := aI.out; refine sq ?_ ?_ ?_; rotate_left
       ·go_simp
        rfl
       refine hz hK ⟨(cif a5 (cif a5 (cif a5 Z.1))), (cif a7 (cif a7 (cif a7 Z.2.1))), (cif a8 (cif a8 (cif a8 Z.2.2.1))), (cif a6 (cif a6 (cif a6 Z.2.2.2)))⟩ fun Z => ?_; clear hK K; refine pz 10 9 T ?_; refine dn T ?_
       try go_wp2
       refine rt aP 35 #[.int .i64 bV, .int .i64 bW, .int .i64 bR] (qP a4) Try.underlying35 ?_; exact ⟨qE, qL HB⟩
      case L13 =>
       refine sa 13 (fun w' => ci bD 0 [.int .i64 aQ, .int .i64 aW, .int .i64 aX] w' ∧ ci bE 0 [.int .i64 aY, .int .i64 aZ] w' ∧ ci bC 0 [.int .i64 aU, .int .i64 aV] w' ∧ ci bB 0 [.int .i64 a9, .int .i64 aS, .int .i64 aT] w') [] ⟨cI a2, cI a3, cI a1, cI a0⟩ fun Z => ?_; refine with_tabW impl_Touch.tab9 impl_Touch.bits9 fun T Y => ?_; generalize wc.drew = pG at a0 a1 a2 a3 a4 HB Z ⊢; refine pz 4 85 T ?_; refine tz 0 81 T Y Z ?_; refine tz 1 82 T Y Z ?_; refine tz 3 84 T Y Z ?_; refine tz 5 86 T Y Z ?_; refine join_ (σ := Nat) 2 (fl 13 2047) (fun s_ => [(83, .agg #[.int .i64 cE, .int .i64 cF, .int .i64 cG, .int .i64 cH]), (87, .tuple #[.agg #[.int .i64 bV, .int .i64 bW, .int .i64 bR], .bool c4]), (10, .pointer (some ⟨s_, 0, none⟩)), (80, .tuple #[.agg #[.int .i64 bV, .int .i64 bW, .int .i64 bR], .bool c4]), (88, .agg #[.int .i64 bV, .int .i64 bW, .int .i64 bR]), (89, .bool c4)]) (fun s_ w' => (ci bD 0 [.int .i64 aQ, .int .i64 aW, .int .i64 aX] w' ∧ ci bE 0 [.int .i64 aY, .int .i64 aZ] w' ∧ ci bC 0 [.int .i64 aU, .int .i64 aV] w' ∧ ci bB 0 [.int .i64 a9, .int .i64 aS, .int .i64 aT] w') ∧ (w'.heap[bB]? = some (.cells #[.int .i64 a9, .int .i64 aS, .int .i64 aT] 39 (0, 0))) ∧ (w'.heap[bC]? = some (.cells #[.int .i64 aU, .int .i64 aV] 33 (0, 0))) ∧ (w'.heap[bD]? = some (.cells #[.int .i64 aQ, .int .i64 aW, .int .i64 aX] 39 (0, 0))) ∧ (w'.heap[bE]? = some (.cells #[.int .i64 aY, .int .i64 aZ] 33 (0, 0))) ∧ (w'.heap[aP]? = some (.cells #[.int .i64 0, .int .i64 0, .int .i64 0] 35 (0, 0))) ∧ (w'.heap[s_]? = some (.cells #[.int .i64 0, .int .i64 0, .int .i64 0] 35 (0, 0))) ∧ (w.heap.size ≤ s_) ∧ (w.heap.size ≤ s_) ∧ (bB ≠ s_) ∧ (s_ ≠ bB) ∧ (bC ≠ s_) ∧ (s_ ≠ bC) ∧ (bD ≠ s_) ∧ (s_ ≠ bD) ∧ (bE ≠ s_) ∧ (s_ ≠ bE) ∧ (aP ≠ s_) ∧ (s_ ≠ aP) ∧ (Below w.heap.size w w')) ?_ ?_; rotate_left
       ·intro hCont; refine tt 13 2 10 83 10 63 1083 T (fun K hK => ?_) fun K hK => ?_
        ·skip; refine ky Try.func69 (impl_Shape_bounds.calls c0.out) ?_; rintro g9 hb; replace a0 := kBB a0 hb; replace a1 := kBB a1 hb; replace a2 := kBB a2 hb; replace a3 := kBB a3 hb; replace a4 := kBB a4 hb; replace HB := bS HB hb; clear hb; refine hz hK ⟨cI a2, cI a3, cI a1, cI a0⟩ fun Z => ?_; clear hK K; refine nn 83 ?_; refine tt 13 6 10 87 10 127 1087 T (fun K hK => ?_) fun K hK => ?_
         ·skip; refine ky Try.func70 (impl_boxRound.calls bX.out) ?_; rintro cX hb; replace a0 := kBB a0 hb; replace a1 := kBB a1 hb; replace a2 := kBB a2 hb; replace a3 := kBB a3 hb; replace a4 := kBB a4 hb; replace HB := bS HB hb; clear hb; refine hz hK ⟨cI a2, cI a3, cI a1, cI a0⟩ fun Z => ?_; clear hK K; refine nn 87 ?_; refine pz 7 80 T ?_; refine pz 8 88 T ?_; refine pz 9 89 T ?_; refine oo 13 10 10 2047 T fun K hK => ?_; refine bw 10 #[.int .i64 0, .int .i64 0, .int .i64 0] 35 ?_; intro b8 hg cY aE hb; have bM := se hg HB; have c1 := bM; obtain ⟨aA, aJ⟩ := nPB a0 hg; obtain ⟨aB, aK⟩ := nPB a1 hg; obtain ⟨aC, aL⟩ := nPB a2 hg; obtain ⟨aD, aM⟩ := nPB a3 hg; obtain ⟨aN, aO⟩ := nPB a4 hg; replace a0 := kBB a0 hb; replace a1 := kBB a1 hb; replace a2 := kBB a2 hb; replace a3 := kBB a3 hb; replace a4 := kBB a4 hb; replace HB := bS HB hb; clear hb hg; refine hz hK ⟨cI a2, cI a3, cI a1, cI a0⟩ fun Z => ?_; clear hK K; refine nn 10 ?_; exact nrm (hCont (b8) _ ⟨Z, (qB a0), (qB a1), (qB a2), (qB a3), (qB a4), (qB aE), bM.out, c1.out, aA.out, aJ.out, aB.out, aK.out, aC.out, aL.out, aD.out, aM.out, aN.out, aO.out, (qL HB)⟩)
         skip; refine bw 10 #[.int .i64 0, .int .i64 0, .int .i64 0] 35 ?_; intro b8 hg cX aE hb; have bM := se hg HB; have c1 := bM; obtain ⟨aA, aJ⟩ := nPB a0 hg; obtain ⟨aB, aK⟩ := nPB a1 hg; obtain ⟨aC, aL⟩ := nPB a2 hg; obtain ⟨aD, aM⟩ := nPB a3 hg; obtain ⟨aN, aO⟩ := nPB a4 hg; replace a0 := kBB a0 hb; replace a1 := kBB a1 hb; replace a2 := kBB a2 hb; replace a3 := kBB a3 hb; replace a4 := kBB a4 hb; replace HB := bS HB hb; clear hb hg; refine hz hK ⟨cI a2, cI a3, cI a1, cI a0⟩ fun Z => ?_; clear hK K; refine nn 10 ?_; refine oo 13 6 87 1151 T fun K hK => ?_; refine ky Try.func70 (impl_boxRound.calls bX.out) ?_; rintro cY hb; replace a0 := kBB a0 hb; replace a1 := kBB a1 hb; replace a2 := kBB a2 hb; replace a3 := kBB a3 hb; replace a4 := kBB a4 hb; replace aE := kBB aE hb; replace HB := bS HB hb; clear hb; refine hz hK ⟨cI a2, cI a3, cI a1, cI a0⟩ fun Z => ?_; clear hK K; refine nn 87 ?_; refine pz 7 80 T ?_; refine pz 8 88 T ?_; refine pu 9 (some 89) (fl 13 2047) T ?_; exact nrm (hCont (b8) _ ⟨Z, (qB a0), (qB a1), (qB a2), (qB a3), (qB a4), (qB aE), bM.out, c1.out, aA.out, aJ.out, aB.out, aK.out, aC.out, aL.out, aD.out, aM.out, aN.out, aO.out, (qL HB)⟩)
        skip; refine bw 10 #[.int .i64 0, .int .i64 0, .int .i64 0] 35 ?_; intro b8 hg g9 aE hb; have bM := se hg HB; have c1 := bM; obtain ⟨aA, aJ⟩ := nPB a0 hg; obtain ⟨aB, aK⟩ := nPB a1 hg; obtain ⟨aC, aL⟩ := nPB a2 hg; obtain ⟨aD, aM⟩ := nPB a3 hg; obtain ⟨aN, aO⟩ := nPB a4 hg; replace a0 := kBB a0 hb; replace a1 := kBB a1 hb; replace a2 := kBB a2 hb; replace a3 := kBB a3 hb; replace a4 := kBB a4 hb; replace HB := bS HB hb; clear hb hg; refine hz hK ⟨cI a2, cI a3, cI a1, cI a0⟩ fun Z => ?_; clear hK K; refine nn 10 ?_; refine oo 13 2 83 1087 T fun K hK => ?_; refine ky Try.func69 (impl_Shape_bounds.calls c0.out) ?_; rintro cX hb; replace a0 := kBB a0 hb; replace a1 := kBB a1 hb; replace a2 := kBB a2 hb; replace a3 := kBB a3 hb; replace a4 := kBB a4 hb; replace aE := kBB aE hb; replace HB := bS HB hb; clear hb; refine hz hK ⟨cI a2, cI a3, cI a1, cI a0⟩ fun Z => ?_; clear hK K; refine nn 83 ?_; refine oo 13 6 87 1151 T fun K hK => ?_; refine ky Try.func70 (impl_boxRound.calls bX.out) ?_; rintro cY hb; replace a0 := kBB a0 hb; replace a1 := kBB a1 hb; replace a2 := kBB a2 hb; replace a3 := kBB a3 hb; replace a4 := kBB a4 hb; replace aE := kBB aE hb; replace HB := bS HB hb; clear hb; refine hz hK ⟨cI a2, cI a3, cI a1, cI a0⟩ fun Z => ?_; clear hK K; refine nn 87 ?_; refine pz 7 80 T ?_; refine pz 8 88 T ?_; refine pu 9 (some 89) (fl 13 2047) T ?_; exact nrm (hCont (b8) _ ⟨Z, (qB a0), (qB a1), (qB a2), (qB a3), (qB a4), (qB aE), bM.out, c1.out, aA.out, aJ.out, aB.out, aK.out, aC.out, aL.out, aD.out, aM.out, aN.out, aO.out, (qL HB)⟩)
       rintro b8 cP ⟨hS_, h0_, h1_, h2_, h3_, h4_, h5_, h6_, h7_, h8_, h9_, h10_, h11_, h12_, h13_, h14_, h15_, h16_, h17_, h18_⟩; have aE := az h5_; have bM := az h6_; have c1 := az h7_; have aA := az h8_; have aJ := az h9_; have aB := az h10_; have aK := az h11_; have aC := az h12_; have aL := az h13_; have aD := az h14_; have aM := az h15_; have aN := az h16_; have aO := az h17_; replace a0 := az h0_; replace a1 := az h1_; replace a2 := az h2_; replace a3 := az h3_; replace a4 := az h4_; replace HB := az h18_; clear h0_ h1_ h2_ h3_ h4_ h5_ h6_ h7_ h8_ h9_ h10_ h11_ h12_ h13_ h14_ h15_ h16_ h17_ h18_; have Z := hS_; refine nmp ?_; refine op 13 11 4095 T fun K hK => ?_; have p7 : cP.cell? ⟨b8, 0, none⟩ = some (.int .i64 0) := bc aE 0; have mF := blk_frozen aE.out 0; have gA := aA.out; have gB := aB.out; have gC := aC.out; have gD := aD.out; have gF := aN.out; have gG := aJ.out; have gH := aK.out; have gI := aL.out; have gJ := aM.out; have gL := aO.out; have p8 : cP.cell? ⟨b8, 1, none⟩ = some (.int .i64 0) := bc aE 1; have mG := blk_frozen aE.out 1; have gM := aA.out; have gN := aB.out; have gO := aC.out; have gP := aD.out; have gQ := aN.out; have gR := aJ.out; have gS := aK.out; have gT := aL.out; have gU := aM.out; have gV := aO.out; have p9 : cP.cell? ⟨b8, 2, none⟩ = some (.int .i64 0) := bc aE 2; have mH := blk_frozen aE.out 2; have gW := aA.out; have gX := aB.out; have gY := aC.out; have gZ := aD.out; have hA := aN.out; have hD := aJ.out; have hE := aK.out; have hF := aL.out; have hG := aM.out; have hH := aO.out; refine sq ?_ ?_ ?_; rotate_left
       ·go_simp
        rfl
       refine hz hK ⟨(cif aC (cif aC (cif aC Z.1))), (cif aD (cif aD (cif aD Z.2.1))), (cif aB (cif aB (cif aB Z.2.2.1))), (cif aA (cif aA (cif aA Z.2.2.2)))⟩ fun Z => ?_; clear hK K; refine pz 12 11 T ?_; refine dn T ?_; have mI := aJ.out; have mJ := aA.out; have mK := aK.out; have mL := aB.out; have mM := aL.out; have mN := aC.out; have mO := aM.out; have mP := aD.out; have mQ := aO.out; have mR := aN.out; have hcz170_c := cz3 aE.out; have hfz170_c := fz3 aE.out
       try go_wp2_with (first | ((with_reducible refine gc 71 rfl ?_); refine gr 92 Try.func71 (impl_Vec_opposite.calls cL.out) ?_; rintro pH hb; replace a0 := kBF a0 hb; replace a1 := kBF a1 hb; replace a2 := kBF a2 hb; replace a3 := kBF a3 hb; replace a4 := kBF a4 hb; replace aE := kBP (o' := .cells #[.int .i64 bV, .int .i64 bW, .int .i64 bR] 35 (0, 0)) aE hb; replace HB := bS HB hb; clear hb; have hcz172_c := cz3 aE.out; have hfz172_c := fz3 aE.out; have mS := aH.out; have mT := a7.out; have mU := aG.out; have mV := a6.out; have mW := aI.out; have mX := a8.out; have hcz176_c := cz3 a4.out; have hfz176_c := fz3 a4.out))
       refine rt aP 35 #[.int .i64 cJ, .int .i64 cK, .int .i64 bR] (qP a4) Try.underlying35 ?_; exact ⟨qE, qL HB⟩

/-! ### impl_Body_touch: function 55 -/
def impl_Body_touch.f (k : Nat) (aH a7 a8 a9 aA aB aI aJ aK aL a3 a4 aM aC aD aE aF aG aN aO aP aQ a5 a6 : Int) : Option (Int × Int × Int × Bool) := (impl_Touch.f k a7 a8 a9 aA aB aC aD aE aF aG).bind fun bt999 => (some (bt999.1, bt999.2.1, bt999.2.2.1, bt999.2.2.2))
theorem impl_Body_touch.calls {k : Nat} {aH a7 a8 a9 aA aB aI aJ aK aL a3 a4 aM aC aD aE aF aG aN aO aP aQ a5 a6 r1 r2 r3 : Int} {r4 : Bool} {w : World} (h : impl_Body_touch.f k aH a7 a8 a9 aA aB aI aJ aK aL a3 a4 aM aC aD aE aF aG aN aO aP aQ a5 a6 = some (r1, r2, r3, r4)) :
  Calls Try.prog 55 #[.agg #[.int .i64 aH, .int .i64 a7, .int .i64 a8, .int .i64 a9, .int .i64 aA, .int .i64 aB, .int .i64 aI, .int .i64 aJ, .int .i64 aK, .int .i64 aL, .int .i64 a3, .int .i64 a4], .agg #[.int .i64 aM, .int .i64 aC, .int .i64 aD, .int .i64 aE, .int .i64 aF, .int .i64 aG, .int .i64 aN, .int .i64 aO, .int .i64 aP, .int .i64 aQ, .int .i64 a5, .int .i64 a6]] w fun e w' => e = .returned (.tuple #[.agg #[.int .i64 r1, .int .i64 r2, .int .i64 r3], .bool r4]) ∧ Below w.heap.size w w' := by
 have hu41 := Try.underlying41; have hu35 := Try.underlying35; have hu39 := Try.underlying39; have hu33 := Try.underlying33; have HB := br w
 unfold impl_Body_touch.f at h
 have H := h; clear h; replace H := qH H; obtain ⟨⟨b2, aY, aZ, b3⟩, A3, H⟩ := H
 try dsimp only at H
 simp only [Option.some.injEq, Prod.mk.injEq] at H; obtain ⟨rfl, rfl, rfl, rfl⟩ := H; go_enter Try.func55, Try.ntmps55; go_wp2_with (first | ((with_reducible refine gd 2 rfl ?_); refine bx 2 #[.int .i64 aH, .int .i64 a7, .int .i64 a8, .int .i64 a9, .int .i64 aA, .int .i64 aB, .int .i64 aI, .int .i64 aJ, .int .i64 aK, .int .i64 aL, .int .i64 a3, .int .i64 a4] 41 ?_; intro b0 hg w4 a0 hb; have b4 := se hg HB; replace HB := bS HB hb; clear hb hg) | ((with_reducible refine gd 3 rfl ?_); refine bx 3 #[.int .i64 aM, .int .i64 aC, .int .i64 aD, .int .i64 aE, .int .i64 aF, .int .i64 aG, .int .i64 aN, .int .i64 aO, .int .i64 aP, .int .i64 aQ, .int .i64 a5, .int .i64 a6] 41 ?_; intro b1 hg w5 a1 hb; have b5 := se hg HB; obtain ⟨aR, aS⟩ := nPB a0 hg; replace a0 := kBB a0 hb; replace HB := bS HB hb; clear hb hg) | ((with_reducible refine gd 4 rfl ?_); refine bz3 4 35 ?_; intro aX hg w6 a2 hb; have b6 := se hg HB; obtain ⟨aT, aU⟩ := nPB a0 hg; obtain ⟨aV, aW⟩ := nPB a1 hg; replace a0 := kBB a0 hb; replace a1 := kBB a1 hb; replace HB := bS HB hb; clear hb hg; have b9 := aR.out; have bA := aS.out; have bB := aT.out; have bC := aU.out; have hcz9_c := cz12 a0.out; have hfz9_c := fz12 a0.out; have b7 := aV.out; have b8 := aW.out; have hcz11_c := cz12 a1.out; have hfz11_c := fz12 a1.out) | ((with_reducible refine gc 48 rfl ?_); refine gr 14 Try.func48 (impl_Touch.calls A3.out) ?_; rintro bD hb; replace a0 := kBB a0 hb; replace a1 := kBB a1 hb; replace a2 := kBB a2 hb; replace HB := bS HB hb; clear hb; have hcz13_c := cz3 a2.out; have hfz13_c := fz3 a2.out)); refine rt aX 35 #[.int .i64 b2, .int .i64 aY, .int .i64 aZ] (qP a2) Try.underlying35 ?_; exact ⟨qE, qL HB⟩

/-! ### impl_Contacts: function 18 -/
mutual
def impl_Contacts.l0 : Nat → List S41 → List S37 → List S41 → Int → Int → Option ((List S37))
  | 0, _, _, _, _, _ => none
  | k + 1, x0, x3, b8, c7, aE => if aE < c7 then (if 0 ≤ aE then (if aE < (b8.length : Int) then (impl_Contacts.l1 k x0 x3 aE (wrap64 (aE + 1)) b8 c7 aE ((rd_T41 b8 aE).f0) ((rd_T41 b8 aE).f1.f0) ((rd_T41 b8 aE).f1.f1) ((rd_T41 b8 aE).f1.f2) ((rd_T41 b8 aE).f2.f0) ((rd_T41 b8 aE).f2.f1) ((rd_T41 b8 aE).f3.f0) ((rd_T41 b8 aE).f3.f1) ((rd_T41 b8 aE).f4) ((rd_T41 b8 aE).f5) ((rd_T41 b8 aE).f6) ((rd_T41 b8 aE).f7)) else none) else none) else (some x3)
def impl_Contacts.l1 : Nat → List S41 → List S37 → Int → Int → List S41 → Int → Int → Int → Int → Int → Int → Int → Int → Int → Int → Int → Int → Int → Int → Option ((List S37))
  | 0, _, _, _, _, _, _, _, _, _, _, _, _, _, _, _, _, _, _, _ => none
  | k + 1, x0, x3, x4, x6, b8, c7, aE, aT, aU, aV, aW, aX, aY, aZ, b0, b1, b2, b3, b4 => if x6 < (x0.length : Int) then ((impl_Body_fixed.f aT aU aV aW aX aY aZ b0 b1 b2 b3 b4).bind fun eD => (if eD = true then (if 0 ≤ x6 then ((impl_Body_fixed.f ((rd_T41 x0 x6).f0) ((rd_T41 x0 x6).f1.f0) ((rd_T41 x0 x6).f1.f1) ((rd_T41 x0 x6).f1.f2) ((rd_T41 x0 x6).f2.f0) ((rd_T41 x0 x6).f2.f1) ((rd_T41 x0 x6).f3.f0) ((rd_T41 x0 x6).f3.f1) ((rd_T41 x0 x6).f4) ((rd_T41 x0 x6).f5) ((rd_T41 x0 x6).f6) ((rd_T41 x0 x6).f7)).bind fun eE => (impl_Contacts.j2 k x0 x3 x4 x6 b8 c7 aE eE aT aU aV aW aX aY aZ b0 b1 b2 b3 b4)) else none) else (impl_Contacts.j2 k x0 x3 x4 x6 b8 c7 aE false aT aU aV aW aX aY aZ b0 b1 b2 b3 b4))) else (impl_Contacts.l0 k x0 x3 b8 c7 (wrap64 (aE + 1)))
def impl_Contacts.j2 : Nat → List S41 → List S37 → Int → Int → List S41 → Int → Int → Bool → Int → Int → Int → Int → Int → Int → Int → Int → Int → Int → Int → Int → Option ((List S37))
  | 0, _, _, _, _, _, _, _, _, _, _, _, _, _, _, _, _, _, _, _, _ => none
  | k + 1, x0, x3, x4, x6, b8, c7, aE, g0, aT, aU, aV, aW, aX, aY, aZ, b0, b1, b2, b3, b4 => if g0 = true then (impl_Contacts.l1 k x0 x3 x4 (wrap64 (x6 + 1)) b8 c7 aE aT aU aV aW aX aY aZ b0 b1 b2 b3 b4) else (if 0 ≤ x6 then (if x6 < (x0.length : Int) then ((impl_Body_touch.f k aT aU aV aW aX aY aZ b0 b1 b2 b3 b4 ((rd_T41 x0 x6).f0) ((rd_T41 x0 x6).f1.f0) ((rd_T41 x0 x6).f1.f1) ((rd_T41 x0 x6).f1.f2) ((rd_T41 x0 x6).f2.f0) ((rd_T41 x0 x6).f2.f1) ((rd_T41 x0 x6).f3.f0) ((rd_T41 x0 x6).f3.f1) ((rd_T41 x0 x6).f4) ((rd_T41 x0 x6).f5) ((rd_T41 x0 x6).f6) ((rd_T41 x0 x6).f7)).bind fun bt1010 => (if bt1010.2.2.2 = true then (if x3.length < 3518437208883 then (impl_Contacts.l1 k x0 (x3 ++ [(⟨x4, x6, (⟨(⟨bt1010.1, bt1010.2.1⟩ : S33), bt1010.2.2.1⟩ : S35)⟩ : S37)]) x4 (wrap64 (x6 + 1)) b8 c7 aE aT aU aV aW aX aY aZ b0 b1 b2 b3 b4) else none) else (impl_Contacts.l1 k x0 x3 x4 (wrap64 (x6 + 1)) b8 c7 aE aT aU aV aW aX aY aZ b0 b1 b2 b3 b4))) else none) else none)
end
def impl_Contacts.f (k : Nat) (l0 : List S41) : Option ((List S37)) := (impl_BodiesOk.f k l0).bind fun eF => (if eF = true then (impl_Contacts.l0 k l0 ([] : List S37) l0 (l0.length : Int) 0) else (some ([] : List S37)))
def impl_Contacts.T11 : TT := (true, [([], []), ([], []), ([], []), ([1, 2], [1, 2]), ([3], [3]), ([0, 4], [0, 4]), ([5], [5]), ([6], [6]), ([6], [6]), ([], []), ([9, 7, 5, 0, 1, 2, 3, 4, 5, 6, 7, 9], [7, 9]), ([8, 10, 0, 1, 2, 3, 4, 5, 6, 7, 8, 9, 10], [8])])
def impl_Contacts.B11 : List Nat := [0, 0, 0, 6, 14, 31, 63, 127, 127, 0, 767, 2047]
theorem impl_Contacts.tab11 : rtab .any (opsOf Try.f18 11) = impl_Contacts.T11 := by kernel_rfl
theorem impl_Contacts.bits11 : waitsOk impl_Contacts.T11.2 impl_Contacts.B11 = true := by kernel_rfl
theorem impl_Contacts.calls {k : Nat} {A0 : Option Addr} {c0 : Nat} {l0 : List S41} {r : List S37} {w : World} (hr0 : Kd.C k41 w A0 l0.length l0) (hc0 : l0.length ≤ c0) (h : impl_Contacts.f k l0 = some r) :
  Calls Try.prog 18 #[.slice A0 l0.length c0] w fun e w' => ∃ eN : Value, e = .returned (eN) ∧ Kd.R k37 37 w' w.heap.size (fun _ => True) eN r ∧ Below w.heap.size w w' := by
 have hu41 := Try.underlying41; have hu35 := Try.underlying35; have hu37 := Try.underlying37; have HR0 := az hr0; have eO := az hc0; clear hr0 hc0; have HB := br w
 unfold impl_Contacts.f at h
 have H := h; clear h; replace H := qH H; obtain ⟨eG, e5, H⟩ := H
 by_cases bI : eG = true; subst bI; replace H := qT H; have H' := az H; clear H; refine ?L10; rotate_left; replace bI := Bool.eq_false_iff.mpr bI; subst bI; replace H := qU H; obtain rfl := Option.some.inj H; refine ?L11
 rotate_right
 case' L10 | L11 =>
  go_enter Try.func18, Try.ntmps18
 case L10 =>
  go_wp2_with (first | ((with_reducible refine gc 27 rfl ?_); refine gr 10 Try.func27 (impl_BodiesOk.calls (r := true) (qC HR0.out) eO.out e5.out) ?_; rintro w4 hb; replace HB := bS HB hb; clear hb))
  go_loopg [3, 14] k (fun kq v3 v14 w' => ∃ (dE : List S37) (a0 : Int), v14 = .int .i64 a0 ∧ Aside0 (impl_Contacts.l0 kq l0 dE l0 (l0.length : Int) a0 = some r) ∧ Aside0 (kq ≤ k) ∧ Aside0 (Kd.R k37 37 w' w.heap.size (fun _ => True) v3 dE) ∧ Aside0 (Below w.heap.size w w'))
  case atStart => exact ⟨(([] : List S37)), (0), qG, H', ⟨Nat.le_refl _⟩, ⟨by first | exact Kd.R_nil _ _ _ _ _ | exact Kd.N_nil _ _ _ _ _ | exact Kd.V_nil _ _ _ _ _ | exact Kd.Q_nil _ _ _ _ _ | exact Kd.S_nil _ _ _ _ _⟩, ⟨qL HB⟩⟩
  case round =>
   clear H'; obtain ⟨dE, a0, rfl, HA, c8, a5, HB⟩ := hrel
   obtain ⟨k1, rfl⟩ := qz gk HA
   have H := HA.out; clear HA; simp only [impl_Contacts.l0] at H; replace H := qc H; obtain ⟨bD, H⟩ | ⟨bD, H⟩ := H; replace H := qd H; obtain ⟨cZ, H⟩ := H; replace H := qd H; obtain ⟨bD, H⟩ := H; have H' := az H; clear H; refine ?L8; rotate_left; obtain rfl := Option.some.inj H; refine ?L9
   rotate_right
   case L8 =>
    obtain ⟨cA, cB, c6, eH, bJ, bK, bL, bM, bN, bO, bP, bQ, bR, bT, bE, bF⟩ := ay41 HR0.out a0; cases eH; obtain ⟨bJ, bK, bL, bM, bN, bO, bP, bQ, bR, bT, bE, bF⟩ := hB12 HB bJ bK bL bM bN bO bP bQ bR bT bE bF; go_wp2_with (first | ((with_reducible refine gd 5 rfl ?_); refine bz12 5 41 ?_; intro aD hg w8 a1 hb; have g1 := se hg HB; replace a5 := rb a5 hb; replace HB := bS HB hb; clear hb hg; obtain ⟨dJ, dK, dL, dM, dN, dO, dP, dQ, dR, dS, dA, dB⟩ := cz12 a1.out; obtain ⟨dT, dU, dV, dW, dX, dY, dZ, e0, e1, e2, dC, dD⟩ := fz12 a1.out))
    go_loopg [3, 6] k1 (fun kq v3 v6 w' => ∃ (bC : List S37) (a3 : Int), v6 = .int .i64 a3 ∧ Aside0 (impl_Contacts.l1 kq l0 bC a0 a3 l0 (l0.length : Int) a0 ((rd_T41 l0 a0).f0) ((rd_T41 l0 a0).f1.f0) ((rd_T41 l0 a0).f1.f1) ((rd_T41 l0 a0).f1.f2) ((rd_T41 l0 a0).f2.f0) ((rd_T41 l0 a0).f2.f1) ((rd_T41 l0 a0).f3.f0) ((rd_T41 l0 a0).f3.f1) ((rd_T41 l0 a0).f4) ((rd_T41 l0 a0).f5) ((rd_T41 l0 a0).f6) ((rd_T41 l0 a0).f7) = some r) ∧ Aside0 (kq ≤ k1) ∧ Aside0 (Kd.R k37 37 w' w.heap.size (fun _ => True) v3 bC) ∧ Aside0 (w'.heap[aD]? = some (.cells (a41 (rd_T41 l0 a0)) 41 (0, 0))) ∧ Aside0 (Below w.heap.size w w'))
    case atStart => exact ⟨(dE), (wrap64 (a0 + 1)), qG, H', ⟨Nat.le_refl _⟩, ⟨qS a5 a1⟩, ⟨qP a1⟩, ⟨qL HB⟩⟩
    case round =>
     clear H'; obtain ⟨bC, a3, rfl, HA, c9, a5, a1, HB⟩ := hrel
     obtain ⟨k2, rfl⟩ := qz gk HA
     have H := HA.out; clear HA; simp only [impl_Contacts.l1] at H; replace H := qc H; obtain ⟨cE, H⟩ | ⟨cE, H⟩ := H; refine ?L6; rotate_left; have H' := az H; clear H; refine ?L7
     rotate_right
     case L6 =>
      have e3 := az H; clear H
      go_upto_region 10 with (fail)
      go_cut [35] (fun g2 wc => ∃ (kq : Nat) (cC : Bool), g2 = .bool cC ∧ Aside0 (impl_Contacts.j2 kq l0 bC a0 a3 l0 (l0.length : Int) a0 cC ((rd_T41 l0 a0).f0) ((rd_T41 l0 a0).f1.f0) ((rd_T41 l0 a0).f1.f1) ((rd_T41 l0 a0).f1.f2) ((rd_T41 l0 a0).f2.f0) ((rd_T41 l0 a0).f2.f1) ((rd_T41 l0 a0).f3.f0) ((rd_T41 l0 a0).f3.f1) ((rd_T41 l0 a0).f4) ((rd_T41 l0 a0).f5) ((rd_T41 l0 a0).f6) ((rd_T41 l0 a0).f7) = some r) ∧ Aside0 (kq ≤ k2) ∧ Aside0 (Kd.R k37 37 wc w.heap.size (fun _ => True) u3 bC) ∧ Aside0 (wc.heap[aD]? = some (.cells (a41 (rd_T41 l0 a0)) 41 (0, 0))) ∧ Aside0 (Below w.heap.size w wc))
      case first =>
       have H := e3.out; clear e3; replace H := qH H; obtain ⟨b6, bU, H⟩ := H
       by_cases cL : b6 = true; subst cL; replace H := qT H; replace H := qd H; obtain ⟨cF, H⟩ := H; (first | rw [cF] | (simp only [i64_w, i32_w]; rw [cF]) | skip); replace H := qH H; obtain ⟨b7, eI, H⟩ := H
       have H' := az H; clear H; refine ?L1; rotate_left; replace cL := Bool.eq_false_iff.mpr cL; subst cL; replace H := qU H; have H' := az H; clear H; refine ?L2
       rotate_right
       case' L1 | L2 =>
        obtain ⟨eT, eU, eV, eW, eX, eY, eZ, fA, fB, fC, eP, eQ⟩ := cz12 a1.out; obtain ⟨fD, fE, fG, fH, fI, fJ, fK, fL, fM, fN, eR, eS⟩ := fz12 a1.out
       case L1 =>
        go_wp2_with (first | ((with_reducible refine gc 51 rfl ?_); refine gr 28 Try.func51 (impl_Body_fixed.calls (r := true) bU.out) ?_; rintro gO hb; replace a5 := rb a5 hb; replace a1 := kBB a1 hb; replace HB := bS HB hb; clear hb; obtain ⟨dF, dG, e7, eJ, cO, cP, cQ, cR, cS, cT, cU, cV, cW, cX, cH, cJ⟩ := ay41 HR0.out a3; obtain rfl : c6 = e7 := (by injection eJ); obtain ⟨cO, cP, cQ, cR, cS, cT, cU, cV, cW, cX, cH, cJ⟩ := hB12 HB cO cP cQ cR cS cT cU cV cW cX cH cJ) | (go_at_call 51; (with_reducible refine (impl_Body_fixed.calls eI.out).mono ?_); rintro e gP ⟨rfl, hb⟩; replace a5 := rb a5 hb; replace a1 := kBB a1 hb; replace HB := bS HB hb; clear hb))
        go_meet
        exact ⟨_, (b7), qG, H', ⟨mb c8 c9⟩, ⟨qR a5⟩, ⟨qF a1⟩, ⟨qL HB⟩⟩
       case L2 =>
        go_wp2_with (first | ((with_reducible refine gc 51 rfl ?_); refine gr 28 Try.func51 (impl_Body_fixed.calls (r := false) bU.out) ?_; rintro gQ hb; replace a5 := rb a5 hb; replace a1 := kBB a1 hb; replace HB := bS HB hb; clear hb))
        go_meet
        exact ⟨_, (false), qG, H', ⟨mb c8 c9⟩, ⟨qR a5⟩, ⟨qF a1⟩, ⟨qL HB⟩⟩
      case rest =>
       clear e3; obtain ⟨kq, cC, rfl, HA, cG, a5, a1, HB⟩ := hcut
       obtain ⟨e4, rfl⟩ := qz kq HA
       have H := HA.out; clear HA; simp only [impl_Contacts.j2] at H; by_cases cM : cC = true; subst cM; replace H := qT H; have H' := az H; clear H; refine ?L3; rotate_left; replace cM := Bool.eq_false_iff.mpr cM; subst cM; replace H := qU H; replace H := qd H; obtain ⟨cF, H⟩ := H; replace H := qd H; obtain ⟨cE, H⟩ := H; replace H := qH H; obtain ⟨⟨b6, b7, b9, eK⟩, bU, H⟩ := H
       try dsimp only at H
       by_cases cN : eK = true; subst cN; replace H := qT H; replace H := qif H; obtain ⟨e6, H⟩ := H; have LMc7008 := az e6; clear e6; obtain ⟨eL, cY⟩ : ∃ y_ : List S37, y_ = (bC ++ [(⟨a0, a3, (⟨(⟨b6, b7⟩ : S33), b9⟩ : S35)⟩ : S37)]) := ⟨_, rfl⟩; (try replace H := qW H); (try dsimp only at H); (try rw [← cY] at H); have e8 := az cY; clear cY; have H' := az H; clear H; refine ?L4; rotate_left; replace cN := Bool.eq_false_iff.mpr cN; subst cN; replace H := qU H; have H' := az H; clear H; refine ?L5
       rotate_right 2
       case L3 =>
        go_wp2
        go_roundg e4
        case measure => exact mc c8 c9 cG
        exact ⟨(bC), (wrap64 (a3 + 1)), qG, H', ⟨mc c8 c9 cG⟩, ⟨qR a5⟩, ⟨qF a1⟩, ⟨qL HB⟩⟩
       case' L4 | L5 =>
        try go_wp2
        replace a5 := rw_d a5; replace a1 := bd a1; replace HB := ed HB; obtain ⟨dH, dI, e9, eM, bV, bW, bX, bY, bZ, c1, c2, c3, c4, c5, bG, bH⟩ := ay41 HR0.out a3; have aA := bH; have aC := bG; have aG := c5; have aH := c4; have aI := c3; have aJ := c2; have aK := c1; have aM := bZ; have aN := bY; have aQ := bX; have aR := bW; have a7 := bV; obtain rfl : c6 = e9 := (by injection eM); obtain ⟨bV, bW, bX, bY, bZ, c1, c2, c3, c4, c5, bG, bH⟩ := hB12 HB bV bW bX bY bZ c1 c2 c3 c4 c5 bG bH; refine sa 12 (fun w' => ci aD 0 (v41 (rd_T41 l0 a0)) w' ∧ ca (c6.add ((a3).toNat * 12)) (v41 (rd_T41 l0 a3)) w') [] ⟨cI a1, ⟨hB HB a7, hB HB aR, hB HB aQ, hB HB aN, hB HB aM, hB HB aK, hB HB aJ, hB HB aI, hB HB aH, hB HB aG, hB HB aC, hB HB aA, trivial⟩⟩ fun Z => ?_; refine with_tabW impl_Contacts.tab11 impl_Contacts.bits11 fun T Y => ?_; generalize wc.drew = gR at a5 a1 HB bV bW bG bH bX bY bZ c1 c2 c3 c4 c5 Z ⊢; refine pz 1 38 T ?_; refine pz 2 39 T ?_; refine pz 3 40 T ?_; refine tz 0 37 T Y Z ?_; refine tz 4 41 T Y Z ?_
       case L4 =>
        refine join_ (σ := Nat) 2 (fl 12 1023) (fun s_ => [(42, .tuple #[.agg #[.int .i64 b6, .int .i64 b7, .int .i64 b9], .bool true]), (7, .pointer (some ⟨s_, 0, none⟩)), (36, .tuple #[.agg #[.int .i64 b6, .int .i64 b7, .int .i64 b9], .bool true]), (43, .agg #[.int .i64 b6, .int .i64 b7, .int .i64 b9]), (44, .bool true)]) (fun s_ w' => (ci aD 0 (v41 (rd_T41 l0 a0)) w' ∧ ca (c6.add ((a3).toNat * 12)) (v41 (rd_T41 l0 a3)) w') ∧ (Kd.R k37 37 w' w.heap.size (fun _ => True) u3 bC) ∧ (w'.heap[aD]? = some (.cells (a41 (rd_T41 l0 a0)) 41 (0, 0))) ∧ (w'.heap[s_]? = some (.cells #[.int .i64 0, .int .i64 0, .int .i64 0] 35 (0, 0))) ∧ (w.heap.size ≤ s_) ∧ (w.heap.size ≤ s_) ∧ (aD ≠ s_) ∧ (s_ ≠ aD) ∧ (Below w.heap.size w w')) ?_ ?_; rotate_left
        ·intro hCont; refine tt 12 5 9 42 7 63 543 T (fun K hK => ?_) fun K hK => ?_
         ·skip; refine ky Try.func55 (impl_Body_touch.calls (r4 := true) bU.out) ?_; rintro g3 hb; replace a5 := rb a5 hb; replace a1 := kBB a1 hb; replace HB := bS HB hb; clear hb; refine hz hK ⟨cI a1, ⟨hB HB a7, hB HB aR, hB HB aQ, hB HB aN, hB HB aM, hB HB aK, hB HB aJ, hB HB aI, hB HB aH, hB HB aG, hB HB aC, hB HB aA, trivial⟩⟩ fun Z => ?_; clear hK K; refine nn 42 ?_; refine pz 6 36 T ?_; refine pz 7 43 T ?_; refine pz 8 44 T ?_; refine oo 12 9 7 1023 T fun K hK => ?_; refine bw 7 #[.int .i64 0, .int .i64 0, .int .i64 0] 35 ?_; intro a8 hg g4 a4 hb; have a9 := se hg HB; have bA := a9; obtain ⟨a2, a6⟩ := nPB a1 hg; replace a5 := rb a5 hb; replace a1 := kBB a1 hb; replace HB := bS HB hb; clear hb hg; refine hz hK ⟨cI a1, ⟨hB HB a7, hB HB aR, hB HB aQ, hB HB aN, hB HB aM, hB HB aK, hB HB aJ, hB HB aI, hB HB aH, hB HB aG, hB HB aC, hB HB aA, trivial⟩⟩ fun Z => ?_; clear hK K; refine nn 7 ?_; exact nrm (hCont (a8) _ ⟨Z, (qR a5), (qB a1), (qB a4), a9.out, bA.out, a2.out, a6.out, (qL HB)⟩)
         skip; refine bw 7 #[.int .i64 0, .int .i64 0, .int .i64 0] 35 ?_; intro a8 hg g3 a4 hb; have a9 := se hg HB; have bA := a9; obtain ⟨a2, a6⟩ := nPB a1 hg; replace a5 := rb a5 hb; replace a1 := kBB a1 hb; replace HB := bS HB hb; clear hb hg; refine hz hK ⟨cI a1, ⟨hB HB a7, hB HB aR, hB HB aQ, hB HB aN, hB HB aM, hB HB aK, hB HB aJ, hB HB aI, hB HB aH, hB HB aG, hB HB aC, hB HB aA, trivial⟩⟩ fun Z => ?_; clear hK K; refine nn 7 ?_; refine oo 12 5 42 575 T fun K hK => ?_; refine ky Try.func55 (impl_Body_touch.calls (r4 := true) bU.out) ?_; rintro g4 hb; replace a5 := rb a5 hb; replace a1 := kBB a1 hb; replace a4 := kBB a4 hb; replace HB := bS HB hb; clear hb; refine hz hK ⟨cI a1, ⟨hB HB a7, hB HB aR, hB HB aQ, hB HB aN, hB HB aM, hB HB aK, hB HB aJ, hB HB aI, hB HB aH, hB HB aG, hB HB aC, hB HB aA, trivial⟩⟩ fun Z => ?_; clear hK K; refine nn 42 ?_; refine pz 6 36 T ?_; refine pz 7 43 T ?_; refine pu 8 (some 44) (fl 12 1023) T ?_; exact nrm (hCont (a8) _ ⟨Z, (qR a5), (qB a1), (qB a4), a9.out, bA.out, a2.out, a6.out, (qL HB)⟩)
        rintro a8 eA ⟨hS_, h0_, h1_, h2_, h3_, h4_, h5_, h6_, h7_⟩; have a4 := az h2_; have a9 := az h3_; have bA := az h4_; have a2 := az h5_; have a6 := az h6_; replace a5 := az h0_; replace a1 := az h1_; replace HB := az h7_; clear h0_ h1_ h2_ h3_ h4_ h5_ h6_ h7_; have Z := hS_; refine nmp ?_; refine op 12 10 2047 T fun K hK => ?_; have gH : eA.cell? ⟨a8, 0, none⟩ = some (.int .i64 0) := bc a4 0; have g7 := blk_frozen a4.out 0; have fO := a2.out; have fP := a6.out; have gI : eA.cell? ⟨a8, 1, none⟩ = some (.int .i64 0) := bc a4 1; have g8 := blk_frozen a4.out 1; have fQ := a2.out; have fR := a6.out; have gJ : eA.cell? ⟨a8, 2, none⟩ = some (.int .i64 0) := bc a4 2; have g9 := blk_frozen a4.out 2; have fS := a2.out; have fT := a6.out; refine sq ?_ ?_ ?_; rotate_left
        ·go_simp
         rfl
        refine hz hK ⟨(cif a2 (cif a2 (cif a2 Z.1))), (caw a7 a9 (caw a7 a9 (caw a7 a9 Z.2)))⟩ fun Z => ?_; clear hK K; refine pz 11 8 T ?_; refine dn T ?_; have gA := a6.out; have gB := a2.out; have hcz35_c := cz3 a4.out; have hfz35_c := fz3 a4.out
        try go_wp2_with (first | ((with_reducible refine ga 46 51 rfl ?_); at_builtin; refine Kd.R_append k37 (w0 := w) w.heap.size rfl (.tmp 46) (.tmp 51) 29 37 (.agg #[(.int .i64 0), (.int .i64 0), (.int .i64 0), (.int .i64 0), (.int .i64 0)]) 40 rfl Try.underlying29 info37 rfl (by decide) (by omega) u3 bC (⟨a0, a3, (⟨(⟨b6, b7⟩ : S33), b9⟩ : S35)⟩ : S37) [.int .i64 a0, .int .i64 a3, .int .i64 b6, .int .i64 b7, .int .i64 b9] (fun _ => True) (fun _ => False) rfl (by first | (go_simp; done) | (go_simp; rfl)) ?aP (fun _ hk => hk.elim) ?aF ?aO ?aB ?aS ?aL ?_; (case aP => exact k37_mkM _ _ _ (⟨a0, a3, (⟨(⟨b6, b7⟩ : S33), b9⟩ : S35)⟩ : S37)); (case aB => exact (qL HB)); (case aF => exact (fun _ _ => trivial)); (case aO => exact (qS a5 a4)); (case aS => exact (below_size (qL HB))); (case aL => have := LMc7008.out; omega); intro gC gS ho hb hg hat; rw [← e8.out] at ho; have eB := az ho; replace a1 := az (blk_grown (g := aD) (o := .cells (a41 (rd_T41 l0 a0)) 41 (0, 0)) (qF a1) hg (Kd.R_ne a5.out a1.out (by decide))); replace a4 := az (blk_grown (g := a8) (o := .cells #[.int .i64 b6, .int .i64 b7, .int .i64 b9] 35 (0, 0)) (qP a4) hg (Kd.R_ne a5.out a4.out (by decide))); replace HB := az hb; clear a5 ho hb hg hat))
        go_roundg e4
        case measure => exact mc c8 c9 cG
        exact ⟨(eL), (wrap64 (a3 + 1)), qG, H', ⟨mc c8 c9 cG⟩, ⟨qR eB⟩, ⟨qF a1⟩, ⟨qL HB⟩⟩
       case L5 =>
        refine join_ (σ := Nat) 2 (fl 12 1023) (fun s_ => [(42, .tuple #[.agg #[.int .i64 b6, .int .i64 b7, .int .i64 b9], .bool false]), (7, .pointer (some ⟨s_, 0, none⟩)), (36, .tuple #[.agg #[.int .i64 b6, .int .i64 b7, .int .i64 b9], .bool false]), (43, .agg #[.int .i64 b6, .int .i64 b7, .int .i64 b9]), (44, .bool false)]) (fun s_ w' => (ci aD 0 (v41 (rd_T41 l0 a0)) w' ∧ ca (c6.add ((a3).toNat * 12)) (v41 (rd_T41 l0 a3)) w') ∧ (Kd.R k37 37 w' w.heap.size (fun _ => True) u3 bC) ∧ (w'.heap[aD]? = some (.cells (a41 (rd_T41 l0 a0)) 41 (0, 0))) ∧ (w'.heap[s_]? = some (.cells #[.int .i64 0, .int .i64 0, .int .i64 0] 35 (0, 0))) ∧ (w.heap.size ≤ s_) ∧ (w.heap.size ≤ s_) ∧ (aD ≠ s_) ∧ (s_ ≠ aD) ∧ (Below w.heap.size w w')) ?_ ?_; rotate_left
        ·intro hCont; refine tt 12 5 9 42 7 63 543 T (fun K hK => ?_) fun K hK => ?_
         ·skip; refine ky Try.func55 (impl_Body_touch.calls (r4 := false) bU.out) ?_; rintro g5 hb; replace a5 := rb a5 hb; replace a1 := kBB a1 hb; replace HB := bS HB hb; clear hb; refine hz hK ⟨cI a1, ⟨hB HB a7, hB HB aR, hB HB aQ, hB HB aN, hB HB aM, hB HB aK, hB HB aJ, hB HB aI, hB HB aH, hB HB aG, hB HB aC, hB HB aA, trivial⟩⟩ fun Z => ?_; clear hK K; refine nn 42 ?_; refine pz 6 36 T ?_; refine pz 7 43 T ?_; refine pz 8 44 T ?_; refine oo 12 9 7 1023 T fun K hK => ?_; refine bw 7 #[.int .i64 0, .int .i64 0, .int .i64 0] 35 ?_; intro a8 hg g6 a4 hb; have a9 := se hg HB; have bA := a9; obtain ⟨a2, a6⟩ := nPB a1 hg; replace a5 := rb a5 hb; replace a1 := kBB a1 hb; replace HB := bS HB hb; clear hb hg; refine hz hK ⟨cI a1, ⟨hB HB a7, hB HB aR, hB HB aQ, hB HB aN, hB HB aM, hB HB aK, hB HB aJ, hB HB aI, hB HB aH, hB HB aG, hB HB aC, hB HB aA, trivial⟩⟩ fun Z => ?_; clear hK K; refine nn 7 ?_; exact nrm (hCont (a8) _ ⟨Z, (qR a5), (qB a1), (qB a4), a9.out, bA.out, a2.out, a6.out, (qL HB)⟩)
         skip; refine bw 7 #[.int .i64 0, .int .i64 0, .int .i64 0] 35 ?_; intro a8 hg g5 a4 hb; have a9 := se hg HB; have bA := a9; obtain ⟨a2, a6⟩ := nPB a1 hg; replace a5 := rb a5 hb; replace a1 := kBB a1 hb; replace HB := bS HB hb; clear hb hg; refine hz hK ⟨cI a1, ⟨hB HB a7, hB HB aR, hB HB aQ, hB HB aN, hB HB aM, hB HB aK, hB HB aJ, hB HB aI, hB HB aH, hB HB aG, hB HB aC, hB HB aA, trivial⟩⟩ fun Z => ?_; clear hK K; refine nn 7 ?_; refine oo 12 5 42 575 T fun K hK => ?_; refine ky Try.func55 (impl_Body_touch.calls (r4 := false) bU.out) ?_; rintro g6 hb; replace a5 := rb a5 hb; replace a1 := kBB a1 hb; replace a4 := kBB a4 hb; replace HB := bS HB hb; clear hb; refine hz hK ⟨cI a1, ⟨hB HB a7, hB HB aR, hB HB aQ, hB HB aN, hB HB aM, hB HB aK, hB HB aJ, hB HB aI, hB HB aH, hB HB aG, hB HB aC, hB HB aA, trivial⟩⟩ fun Z => ?_; clear hK K; refine nn 42 ?_; refine pz 6 36 T ?_; refine pz 7 43 T ?_; refine pu 8 (some 44) (fl 12 1023) T ?_; exact nrm (hCont (a8) _ ⟨Z, (qR a5), (qB a1), (qB a4), a9.out, bA.out, a2.out, a6.out, (qL HB)⟩)
        rintro a8 eC ⟨hS_, h0_, h1_, h2_, h3_, h4_, h5_, h6_, h7_⟩; have a4 := az h2_; have a9 := az h3_; have bA := az h4_; have a2 := az h5_; have a6 := az h6_; replace a5 := az h0_; replace a1 := az h1_; replace HB := az h7_; clear h0_ h1_ h2_ h3_ h4_ h5_ h6_ h7_; have Z := hS_; refine nmp ?_; refine op 12 10 2047 T fun K hK => ?_; have gL : eC.cell? ⟨a8, 0, none⟩ = some (.int .i64 0) := bc a4 0; have gD := blk_frozen a4.out 0; have fU := a2.out; have fV := a6.out; have gM : eC.cell? ⟨a8, 1, none⟩ = some (.int .i64 0) := bc a4 1; have gF := blk_frozen a4.out 1; have fW := a2.out; have fX := a6.out; have gN : eC.cell? ⟨a8, 2, none⟩ = some (.int .i64 0) := bc a4 2; have gG := blk_frozen a4.out 2; have fY := a2.out; have fZ := a6.out; refine sq ?_ ?_ ?_; rotate_left
        ·go_simp
         rfl
        refine hz hK ⟨(cif a2 (cif a2 (cif a2 Z.1))), (caw a7 a9 (caw a7 a9 (caw a7 a9 Z.2)))⟩ fun Z => ?_; clear hK K; refine pz 11 8 T ?_; refine dn T ?_
        try go_wp2
        go_roundg e4
        case measure => exact mc c8 c9 cG
        exact ⟨(bC), (wrap64 (a3 + 1)), qG, H', ⟨mc c8 c9 cG⟩, ⟨qS a5 a4⟩, ⟨qF a1⟩, ⟨qL HB⟩⟩
     case L7 =>
      go_wp2
      go_roundg k2
      case measure => exact mb c8 c9
      exact ⟨(bC), (wrap64 (a0 + 1)), qG, H', ⟨mb c8 c9⟩, ⟨qR a5⟩, ⟨qL HB⟩⟩
   case L9 =>
    go_wp2
    go_ret
    exact ⟨_, qE, qR a5, qL HB⟩
 case L11 =>
  go_wp2_with (first | ((with_reducible refine gc 27 rfl ?_); refine gr 10 Try.func27 (impl_BodiesOk.calls (r := false) (qC HR0.out) eO.out e5.out) ?_; rintro gT hb; replace HB := bS HB hb; clear hb))
  go_ret
  exact ⟨_, qE, by first | exact Kd.R_nil _ _ _ _ _ | exact Kd.N_nil _ _ _ _ _ | exact Kd.V_nil _ _ _ _ _ | exact Kd.Q_nil _ _ _ _ _ | exact Kd.S_nil _ _ _ _ _, qL HB⟩
end Go.Proofs.Ytdngjedhbnoaoaa.PBig
