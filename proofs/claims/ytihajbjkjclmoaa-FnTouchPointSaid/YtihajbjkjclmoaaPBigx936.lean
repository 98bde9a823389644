/- What these functions compute, each walked once: laws_FnTouchPoint; for all arguments and worlds, under the conditions that each theorem names. -/
import Derived.Test.YtihajbjkjclmoaaSq
import Derived.Test.YtihajbjkjclmoaaPBigx904
import Derived.Test.YtihajbjkjclmoaaPBigx926
import Derived.Test.YtihajbjkjclmoaaPBigx930
import Derived.Test.YtihajbjkjclmoaaPBigx932
import Derived.Test.YtihajbjkjclmoaaPBigx934
namespace Go.Proofs.Ytihajbjkjclmoaa.PBig
open Go.RowKit Go.Proofs.YtihajbjkjclmoaaW.PrintWords Go.Proofs.YtihajbjkjclmoaaW.PrintLast Go.Proofs.YtihajbjkjclmoaaW.PrintMore
attribute [local go_sem] max2_int min2_int max_two min_two max_three min_three max_four min_four   -- for this text's walks alone
set_option linter.unusedVariables false
set_option linter.unusedSimpArgs false

/-! ### laws_FnTouchPoint: function 11 -/
mutual
def laws_FnTouchPoint.j0 : Nat → Bool → Bool → Bool → Int → Int → Int → Int → Int → Int → Int → Int → Int → Int → Option (Bool)
  | 0, _, _, _, _, _, _, _, _, _, _, _, _, _ => none
  | k + 1, x8, pI, pJ, bX, bY, bZ, bM, bN, c3, c4, c5, bO, bP => if pJ = true then (some (x8 == pI)) else ((impl_ShapeBounds.f bX bY bZ bM bN).bind fun bt1318 => ((impl_BoxNear.f bt1318.1 bt1318.2.1 bt1318.2.2.1 bt1318.2.2.2 bO bP).bind fun bt1322 => ((some (([(⟨wrap64 (Int.tdiv (wrap64 (bM + bO)) 2), wrap64 (Int.tdiv (wrap64 (bN + bP)) 2)⟩ : S24), (⟨bt1322.1, bt1322.2⟩ : S24), (⟨bM, bN⟩ : S24), (⟨bO, bP⟩ : S24)] : List (S24)) : List (S24))).bind fun aA => (laws_FnTouchPoint.l0 k x8 aA (aA.length : Int) 0 bX bY bZ bM bN c3 c4 c5 bO bP))))
def laws_FnTouchPoint.l0 : Nat → Bool → List (S24) → Int → Int → Int → Int → Int → Int → Int → Int → Int → Int → Int → Int → Option (Bool)
  | 0, _, _, _, _, _, _, _, _, _, _, _, _, _, _ => none
  | k + 1, x8, e0, fL, dE, bX, bY, bZ, bM, bN, c3, c4, c5, bO, bP => if dE < fL then (if 0 ≤ dE then (if dE < (e0.length : Int) then ((impl_ShapeHas.f k bX bY bZ bM bN ((rd_T24 e0 dE).f0) ((rd_T24 e0 dE).f1)).bind fun eN => (if eN = true then ((impl_ShapeHas.f k c3 c4 c5 bO bP ((rd_T24 e0 dE).f0) ((rd_T24 e0 dE).f1)).bind fun eO => (if eO = true then (if x8 = true then (laws_FnTouchPoint.l0 k x8 e0 fL (wrap64 (dE + 1)) bX bY bZ bM bN c3 c4 c5 bO bP) else (some false)) else (laws_FnTouchPoint.l0 k x8 e0 fL (wrap64 (dE + 1)) bX bY bZ bM bN c3 c4 c5 bO bP))) else (laws_FnTouchPoint.l0 k x8 e0 fL (wrap64 (dE + 1)) bX bY bZ bM bN c3 c4 c5 bO bP))) else (none)) else (none)) else (some true)
end
def laws_FnTouchPoint.f (k : Nat) (l0 : List Int) : Option (Bool) := if (l0.length : Int) > 1048576 then (some true) else ((spec_DrawTouch.f k l0).bind fun bt1291 => ((impl_Touch.f k bt1291.1 bt1291.2.1 bt1291.2.2.1 bt1291.2.2.2.1 bt1291.2.2.2.2.1 bt1291.2.2.2.2.2.1 bt1291.2.2.2.2.2.2.1 bt1291.2.2.2.2.2.2.2.1 bt1291.2.2.2.2.2.2.2.2.1 bt1291.2.2.2.2.2.2.2.2.2).bind fun bt1305 => ((spec_Touch.f k bt1291.1 bt1291.2.1 bt1291.2.2.1 bt1291.2.2.2.1 bt1291.2.2.2.2.1 bt1291.2.2.2.2.2.1 bt1291.2.2.2.2.2.2.1 bt1291.2.2.2.2.2.2.2.1 bt1291.2.2.2.2.2.2.2.2.1 bt1291.2.2.2.2.2.2.2.2.2).bind fun bt1310 => (if (bt1305.2.2.2 != bt1310.2.2.2) = true then (laws_FnTouchPoint.j0 k bt1305.2.2.2 bt1310.2.2.2 true bt1291.1 bt1291.2.1 bt1291.2.2.1 bt1291.2.2.2.1 bt1291.2.2.2.2.1 bt1291.2.2.2.2.2.1 bt1291.2.2.2.2.2.2.1 bt1291.2.2.2.2.2.2.2.1 bt1291.2.2.2.2.2.2.2.2.1 bt1291.2.2.2.2.2.2.2.2.2) else ((spec_ShapeOk.f bt1291.1 bt1291.2.1 bt1291.2.2.1).bind fun dV => (if dV = true then ((spec_ShapeOk.f bt1291.2.2.2.2.2.1 bt1291.2.2.2.2.2.2.1 bt1291.2.2.2.2.2.2.2.1).bind fun dA => (laws_FnTouchPoint.j0 k bt1305.2.2.2 bt1310.2.2.2 (!dA) bt1291.1 bt1291.2.1 bt1291.2.2.1 bt1291.2.2.2.1 bt1291.2.2.2.2.1 bt1291.2.2.2.2.2.1 bt1291.2.2.2.2.2.2.1 bt1291.2.2.2.2.2.2.2.1 bt1291.2.2.2.2.2.2.2.2.1 bt1291.2.2.2.2.2.2.2.2.2)) else (laws_FnTouchPoint.j0 k bt1305.2.2.2 bt1310.2.2.2 true bt1291.1 bt1291.2.1 bt1291.2.2.1 bt1291.2.2.2.1 bt1291.2.2.2.2.1 bt1291.2.2.2.2.2.1 bt1291.2.2.2.2.2.2.1 bt1291.2.2.2.2.2.2.2.1 bt1291.2.2.2.2.2.2.2.2.1 bt1291.2.2.2.2.2.2.2.2.2)))))))
theorem laws_FnTouchPoint.mono_l : ∀ k, (∀ y0 y1 y2 y3 y4 y5 y6 y7 y8 y9 e2 e3 e4, LeO (laws_FnTouchPoint.j0 k y0 y1 y2 y3 y4 y5 y6 y7 y8 y9 e2 e3 e4) (laws_FnTouchPoint.j0 (k + 1) y0 y1 y2 y3 y4 y5 y6 y7 y8 y9 e2 e3 e4)) ∧ (∀ y0 y1 y2 y3 y4 y5 y6 y7 y8 y9 e2 e3 e4 hO, LeO (laws_FnTouchPoint.l0 k y0 y1 y2 y3 y4 y5 y6 y7 y8 y9 e2 e3 e4 hO) (laws_FnTouchPoint.l0 (k + 1) y0 y1 y2 y3 y4 y5 y6 y7 y8 y9 e2 e3 e4 hO))
  | 0 => ⟨fun _ _ _ _ _ _ _ _ _ _ _ _ _ r h => by simp [laws_FnTouchPoint.j0] at h, fun _ _ _ _ _ _ _ _ _ _ _ _ _ _ r h => by simp [laws_FnTouchPoint.l0] at h⟩
  | k + 1 => by
    obtain ⟨ih0, ih1⟩ := laws_FnTouchPoint.mono_l k
    refine ⟨?_, ?_⟩
    · intro y0 y1 y2 y3 y4 y5 y6 y7 y8 y9 e2 e3 e4
      unfold laws_FnTouchPoint.j0
      repeat' first
      | (with_reducible exact ih0 _ _ _ _ _ _ _ _ _ _ _ _ _)
      | (with_reducible exact ih1 _ _ _ _ _ _ _ _ _ _ _ _ _ _)
      | (with_reducible exact impl_ShapeHas.mono _ _ _ _ _ _ _ _)
      | (with_reducible exact impl_Touch.mono _ _ _ _ _ _ _ _ _ _ _)
      | (with_reducible exact spec_DrawTouch.mono _ _)
      | (with_reducible exact spec_Touch.mono _ _ _ _ _ _ _ _ _ _ _)
      | (with_reducible exact LeO.refl _)
      | (with_reducible exact LeO.none _)
      | (with_reducible refine LeO.ite ?_ ?_)
      | (with_reducible refine LeO.bind ?_ (fun _ => ?_))
    · intro y0 y1 y2 y3 y4 y5 y6 y7 y8 y9 e2 e3 e4 hO
      unfold laws_FnTouchPoint.l0
      repeat' first
      | (with_reducible exact ih0 _ _ _ _ _ _ _ _ _ _ _ _ _)
      | (with_reducible exact ih1 _ _ _ _ _ _ _ _ _ _ _ _ _ _)
      | (with_reducible exact impl_ShapeHas.mono _ _ _ _ _ _ _ _)
      | (with_reducible exact impl_Touch.mono _ _ _ _ _ _ _ _ _ _ _)
      | (with_reducible exact spec_DrawTouch.mono _ _)
      | (with_reducible exact spec_Touch.mono _ _ _ _ _ _ _ _ _ _ _)
      | (with_reducible exact LeO.refl _)
      | (with_reducible exact LeO.none _)
      | (with_reducible refine LeO.ite ?_ ?_)
      | (with_reducible refine LeO.bind ?_ (fun _ => ?_))
theorem laws_FnTouchPoint.mono : ∀ a0 k, LeO (laws_FnTouchPoint.f k a0) (laws_FnTouchPoint.f (k + 1) a0) := by
  intro a0 k
  obtain ⟨ih0, ih1⟩ := laws_FnTouchPoint.mono_l k
  unfold laws_FnTouchPoint.f
  repeat' first
      | (with_reducible exact ih0 _ _ _ _ _ _ _ _ _ _ _ _ _)
      | (with_reducible exact ih1 _ _ _ _ _ _ _ _ _ _ _ _ _ _)
      | (with_reducible exact impl_ShapeHas.mono _ _ _ _ _ _ _ _)
      | (with_reducible exact impl_Touch.mono _ _ _ _ _ _ _ _ _ _ _)
      | (with_reducible exact spec_DrawTouch.mono _ _)
      | (with_reducible exact spec_Touch.mono _ _ _ _ _ _ _ _ _ _ _)
      | (with_reducible exact LeO.refl _)
      | (with_reducible exact LeO.none _)
      | (with_reducible refine LeO.ite ?_ ?_)
      | (with_reducible refine LeO.bind ?_ (fun _ => ?_))
set_option maxHeartbeats 8000000 in
set_option maxRecDepth 100000 in
theorem laws_FnTouchPoint.calls (k : Nat) (A0 : Option Addr) (c0 : Nat) (l0 : List Int) (r : Bool) (w : World) (hr0 : Kd.C (Kd.int .u8) w A0 l0.length l0) (hc0 : l0.length ≤ c0) (h : laws_FnTouchPoint.f k l0 = some r) :
    Calls Try.prog 11 #[.slice A0 l0.length c0] w fun e w' => e = .returned (.bool r) ∧ Below w.heap.size w w' := by
  have hu38 := Try.underlying38
  have hu24 := Try.underlying24
  have hu56 := Try.underlying56
  have HR0 := az hr0
  have pK := az hc0
  clear hr0 hc0
  have HB := az (Below.refl w.heap.size w)
  have H : (if (l0.length : Int) > 1048576 then (some true) else ((spec_DrawTouch.f k l0).bind fun bt1291 => ((impl_Touch.f k bt1291.1 bt1291.2.1 bt1291.2.2.1 bt1291.2.2.2.1 bt1291.2.2.2.2.1 bt1291.2.2.2.2.2.1 bt1291.2.2.2.2.2.2.1 bt1291.2.2.2.2.2.2.2.1 bt1291.2.2.2.2.2.2.2.2.1 bt1291.2.2.2.2.2.2.2.2.2).bind fun bt1305 => ((spec_Touch.f k bt1291.1 bt1291.2.1 bt1291.2.2.1 bt1291.2.2.2.1 bt1291.2.2.2.2.1 bt1291.2.2.2.2.2.1 bt1291.2.2.2.2.2.2.1 bt1291.2.2.2.2.2.2.2.1 bt1291.2.2.2.2.2.2.2.2.1 bt1291.2.2.2.2.2.2.2.2.2).bind fun bt1310 => (if (bt1305.2.2.2 != bt1310.2.2.2) = true then (laws_FnTouchPoint.j0 k bt1305.2.2.2 bt1310.2.2.2 true bt1291.1 bt1291.2.1 bt1291.2.2.1 bt1291.2.2.2.1 bt1291.2.2.2.2.1 bt1291.2.2.2.2.2.1 bt1291.2.2.2.2.2.2.1 bt1291.2.2.2.2.2.2.2.1 bt1291.2.2.2.2.2.2.2.2.1 bt1291.2.2.2.2.2.2.2.2.2) else ((spec_ShapeOk.f bt1291.1 bt1291.2.1 bt1291.2.2.1).bind fun dV => (if dV = true then ((spec_ShapeOk.f bt1291.2.2.2.2.2.1 bt1291.2.2.2.2.2.2.1 bt1291.2.2.2.2.2.2.2.1).bind fun dA => (laws_FnTouchPoint.j0 k bt1305.2.2.2 bt1310.2.2.2 (!dA) bt1291.1 bt1291.2.1 bt1291.2.2.1 bt1291.2.2.2.1 bt1291.2.2.2.2.1 bt1291.2.2.2.2.2.1 bt1291.2.2.2.2.2.2.1 bt1291.2.2.2.2.2.2.2.1 bt1291.2.2.2.2.2.2.2.2.1 bt1291.2.2.2.2.2.2.2.2.2)) else (laws_FnTouchPoint.j0 k bt1305.2.2.2 bt1310.2.2.2 true bt1291.1 bt1291.2.1 bt1291.2.2.1 bt1291.2.2.2.1 bt1291.2.2.2.2.1 bt1291.2.2.2.2.2.1 bt1291.2.2.2.2.2.2.1 bt1291.2.2.2.2.2.2.2.1 bt1291.2.2.2.2.2.2.2.2.1 bt1291.2.2.2.2.2.2.2.2.2)))))))) = some r := h
  clear h
  by_cases c2 : (l0.length : Int) > 1048576
  · rw [if_pos c2] at H
    have hP : decide (1048576 < (l0.length : Int)) = true := decide_eq_true c2
    have hQ : decide (1048576 < l0.length) = true := decide_eq_true (by omega)
    clear c2
    obtain rfl := Option.some.inj H
    go_enter Try.func11, Try.ntmps11
    go_wp2
    go_ret
    exact ⟨qE, qL HB⟩
  rw [if_neg c2] at H
  have hP : decide (1048576 < (l0.length : Int)) = false := decide_eq_false c2
  have hQ : decide (1048576 < l0.length) = false := decide_eq_false (by omega)
  clear c2
  replace H := qH H
  obtain ⟨⟨aJ, aK, aL, aC, aD, aZ, b0, b1, aE, aF⟩, A3, H⟩ := H
  try dsimp only at H
  replace H := qH H
  obtain ⟨⟨dB, dC, dD, bT⟩, A4, H⟩ := H
  try dsimp only at H
  replace H := qH H
  obtain ⟨⟨cU, cV, cW, c6⟩, A5, H⟩ := H
  try dsimp only at H
  have hR := az H
  clear H
  go_enter Try.func11, Try.ntmps11
  go_upto_region 6 with (first | ((with_reducible refine gate_callee (f := 37) rfl ?_); refine gl (some 20) Try.func37 #[.slice A0 l0.length c0] ?_; (with_reducible refine (spec_DrawTouch.calls k _ _ l0 aJ aK aL aC aD aZ b0 b1 aE aF _ ?side1 ?side2 A3.out).mono ?_); (case side1 => repeat (first | exact HR0.out | (with_reducible refine Kd.C_alloc ?_ _) | (with_reducible refine Kd.C_drewN ?_ _) | (with_reducible refine Kd.C_drew ?_))); (case side2 => exact pK.out); rintro e w7 ⟨rfl, hb⟩; refine ⟨_, rfl, ?_⟩; replace HB := bS HB hb; clear hb) | ((with_reducible refine gate_dst (N := 3) rfl ?_); refine bx (N := 3) (cs := #[.int .i64 0, .int .i64 0, .int .i64 0]) (t := 38) ?_; intro bJ hg w8 hbox hb; have a1 := az hbox; have hS := az ((gE hg (qL HB) : w.heap.size ≤ bJ)); have pL := hS; replace HB := bS HB hb; clear hb hbox hg) | ((with_reducible refine gate_dst (N := 4) rfl ?_); refine bx (N := 4) (cs := #[.int .i64 0, .int .i64 0]) (t := 24) ?_; intro bK hg w9 hbox hb; have a2 := az hbox; have hU := az ((gE hg (qL HB) : w.heap.size ≤ bK)); have pM := hU; obtain ⟨c7, c8⟩ := nPB a1 hg; replace a1 := kBB a1 hb; replace HB := bS HB hb; clear hb hbox hg) | ((with_reducible refine gate_dst (N := 5) rfl ?_); refine bx (N := 5) (cs := #[.int .i64 0, .int .i64 0, .int .i64 0]) (t := 38) ?_; intro cF hg wJ hbox hb; have a4 := az hbox; have hV := az ((gE hg (qL HB) : w.heap.size ≤ cF)); have pN := hV; obtain ⟨cJ, cK⟩ := nPB a1 hg; obtain ⟨cL, cM⟩ := nPB a2 hg; replace a1 := kBB a1 hb; replace a2 := kBB a2 hb; replace HB := bS HB hb; clear hb hbox hg) | ((with_reducible refine gate_dst (N := 6) rfl ?_); refine bx (N := 6) (cs := #[.int .i64 0, .int .i64 0]) (t := 24) ?_; intro bL hg wK hbox hb; have a3 := az hbox; have hW := az ((gE hg (qL HB) : w.heap.size ≤ bL)); have pO := hW; obtain ⟨c9, cA⟩ := nPB a1 hg; obtain ⟨dF, dG⟩ := nPB a2 hg; obtain ⟨cN, cO⟩ := nPB a4 hg; replace a1 := kBB a1 hb; replace a2 := kBB a2 hb; replace a4 := kBB a4 hb; replace HB := bS HB hb; clear hb hbox hg; have t7 := c7.out; have t8 := c8.out; have t9 := cJ.out; have tA := cK.out; have tB := c9.out; have tC := cA.out; obtain ⟨fO, fP, fQ⟩ := cz3 a1.out; obtain ⟨fR, fS, fT⟩ := fz3 a1.out; have tD := cL.out; have tE := cM.out; have tF := dF.out; have tG := dG.out; obtain ⟨fU, fV⟩ := cz2 a2.out; have fW := blk_frozen a2.out 0; have fX := blk_frozen a2.out 1; have tH := cN.out; have tI := cO.out; obtain ⟨fY, fZ, g0⟩ := cz3 a4.out; obtain ⟨g1, g2, g3⟩ := fz3 a4.out; obtain ⟨g4, g5⟩ := cz2 a3.out; have g6 := blk_frozen a3.out 0; have g7 := blk_frozen a3.out 1) | ((with_reducible refine gate_callee (f := 35) rfl ?_); refine gl (some 30) Try.func35 #[.agg #[.int .i64 aJ, .int .i64 aK, .int .i64 aL], .agg #[.int .i64 aC, .int .i64 aD], .agg #[.int .i64 aZ, .int .i64 b0, .int .i64 b1], .agg #[.int .i64 aE, .int .i64 aF]] ?_; (with_reducible refine (impl_Touch.calls k aJ aK aL aC aD aZ b0 b1 aE aF dB dC dD bT _ A4.out).mono ?_); rintro e wL ⟨rfl, hb⟩; refine ⟨_, rfl, ?_⟩; replace a1 := kBP (o' := .cells #[.int .i64 aJ, .int .i64 aK, .int .i64 aL] 38 (0, 0)) a1 hb; replace a2 := kBP (o' := .cells #[.int .i64 aC, .int .i64 aD] 24 (0, 0)) a2 hb; replace a4 := kBP (o' := .cells #[.int .i64 aZ, .int .i64 b0, .int .i64 b1] 38 (0, 0)) a4 hb; replace a3 := kBP (o' := .cells #[.int .i64 aE, .int .i64 aF] 24 (0, 0)) a3 hb; replace HB := bS HB hb; clear hb) | ((with_reducible refine gate_dst (N := 7) rfl ?_); refine bx (N := 7) (cs := #[.int .i64 0, .int .i64 0, .int .i64 0]) (t := 56) ?_; intro cG hg wM hbox hb; have a5 := az hbox; have hX := az ((gE hg (qL HB) : w.heap.size ≤ cG)); have pP := hX; obtain ⟨cP, cQ⟩ := nPB a1 hg; obtain ⟨dH, dI⟩ := nPB a2 hg; obtain ⟨dJ, dK⟩ := nPB a4 hg; obtain ⟨dL, dM⟩ := nPB a3 hg; replace a1 := kBB a1 hb; replace a2 := kBB a2 hb; replace a4 := kBB a4 hb; replace a3 := kBB a3 hb; replace HB := bS HB hb; clear hb hbox hg; have tJ := cQ.out; have tK := cP.out; have tL := dI.out; have tM := dH.out; have tN := dK.out; have tO := dJ.out; have tP := dM.out; have tQ := dL.out; obtain ⟨g8, g9, gA⟩ := cz3 a5.out; obtain ⟨gB, gC, gD⟩ := fz3 a5.out; obtain ⟨gF, gG, gH⟩ := cz3 a1.out; obtain ⟨gI, gJ, gL⟩ := fz3 a1.out; obtain ⟨gM, gN⟩ := cz2 a2.out; have gO := blk_frozen a2.out 0; have gP := blk_frozen a2.out 1; obtain ⟨gQ, gR, gS⟩ := cz3 a4.out; obtain ⟨gT, gU, gV⟩ := fz3 a4.out; obtain ⟨gW, gX⟩ := cz2 a3.out; have gY := blk_frozen a3.out 0; have gZ := blk_frozen a3.out 1) | ((with_reducible refine gate_callee (f := 33) rfl ?_); refine gl (some 38) Try.func33 #[.agg #[.int .i64 aJ, .int .i64 aK, .int .i64 aL], .agg #[.int .i64 aC, .int .i64 aD], .agg #[.int .i64 aZ, .int .i64 b0, .int .i64 b1], .agg #[.int .i64 aE, .int .i64 aF]] ?_; (with_reducible refine (spec_Touch.calls k aJ aK aL aC aD aZ b0 b1 aE aF cU cV cW c6 _ A5.out).mono ?_); rintro e wN ⟨rfl, hb⟩; refine ⟨_, rfl, ?_⟩; replace a1 := kBF a1 hb; replace a2 := kBF a2 hb; replace a4 := kBF a4 hb; replace a3 := kBF a3 hb; replace a5 := kBP (o' := .cells #[.int .i64 dB, .int .i64 dC, .int .i64 dD] 56 (0, 0)) a5 hb; replace HB := bS HB hb; clear hb) | ((with_reducible refine gate_dst (N := 9) rfl ?_); refine bx (N := 9) (cs := #[.int .i64 0, .int .i64 0, .int .i64 0]) (t := 56) ?_; intro cH hg wO hbox hb; have a6 := az hbox; have hY := az ((gE hg (qL HB) : w.heap.size ≤ cH)); have pQ := hY; obtain ⟨cR, cS⟩ := nPB a1 hg; obtain ⟨dN, dO⟩ := nPB a2 hg; obtain ⟨dP, dQ⟩ := nPB a4 hg; obtain ⟨dR, dS⟩ := nPB a3 hg; obtain ⟨e7, e8⟩ := nPB a5 hg; replace a1 := kBB a1 hb; replace a2 := kBB a2 hb; replace a4 := kBB a4 hb; replace a3 := kBB a3 hb; replace a5 := kBB a5 hb; replace HB := bS HB hb; clear hb hbox hg; have tR := cS.out; have tS := cR.out; have tT := dO.out; have tU := dN.out; have tV := dQ.out; have tW := dP.out; have tX := dS.out; have tY := dR.out; have tZ := e8.out; have u0 := e7.out; obtain ⟨hA, hD, hE⟩ := cz3 a6.out; obtain ⟨hF, hG, hH⟩ := fz3 a6.out))
  (try simp only [Act.put, List.setIfInBounds_toArray, List.set_cons_zero, List.set_cons_succ])
  go_cut [53] (fun pR wc => ∃ (kq : Nat) (e1 : Bool), pR = .bool e1 ∧ Aside0 (laws_FnTouchPoint.j0 kq bT c6 e1 aJ aK aL aC aD aZ b0 b1 aE aF = some r) ∧ Aside0 (kq ≤ k) ∧ Aside0 (wc.heap[bJ]? = some (.cells #[.int .i64 aJ, .int .i64 aK, .int .i64 aL] 38 (0, 0))) ∧ Aside0 (wc.heap[bK]? = some (.cells #[.int .i64 aC, .int .i64 aD] 24 (0, 0))) ∧ Aside0 (wc.heap[cF]? = some (.cells #[.int .i64 aZ, .int .i64 b0, .int .i64 b1] 38 (0, 0))) ∧ Aside0 (wc.heap[bL]? = some (.cells #[.int .i64 aE, .int .i64 aF] 24 (0, 0))) ∧ Aside0 (wc.heap[cG]? = some (.cells #[.int .i64 dB, .int .i64 dC, .int .i64 dD] 56 (0, 0))) ∧ Aside0 (wc.heap[cH]? = some (.cells #[.int .i64 cU, .int .i64 cV, .int .i64 cW] 56 (0, 0))) ∧ Aside0 (Below w.heap.size w wc))
  case first =>
    have H := hR.out
    clear hR
    by_cases cY : (bT != c6) = true
    · rw [if_pos cY] at H
      have dW : (bT != c6) = true := cY
      (try (have jD : decide (bT = c6) = false := by simpa using cY))
      (try (have jE : (bT == c6) = false := by simpa using cY))
      (try (have u1 : ¬ (bT = c6) := by simpa using cY))
      clear cY
      (first | rw [dW] | (simp only [i64_w, i32_w]; rw [dW]) | skip)
      have H' := az H
      clear H
      go_wp2
      go_meet
      case rel => exact ⟨_, (true), (by first | rfl | (simp; done) | (simp [*]; done)), H', ⟨by first | omega | exact Nat.le_refl _⟩, ⟨qF a1⟩, ⟨qF a2⟩, ⟨qF a4⟩, ⟨qF a3⟩, ⟨qF a5⟩, ⟨qP a6⟩, ⟨qL HB⟩⟩
    rw [if_neg cY] at H
    have dW : (bT != c6) = false := by simpa using cY
    (try (have jD : decide (bT = c6) = true := by simpa using cY))
    (try (have jE : (bT == c6) = true := by simpa using cY))
    clear cY
    (first | rw [dW] | (simp only [i64_w, i32_w]; rw [dW]) | skip)
    replace H := qH H
    obtain ⟨dV, jI, H⟩ := H
    try dsimp only at H
    by_cases fM : dV = true
    · subst fM
      replace H := qT H
      replace H := qH H
      obtain ⟨dA, pS, H⟩ := H
      try dsimp only at H
      have H' := az H
      clear H
      have u2 := c7.out
      have u3 := c8.out
      have u4 := cJ.out
      have u5 := cK.out
      have u6 := c9.out
      have u7 := cA.out
      have u9 := cP.out
      have uA := cQ.out
      have uB := cR.out
      have uC := cS.out
      obtain ⟨nW, nX, nY⟩ := cz3 a1.out
      obtain ⟨nZ, o0, o1⟩ := fz3 a1.out
      go_wp2_with (first | (go_at_call 40; (with_reducible refine (spec_ShapeOk.calls aJ aK aL true _ jI.out).mono ?_); rintro e wP ⟨rfl, hb⟩; replace a1 := kBF a1 hb; replace a2 := kBF a2 hb; replace a4 := kBF a4 hb; replace a3 := kBF a3 hb; replace a5 := kBF a5 hb; replace a6 := kBP (o' := .cells #[.int .i64 cU, .int .i64 cV, .int .i64 cW] 56 (0, 0)) a6 hb; replace HB := bS HB hb; clear hb; have uD := cM.out; have uE := cL.out; have uF := cN.out; have uG := cO.out; have uH := dJ.out; have uI := dK.out; have uJ := dP.out; have uK := dQ.out; obtain ⟨o2, o3, o4⟩ := cz3 a4.out; obtain ⟨o5, o6, o7⟩ := fz3 a4.out) | (go_at_call 40; (with_reducible refine (spec_ShapeOk.calls aZ b0 b1 dA _ pS.out).mono ?_); rintro e wQ ⟨rfl, hb⟩; replace a1 := kBB a1 hb; replace a2 := kBB a2 hb; replace a4 := kBB a4 hb; replace a3 := kBB a3 hb; replace a5 := kBB a5 hb; replace a6 := kBB a6 hb; replace HB := bS HB hb; clear hb))
      go_meet
      case rel => exact ⟨_, (!dA), (by first | rfl | (simp; done) | (simp [*]; done)), H', ⟨by first | omega | exact Nat.le_refl _⟩, ⟨qF a1⟩, ⟨qF a2⟩, ⟨qF a4⟩, ⟨qF a3⟩, ⟨qF a5⟩, ⟨qF a6⟩, ⟨qL HB⟩⟩
    replace fM := Bool.eq_false_iff.mpr fM
    subst fM
    replace H := qU H
    have H' := az H
    clear H
    have uL := c7.out
    have uM := c8.out
    have uN := cJ.out
    have uO := cK.out
    have uP := c9.out
    have uQ := cA.out
    have uR := cP.out
    have uS := cQ.out
    have uT := cR.out
    have uU := cS.out
    obtain ⟨o8, o9, oA⟩ := cz3 a1.out
    obtain ⟨oB, oC, oD⟩ := fz3 a1.out
    go_wp2_with (first | (go_at_call 40; (with_reducible refine (spec_ShapeOk.calls aJ aK aL false _ jI.out).mono ?_); rintro e wR ⟨rfl, hb⟩; replace a1 := kBF a1 hb; replace a2 := kBF a2 hb; replace a4 := kBF a4 hb; replace a3 := kBF a3 hb; replace a5 := kBF a5 hb; replace a6 := kBP (o' := .cells #[.int .i64 cU, .int .i64 cV, .int .i64 cW] 56 (0, 0)) a6 hb; replace HB := bS HB hb; clear hb))
    go_meet
    case rel => exact ⟨_, (true), (by first | rfl | (simp; done) | (simp [*]; done)), H', ⟨by first | omega | exact Nat.le_refl _⟩, ⟨qF a1⟩, ⟨qF a2⟩, ⟨qF a4⟩, ⟨qF a3⟩, ⟨qF a5⟩, ⟨qF a6⟩, ⟨qL HB⟩⟩
  case rest =>
    clear hR
    (try clear c2); (try clear hP); (try clear hQ); (try clear fO); (try clear fP); (try clear fQ); (try clear fU); (try clear fV); (try clear fY); (try clear fZ); (try clear g0); (try clear g4); (try clear g5); (try clear g8); (try clear g9); (try clear gA); (try clear gF); (try clear gG); (try clear gH); (try clear gM); (try clear gN); (try clear gQ); (try clear gR); (try clear gS); (try clear gW); (try clear gX); (try clear hA); (try clear hD); (try clear hE); (try clear fR); (try clear fS); (try clear fT); (try clear fW); (try clear fX); (try clear g1); (try clear g2); (try clear g3); (try clear g6); (try clear g7); (try clear gB); (try clear gC); (try clear gD); (try clear gI); (try clear gJ); (try clear gL); (try clear gO); (try clear gP); (try clear gT); (try clear gU); (try clear gV); (try clear gY); (try clear gZ); (try clear hF); (try clear hG); (try clear hH)
    obtain ⟨kq, e1, rfl, HA, eL, a1, a2, a4, a3, a5, a6, HB⟩ := hcut
    cases kq with
    | zero => exact absurd HA.out (by simp [laws_FnTouchPoint.j0])
    | succ hZ => ?_
    have H := HA.out
    clear HA
    simp only [laws_FnTouchPoint.j0] at H
    by_cases fN : e1 = true
    · subst fN
      replace H := qT H
      obtain rfl := Option.some.inj H
      go_wp2
      go_ret
      exact ⟨qE, qL HB⟩
    replace fN := Bool.eq_false_iff.mpr fN
    subst fN
    replace H := qU H
    replace H := qH H
    obtain ⟨⟨cB, cC, cD, cE⟩, jJ, H⟩ := H
    try dsimp only at H
    replace H := qH H
    obtain ⟨⟨bU, bV⟩, jA, H⟩ := H
    try dsimp only at H
    obtain ⟨aA, cZ⟩ : ∃ y_ : List (S24), y_ = (([(⟨wrap64 (Int.tdiv (wrap64 (aC + aE)) 2), wrap64 (Int.tdiv (wrap64 (aD + aF)) 2)⟩ : S24), (⟨bU, bV⟩ : S24), (⟨aC, aD⟩ : S24), (⟨aE, aF⟩ : S24)] : List (S24))) := ⟨_, rfl⟩
    replace H : (laws_FnTouchPoint.l0 hZ bT aA (aA.length : Int) 0 aJ aK aL aC aD aZ b0 b1 aE aF) = some r := by first | (rw [cZ]; with_reducible exact H) | (have H2_ := (Option.bind_some _ _).symm.trans H; rw [cZ]; with_reducible exact H2_) | (have H2_ := (Option.bind_some _ _).symm.trans H; with_reducible exact H2_) | with_reducible exact H | (rw [cZ]; exact H) | exact H
    have eV := az cZ
    clear cZ
    have H' := az H
    clear H
    have uV := c8.out
    have uW := c7.out
    have uX := cL.out
    have uY := cM.out
    have uZ := dF.out
    have v0 := dG.out
    have v1 := dH.out
    have v2 := dI.out
    have v3 := dN.out
    have v4 := dO.out
    obtain ⟨oE, oF⟩ := cz2 a2.out
    have oG := blk_frozen a2.out 0
    have oH := blk_frozen a2.out 1
    have v5 := cA.out
    have v6 := c9.out
    have v7 := cO.out
    have v8 := cN.out
    have v9 := dL.out
    have vA := dM.out
    have vB := dR.out
    have vC := dS.out
    obtain ⟨oI, oJ⟩ := cz2 a3.out
    have oK := blk_frozen a3.out 0
    have oL := blk_frozen a3.out 1
    try go_wp2_with (first | ((with_reducible refine gate_dst (N := 11) rfl ?_); refine bx (N := 11) (cs := #[.int .i64 0, .int .i64 0]) (t := 24) ?_; intro bW hg pT hbox hb; have a7 := az hbox; have jB := az ((gE hg (qL HB) : w.heap.size ≤ bW)); have pU := jB; obtain ⟨e9, eA⟩ := nPB a1 hg; obtain ⟨eB, eC⟩ := nPB a2 hg; obtain ⟨eD, eE⟩ := nPB a4 hg; obtain ⟨eF, eG⟩ := nPB a3 hg; obtain ⟨eH, eI⟩ := nPB a5 hg; obtain ⟨eJ, eK⟩ := nPB a6 hg; replace a1 := kBB a1 hb; replace a2 := kBB a2 hb; replace a4 := kBB a4 hb; replace a3 := kBB a3 hb; replace a5 := kBB a5 hb; replace a6 := kBB a6 hb; replace HB := bS HB hb; clear hb hbox hg; have vD := eA.out; have vE := e9.out; have vF := eC.out; have vG := eB.out; have vH := eE.out; have vI := eD.out; have vJ := eG.out; have vK := eF.out; have vL := eI.out; have vM := eH.out; have vN := eK.out; have vO := eJ.out; obtain ⟨oM, oN⟩ := cz2 a7.out; have oO := blk_frozen a7.out 0; have oP := blk_frozen a7.out 1))
    obtain ⟨dX, hw_⟩ : ∃ x, x = ((pT.setCell ⟨bW, 0, none⟩ (.int .i64 (wrap64 (Int.tdiv (wrap64 (aC + aE)) 2)))).setCell ⟨bW, 1, none⟩ (.int .i64 (wrap64 (Int.tdiv (wrap64 (aD + aF)) 2)))) := ⟨_, rfl⟩
    replace a1 : Aside0 (dX.heap[bJ]? = some (.cells #[.int .i64 aJ, .int .i64 aK, .int .i64 aL] 38 (0, 0))) := ⟨by rw [hw_]; exact qF a1⟩
    replace a2 : Aside0 (dX.heap[bK]? = some (.cells #[.int .i64 aC, .int .i64 aD] 24 (0, 0))) := ⟨by rw [hw_]; exact qF a2⟩
    replace a4 : Aside0 (dX.heap[cF]? = some (.cells #[.int .i64 aZ, .int .i64 b0, .int .i64 b1] 38 (0, 0))) := ⟨by rw [hw_]; exact qF a4⟩
    replace a3 : Aside0 (dX.heap[bL]? = some (.cells #[.int .i64 aE, .int .i64 aF] 24 (0, 0))) := ⟨by rw [hw_]; exact qF a3⟩
    replace a5 : Aside0 (dX.heap[cG]? = some (.cells #[.int .i64 dB, .int .i64 dC, .int .i64 dD] 56 (0, 0))) := ⟨by rw [hw_]; exact qF a5⟩
    replace a6 : Aside0 (dX.heap[cH]? = some (.cells #[.int .i64 cU, .int .i64 cV, .int .i64 cW] 56 (0, 0))) := ⟨by rw [hw_]; exact qF a6⟩
    replace a7 : Aside0 (dX.heap[bW]? = some (.cells #[.int .i64 (wrap64 (Int.tdiv (wrap64 (aC + aE)) 2)), .int .i64 (wrap64 (Int.tdiv (wrap64 (aD + aF)) 2))] 24 (0, 0))) := ⟨by rw [hw_]; exact qP a7⟩
    replace HB : Aside0 (Below w.heap.size w dX) := ⟨by rw [hw_]; exact qL HB⟩
    rw [← hw_]
    clear hw_
    replace a1 := az (blk_drew a1.out)
    replace a2 := az (blk_drew a2.out)
    replace a4 := az (blk_drew a4.out)
    replace a3 := az (blk_drew a3.out)
    replace a5 := az (blk_drew a5.out)
    replace a6 := az (blk_drew a6.out)
    replace a7 := az (blk_drew a7.out)
    replace HB := az (below_drew1 HB.out)
    refine start_ (n := 7) (S := fun w' => w'.cell? ⟨bJ, 0, none⟩ = some (.int .i64 aJ) ∧ w'.cell? ⟨bJ, 1, none⟩ = some (.int .i64 aK) ∧ w'.cell? ⟨bJ, 2, none⟩ = some (.int .i64 aL) ∧ w'.cell? ⟨bK, 0, none⟩ = some (.int .i64 aC) ∧ w'.cell? ⟨bK, 1, none⟩ = some (.int .i64 aD) ∧ w'.cell? ⟨bL, 0, none⟩ = some (.int .i64 aE) ∧ w'.cell? ⟨bL, 1, none⟩ = some (.int .i64 aF)) (ds := []) #[false, false, false, false, false, false, false] (by kernel_rfl) rfl rfl ⟨bc a1 0, bc a1 1, bc a1 2, bc a2 0, bc a2 1, bc a3 0, bc a3 1⟩ (fun hHeld => ?_)
    generalize dX.drew = wS at a1 a2 a4 a3 a5 a6 a7 HB hHeld ⊢
    refine take_ (i := 0) (N := some 70) (v := ?_) (a' := ?_) #[true, false, false, false, false, false, false] rfl rfl (by kernel_rfl) (fun _ _ _ h => h) (Or.inl ⟨by rfl, ?_⟩) hHeld ?_ ?_
    rotate_left
    · rintro w' ⟨s0, s1, s2, s3, s4, s5, s6⟩
      go_simp
      with_reducible rfl
    rotate_left
    · simp only [Act.put, List.setIfInBounds_toArray, List.set_cons_zero, List.set_cons_succ, i64_w, i32_w]
      rfl
    refine take_ (i := 1) (N := some 71) (v := ?_) (a' := ?_) #[true, true, false, false, false, false, false] rfl rfl (by kernel_rfl) (fun _ _ _ h => h) (Or.inl ⟨by rfl, ?_⟩) hHeld ?_ ?_
    rotate_left
    · rintro w' ⟨s0, s1, s2, s3, s4, s5, s6⟩
      go_simp
      with_reducible rfl
    rotate_left
    · simp only [Act.put, List.setIfInBounds_toArray, List.set_cons_zero, List.set_cons_succ, i64_w, i32_w]
      rfl
    refine take_ (i := 3) (N := some 73) (v := ?_) (a' := ?_) #[true, true, false, true, false, false, false] rfl rfl (by kernel_rfl) (fun _ _ _ h => h) (Or.inl ⟨by rfl, ?_⟩) hHeld ?_ ?_
    rotate_left
    · rintro w' ⟨s0, s1, s2, s3, s4, s5, s6⟩
      go_simp
      with_reducible rfl
    rotate_left
    · simp only [Act.put, List.setIfInBounds_toArray, List.set_cons_zero, List.set_cons_succ, i64_w, i32_w]
      rfl
    refine join_ (σ := Nat) 1 (fl 7 63) (fun s_ => [(72, .agg #[.int .i64 cB, .int .i64 cC, .int .i64 cD, .int .i64 cE]), (74, .agg #[.int .i64 bU, .int .i64 bV]), (12, .pointer (some ⟨s_, 0, none⟩))]) (fun s_ w' => (w'.cell? ⟨bJ, 0, none⟩ = some (.int .i64 aJ) ∧ w'.cell? ⟨bJ, 1, none⟩ = some (.int .i64 aK) ∧ w'.cell? ⟨bJ, 2, none⟩ = some (.int .i64 aL) ∧ w'.cell? ⟨bK, 0, none⟩ = some (.int .i64 aC) ∧ w'.cell? ⟨bK, 1, none⟩ = some (.int .i64 aD) ∧ w'.cell? ⟨bL, 0, none⟩ = some (.int .i64 aE) ∧ w'.cell? ⟨bL, 1, none⟩ = some (.int .i64 aF)) ∧ (w'.heap[bJ]? = some (.cells #[.int .i64 aJ, .int .i64 aK, .int .i64 aL] 38 (0, 0))) ∧ (w'.heap[bK]? = some (.cells #[.int .i64 aC, .int .i64 aD] 24 (0, 0))) ∧ (w'.heap[cF]? = some (.cells #[.int .i64 aZ, .int .i64 b0, .int .i64 b1] 38 (0, 0))) ∧ (w'.heap[bL]? = some (.cells #[.int .i64 aE, .int .i64 aF] 24 (0, 0))) ∧ (w'.heap[cG]? = some (.cells #[.int .i64 dB, .int .i64 dC, .int .i64 dD] 56 (0, 0))) ∧ (w'.heap[cH]? = some (.cells #[.int .i64 cU, .int .i64 cV, .int .i64 cW] 56 (0, 0))) ∧ (w'.heap[bW]? = some (.cells #[.int .i64 (wrap64 (Int.tdiv (wrap64 (aC + aE)) 2)), .int .i64 (wrap64 (Int.tdiv (wrap64 (aD + aF)) 2))] 24 (0, 0))) ∧ (w'.heap[s_]? = some (.cells #[.int .i64 0, .int .i64 0] 24 (0, 0))) ∧ (w.heap.size ≤ s_) ∧ (w.heap.size ≤ s_) ∧ (bJ ≠ s_) ∧ (s_ ≠ bJ) ∧ (bK ≠ s_) ∧ (s_ ≠ bK) ∧ (cF ≠ s_) ∧ (s_ ≠ cF) ∧ (bL ≠ s_) ∧ (s_ ≠ bL) ∧ (cG ≠ s_) ∧ (s_ ≠ cG) ∧ (cH ≠ s_) ∧ (s_ ≠ cH) ∧ (bW ≠ s_) ∧ (s_ ≠ bW) ∧ (Below w.heap.size w w')) ?_ ?_
    rotate_left
    · intro hCont
      refine two_ (i := 2) (j := 5) (Ni := some 72) (Nj := some 12) (fl 7 15) (fl 7 43) rfl rfl rfl rfl (by kernel_rfl) (by decide) (by decide) (fun K hK => ?_) (fun K hK => ?_)
      · skip
        refine go1 Try.func39 #[.agg #[.int .i64 aJ, .int .i64 aK, .int .i64 aL], .agg #[.int .i64 aC, .int .i64 aD]] ?_
        with_reducible refine (impl_ShapeBounds.calls aJ aK aL aC aD cB cC cD cE _ jJ.out).mono ?_
        rintro e pV ⟨rfl, hb⟩
        refine ⟨_, rfl, ?_⟩
        replace a1 := kBB a1 hb
        replace a2 := kBB a2 hb
        replace a4 := kBB a4 hb
        replace a3 := kBB a3 hb
        replace a5 := kBB a5 hb
        replace a6 := kBB a6 hb
        replace a7 := kBB a7 hb
        replace HB := bS HB hb
        clear hb
        refine hK.out _ _ ⟨bc a1 0, bc a1 1, bc a1 2, bc a2 0, bc a2 1, bc a3 0, bc a3 1⟩ (fun hHeld => ?_)
        clear hK K
        refine nm (some 72) ?_
        refine two_ (i := 4) (j := 5) (Ni := some 74) (Nj := some 12) (fl 7 31) (fl 7 47) rfl rfl rfl rfl (by kernel_rfl) (by decide) (by decide) (fun K hK => ?_) (fun K hK => ?_)
        · skip
          refine go1 Try.func41 #[.agg #[.int .i64 cB, .int .i64 cC, .int .i64 cD, .int .i64 cE], .agg #[.int .i64 aE, .int .i64 aF]] ?_
          with_reducible refine (impl_BoxNear.calls cB cC cD cE aE aF bU bV _ jA.out).mono ?_
          rintro e jK ⟨rfl, hb⟩
          refine ⟨_, rfl, ?_⟩
          replace a1 := kBB a1 hb
          replace a2 := kBB a2 hb
          replace a4 := kBB a4 hb
          replace a3 := kBB a3 hb
          replace a5 := kBB a5 hb
          replace a6 := kBB a6 hb
          replace a7 := kBB a7 hb
          replace HB := bS HB hb
          clear hb
          refine hK.out _ _ ⟨bc a1 0, bc a1 1, bc a1 2, bc a2 0, bc a2 1, bc a3 0, bc a3 1⟩ (fun hHeld => ?_)
          clear hK K
          refine nm (some 74) ?_
          refine one_ (i := 5) (N := some 12) #[true, true, true, true, true, true, false] rfl rfl (by kernel_rfl) (by decide) (fun K hK => ?_)
          refine box_step ?hg (N := 12) ?hd (cs := #[.int .i64 0, .int .i64 0]) (t := 24) ?hr ?_; (case hd => rfl); (case hg => rfl); (case hr => first | (go_simp; done) | (go_simp; rfl))
          intro b2 hg jL hbox hb
          have a8 := az hbox
          have c1 := az ((gE hg (qL HB) : w.heap.size ≤ b2))
          have cT := c1
          obtain ⟨aG, aO⟩ := nPB a1 hg
          obtain ⟨aH, aP⟩ := nPB a2 hg
          obtain ⟨aQ, aR⟩ := nPB a4 hg
          obtain ⟨aI, aS⟩ := nPB a3 hg
          obtain ⟨aT, aU⟩ := nPB a5 hg
          obtain ⟨aV, aW⟩ := nPB a6 hg
          obtain ⟨aX, aY⟩ := nPB a7 hg
          replace a1 := kBB a1 hb
          replace a2 := kBB a2 hb
          replace a4 := kBB a4 hb
          replace a3 := kBB a3 hb
          replace a5 := kBB a5 hb
          replace a6 := kBB a6 hb
          replace a7 := kBB a7 hb
          replace HB := bS HB hb
          clear hb hbox hg
          refine hK.out _ _ ⟨bc a1 0, bc a1 1, bc a1 2, bc a2 0, bc a2 1, bc a3 0, bc a3 1⟩ (fun hHeld => ?_)
          clear hK K
          refine nm (some 12) ?_
          exact nrm (hCont (b2) _ ⟨hHeld, (qB a1), (qB a2), (qB a4), (qB a3), (qB a5), (qB a6), (qB a7), (qB a8), c1.out, cT.out, aG.out, aO.out, aH.out, aP.out, aQ.out, aR.out, aI.out, aS.out, aT.out, aU.out, aV.out, aW.out, aX.out, aY.out, (qL HB)⟩)
        skip
        refine box_step ?hg (N := 12) ?hd (cs := #[.int .i64 0, .int .i64 0]) (t := 24) ?hr ?_; (case hd => rfl); (case hg => rfl); (case hr => first | (go_simp; done) | (go_simp; rfl))
        intro b2 hg jK hbox hb
        have a8 := az hbox
        have c1 := az ((gE hg (qL HB) : w.heap.size ≤ b2))
        have cT := c1
        obtain ⟨aG, aO⟩ := nPB a1 hg
        obtain ⟨aH, aP⟩ := nPB a2 hg
        obtain ⟨aQ, aR⟩ := nPB a4 hg
        obtain ⟨aI, aS⟩ := nPB a3 hg
        obtain ⟨aT, aU⟩ := nPB a5 hg
        obtain ⟨aV, aW⟩ := nPB a6 hg
        obtain ⟨aX, aY⟩ := nPB a7 hg
        replace a1 := kBB a1 hb
        replace a2 := kBB a2 hb
        replace a4 := kBB a4 hb
        replace a3 := kBB a3 hb
        replace a5 := kBB a5 hb
        replace a6 := kBB a6 hb
        replace a7 := kBB a7 hb
        replace HB := bS HB hb
        clear hb hbox hg
        refine hK.out _ _ ⟨bc a1 0, bc a1 1, bc a1 2, bc a2 0, bc a2 1, bc a3 0, bc a3 1⟩ (fun hHeld => ?_)
        clear hK K
        refine nm (some 12) ?_
        refine one_ (i := 4) (N := some 74) #[true, true, true, true, true, true, false] rfl rfl (by kernel_rfl) (by decide) (fun K hK => ?_)
        refine go1 Try.func41 #[.agg #[.int .i64 cB, .int .i64 cC, .int .i64 cD, .int .i64 cE], .agg #[.int .i64 aE, .int .i64 aF]] ?_
        with_reducible refine (impl_BoxNear.calls cB cC cD cE aE aF bU bV _ jA.out).mono ?_
        rintro e jL ⟨rfl, hb⟩
        refine ⟨_, rfl, ?_⟩
        replace a1 := kBB a1 hb
        replace a2 := kBB a2 hb
        replace a4 := kBB a4 hb
        replace a3 := kBB a3 hb
        replace a5 := kBB a5 hb
        replace a6 := kBB a6 hb
        replace a7 := kBB a7 hb
        replace a8 := kBB a8 hb
        replace HB := bS HB hb
        clear hb
        refine hK.out _ _ ⟨bc a1 0, bc a1 1, bc a1 2, bc a2 0, bc a2 1, bc a3 0, bc a3 1⟩ (fun hHeld => ?_)
        clear hK K
        refine nm (some 74) ?_
        exact nrm (hCont (b2) _ ⟨hHeld, (qB a1), (qB a2), (qB a4), (qB a3), (qB a5), (qB a6), (qB a7), (qB a8), c1.out, cT.out, aG.out, aO.out, aH.out, aP.out, aQ.out, aR.out, aI.out, aS.out, aT.out, aU.out, aV.out, aW.out, aX.out, aY.out, (qL HB)⟩)
      skip
      refine box_step ?hg (N := 12) ?hd (cs := #[.int .i64 0, .int .i64 0]) (t := 24) ?hr ?_; (case hd => rfl); (case hg => rfl); (case hr => first | (go_simp; done) | (go_simp; rfl))
      intro b2 hg pV hbox hb
      have a8 := az hbox
      have c1 := az ((gE hg (qL HB) : w.heap.size ≤ b2))
      have cT := c1
      obtain ⟨aG, aO⟩ := nPB a1 hg
      obtain ⟨aH, aP⟩ := nPB a2 hg
      obtain ⟨aQ, aR⟩ := nPB a4 hg
      obtain ⟨aI, aS⟩ := nPB a3 hg
      obtain ⟨aT, aU⟩ := nPB a5 hg
      obtain ⟨aV, aW⟩ := nPB a6 hg
      obtain ⟨aX, aY⟩ := nPB a7 hg
      replace a1 := kBB a1 hb
      replace a2 := kBB a2 hb
      replace a4 := kBB a4 hb
      replace a3 := kBB a3 hb
      replace a5 := kBB a5 hb
      replace a6 := kBB a6 hb
      replace a7 := kBB a7 hb
      replace HB := bS HB hb
      clear hb hbox hg
      refine hK.out _ _ ⟨bc a1 0, bc a1 1, bc a1 2, bc a2 0, bc a2 1, bc a3 0, bc a3 1⟩ (fun hHeld => ?_)
      clear hK K
      refine nm (some 12) ?_
      refine one_ (i := 2) (N := some 72) #[true, true, true, true, false, true, false] rfl rfl (by kernel_rfl) (by decide) (fun K hK => ?_)
      refine go1 Try.func39 #[.agg #[.int .i64 aJ, .int .i64 aK, .int .i64 aL], .agg #[.int .i64 aC, .int .i64 aD]] ?_
      with_reducible refine (impl_ShapeBounds.calls aJ aK aL aC aD cB cC cD cE _ jJ.out).mono ?_
      rintro e jK ⟨rfl, hb⟩
      refine ⟨_, rfl, ?_⟩
      replace a1 := kBB a1 hb
      replace a2 := kBB a2 hb
      replace a4 := kBB a4 hb
      replace a3 := kBB a3 hb
      replace a5 := kBB a5 hb
      replace a6 := kBB a6 hb
      replace a7 := kBB a7 hb
      replace a8 := kBB a8 hb
      replace HB := bS HB hb
      clear hb
      refine hK.out _ _ ⟨bc a1 0, bc a1 1, bc a1 2, bc a2 0, bc a2 1, bc a3 0, bc a3 1⟩ (fun hHeld => ?_)
      clear hK K
      refine nm (some 72) ?_
      refine one_ (i := 4) (N := some 74) #[true, true, true, true, true, true, false] rfl rfl (by kernel_rfl) (by decide) (fun K hK => ?_)
      refine go1 Try.func41 #[.agg #[.int .i64 cB, .int .i64 cC, .int .i64 cD, .int .i64 cE], .agg #[.int .i64 aE, .int .i64 aF]] ?_
      with_reducible refine (impl_BoxNear.calls cB cC cD cE aE aF bU bV _ jA.out).mono ?_
      rintro e jL ⟨rfl, hb⟩
      refine ⟨_, rfl, ?_⟩
      replace a1 := kBB a1 hb
      replace a2 := kBB a2 hb
      replace a4 := kBB a4 hb
      replace a3 := kBB a3 hb
      replace a5 := kBB a5 hb
      replace a6 := kBB a6 hb
      replace a7 := kBB a7 hb
      replace a8 := kBB a8 hb
      replace HB := bS HB hb
      clear hb
      refine hK.out _ _ ⟨bc a1 0, bc a1 1, bc a1 2, bc a2 0, bc a2 1, bc a3 0, bc a3 1⟩ (fun hHeld => ?_)
      clear hK K
      refine nm (some 74) ?_
      exact nrm (hCont (b2) _ ⟨hHeld, (qB a1), (qB a2), (qB a4), (qB a3), (qB a5), (qB a6), (qB a7), (qB a8), c1.out, cT.out, aG.out, aO.out, aH.out, aP.out, aQ.out, aR.out, aI.out, aS.out, aT.out, aU.out, aV.out, aW.out, aX.out, aY.out, (qL HB)⟩)
    rintro b2 jM ⟨hS_, h0_, h1_, h2_, h3_, h4_, h5_, h6_, h7_, h8_, h9_, h10_, h11_, h12_, h13_, h14_, h15_, h16_, h17_, h18_, h19_, h20_, h21_, h22_, h23_, h24_⟩
    have a8 := az h7_
    have c1 := az h8_
    have cT := az h9_
    have aG := az h10_
    have aO := az h11_
    have aH := az h12_
    have aP := az h13_
    have aQ := az h14_
    have aR := az h15_
    have aI := az h16_
    have aS := az h17_
    have aT := az h18_
    have aU := az h19_
    have aV := az h20_
    have aW := az h21_
    have aX := az h22_
    have aY := az h23_
    replace a1 := az h0_
    replace a2 := az h1_
    replace a4 := az h2_
    replace a3 := az h3_
    replace a5 := az h4_
    replace a6 := az h5_
    replace a7 := az h6_
    replace HB := az h24_
    clear h0_ h1_ h2_ h3_ h4_ h5_ h6_ h7_ h8_ h9_ h10_ h11_ h12_ h13_ h14_ h15_ h16_ h17_ h18_ h19_ h20_ h21_ h22_ h23_ h24_
    have hHeld := hS_
    refine nmp ?_
    refine one_ (i := 6) (N := none) #[true, true, true, true, true, true, true] rfl rfl (by kernel_rfl) (by decide) (fun K hK => ?_)
    have w2 : jM.cell? ⟨b2, 0, none⟩ = some (.int .i64 0) := bc a8 0
    have vP := blk_frozen a8.out 0
    have oQ := aG.out
    have oR := aH.out
    have oS := aQ.out
    have oT := aI.out
    have oU := aT.out
    have oV := aV.out
    have oW := aX.out
    have oX := aO.out
    have oY := aP.out
    have oZ := aR.out
    have p0 := aS.out
    have p1 := aU.out
    have p2 := aW.out
    have p3 := aY.out
    have w3 : jM.cell? ⟨b2, 1, none⟩ = some (.int .i64 0) := bc a8 1
    have vQ := blk_frozen a8.out 1
    have p4 := aG.out
    have p5 := aH.out
    have p6 := aQ.out
    have p7 := aI.out
    have p8 := aT.out
    have p9 := aV.out
    have pA := aX.out
    have pB := aO.out
    have pC := aP.out
    have pD := aR.out
    have pE := aS.out
    have pF := aU.out
    have pG := aW.out
    have pH := aY.out
    refine skip_ (w1 := ?_) ?hw ?hn ?_ ?_; (case hw => unfold Region.wanted; rfl); (case hn => rfl)
    rotate_left
    · go_simp
      rfl
    refine hK.out _ _ ⟨(cf aG ((cf aG (hHeld.1)))), (cf aG ((cf aG (hHeld.2.1)))), (cf aG ((cf aG (hHeld.2.2.1)))), (cf aH ((cf aH (hHeld.2.2.2.1)))), (cf aH ((cf aH (hHeld.2.2.2.2.1)))), (cf aI ((cf aI (hHeld.2.2.2.2.2.1)))), (cf aI ((cf aI (hHeld.2.2.2.2.2.2))))⟩ (fun hHeld => ?_)
    clear hK K
    refine done_ (by kernel_rfl) ?_
    have vR := aX.out
    have vS := aY.out
    obtain ⟨hI, hJ⟩ := cz2 a7.out
    have hL := blk_frozen a7.out 0
    have hM := blk_frozen a7.out 1
    have vT := aO.out
    have vU := aG.out
    have vV := aP.out
    have vW := aH.out
    have vX := aR.out
    have vY := aQ.out
    have pW := aS.out
    have pX := aI.out
    have pY := aU.out
    have pZ := aT.out
    have r0 := aW.out
    have r1 := aV.out
    obtain ⟨eX, eY⟩ := cz2 a8.out
    have eZ := blk_frozen a8.out 0
    have fA := blk_frozen a8.out 1
    obtain ⟨fB, fC⟩ := cz2 a2.out
    have fD := blk_frozen a2.out 0
    have fE := blk_frozen a2.out 1
    obtain ⟨fG, fH⟩ := cz2 a3.out
    have fI := blk_frozen a3.out 0
    have fJ := blk_frozen a3.out 1
    try go_wp2_with (first | ((with_reducible refine gate_dst (N := 79) rfl ?_); refine Kd.R_lit k24 _ 24 ?hg (N := 79) ?hd (xs := ([(⟨wrap64 (Int.tdiv (wrap64 (aC + aE)) 2), wrap64 (Int.tdiv (wrap64 (aD + aF)) 2)⟩ : S24), (⟨bU, bV⟩ : S24), (⟨aC, aD⟩ : S24), (⟨aE, aF⟩ : S24)] : List (S24))) (inner := [.int .i64 (wrap64 (Int.tdiv (wrap64 (aC + aE)) 2)), .int .i64 (wrap64 (Int.tdiv (wrap64 (aD + aF)) 2)), .int .i64 bU, .int .i64 bV, .int .i64 aC, .int .i64 aD, .int .i64 aE, .int .i64 aF]) (ok := fun _ => True) (okp := fun _ => True) ?hr ?hp (fun _ hk => hk) trivial (Below.refl _ _) (Nat.le_refl _) (by simp) ?_; (case hd => rfl); (case hg => rfl); (case hr => first | (go_simp; done) | (go_simp; rfl)); (case hp => exact (Reps.c2 (show Kd.M k24 _ _ _ (⟨wrap64 (Int.tdiv (wrap64 (aC + aE)) 2), wrap64 (Int.tdiv (wrap64 (aD + aF)) 2)⟩ : S24) [.int .i64 (wrap64 (Int.tdiv (wrap64 (aC + aE)) 2)), .int .i64 (wrap64 (Int.tdiv (wrap64 (aD + aF)) 2))] from (k24_mkM _ _ _ (⟨wrap64 (Int.tdiv (wrap64 (aC + aE)) 2), wrap64 (Int.tdiv (wrap64 (aD + aF)) 2)⟩ : S24) )) (Reps.c2 (show Kd.M k24 _ _ _ (⟨bU, bV⟩ : S24) [.int .i64 bU, .int .i64 bV] from (k24_mkM _ _ _ (⟨bU, bV⟩ : S24) )) (Reps.c2 (show Kd.M k24 _ _ _ (⟨aC, aD⟩ : S24) [.int .i64 aC, .int .i64 aD] from (k24_mkM _ _ _ (⟨aC, aD⟩ : S24) )) (Reps.c2 (show Kd.M k24 _ _ _ (⟨aE, aF⟩ : S24) [.int .i64 aE, .int .i64 aF] from (k24_mkM _ _ _ (⟨aE, aF⟩ : S24) )) (Reps.none _ _)))))); intro vZ w4 dY hb hg_ hnew_; clear hg_ hnew_; (first | rw [← eV.out] at dY | (simp only [Int.reduceToNat] at dY; rw [← eV.out] at dY)); have eW := az (Kd.R_lower (Kd.R_newB (Kd.R_newB (Kd.R_newB (Kd.R_newB dY (g := bK) (o := .cells #[.int .i64 aC, .int .i64 aD] 24 (0, 0)) (qF a2)) (g := bL) (o := .cells #[.int .i64 aE, .int .i64 aF] 24 (0, 0)) (qF a3)) (g := bW) (o := .cells #[.int .i64 (wrap64 (Int.tdiv (wrap64 (aC + aE)) 2)), .int .i64 (wrap64 (Int.tdiv (wrap64 (aD + aF)) 2))] 24 (0, 0)) (qF a7)) (g := b2) (o := .cells #[.int .i64 bU, .int .i64 bV] 24 (0, 0)) (qP a8)) (below_size (qL HB))); replace a1 := kBF a1 hb; replace a2 := kBF a2 hb; replace a4 := kBF a4 hb; replace a3 := kBF a3 hb; replace a5 := kBF a5 hb; replace a6 := kBF a6 hb; replace a7 := kBF a7 hb; replace a8 := kBP (o' := .cells #[.int .i64 bU, .int .i64 bV] 24 (0, 0)) a8 hb; replace HB := bS HB hb; clear hb dY; obtain ⟨jF, jG, jH⟩ := Kd.R_slice eW.out; subst jH))
    go_loopg [81] hZ (fun kq v81 w' => ∃ (a9 : Int), v81 = .int .i64 a9 ∧ Aside0 (laws_FnTouchPoint.l0 kq bT aA (aA.length : Int) a9 aJ aK aL aC aD aZ b0 b1 aE aF = some r) ∧ Aside0 (kq ≤ hZ) ∧ Aside0 (Kd.R k24 24 w' w.heap.size (fun k_ => k_ ≠ bK ∧ k_ ≠ bL ∧ k_ ≠ bW ∧ k_ ≠ b2) (.slice jF aA.length jG) aA) ∧ Aside0 (w'.heap[bJ]? = some (.cells #[.int .i64 aJ, .int .i64 aK, .int .i64 aL] 38 (0, 0))) ∧ Aside0 (w'.heap[bK]? = some (.cells #[.int .i64 aC, .int .i64 aD] 24 (0, 0))) ∧ Aside0 (w'.heap[cF]? = some (.cells #[.int .i64 aZ, .int .i64 b0, .int .i64 b1] 38 (0, 0))) ∧ Aside0 (w'.heap[bL]? = some (.cells #[.int .i64 aE, .int .i64 aF] 24 (0, 0))) ∧ Aside0 (w'.heap[cG]? = some (.cells #[.int .i64 dB, .int .i64 dC, .int .i64 dD] 56 (0, 0))) ∧ Aside0 (w'.heap[cH]? = some (.cells #[.int .i64 cU, .int .i64 cV, .int .i64 cW] 56 (0, 0))) ∧ Aside0 (w'.heap[bW]? = some (.cells #[.int .i64 (wrap64 (Int.tdiv (wrap64 (aC + aE)) 2)), .int .i64 (wrap64 (Int.tdiv (wrap64 (aD + aF)) 2))] 24 (0, 0))) ∧ Aside0 (w'.heap[b2]? = some (.cells #[.int .i64 bU, .int .i64 bV] 24 (0, 0))) ∧ Aside0 (Below w.heap.size w w'))
    case atStart => exact ⟨(0), (by first | rfl | (simp; done) | (simp [*]; done)), H', ⟨Nat.le_refl _⟩, ⟨by (with_reducible repeat (first | apply Kd.R_alloc | apply Kd.R_drewN | apply Kd.R_drew)); exact Kd.R_mono eW.out (fun _ hk => ⟨hk.1.1.1.2, ⟨hk.1.1.2, ⟨hk.1.2, hk.2⟩⟩⟩)⟩, ⟨qF a1⟩, ⟨qF a2⟩, ⟨qF a4⟩, ⟨qF a3⟩, ⟨qF a5⟩, ⟨qF a6⟩, ⟨qF a7⟩, ⟨qF a8⟩, ⟨qL HB⟩⟩
    case round =>
      clear H'
      (try clear c2); (try clear eX); (try clear eY); (try clear fB); (try clear fC); (try clear fG); (try clear fH); (try clear hI); (try clear hJ); (try clear eZ); (try clear fA); (try clear fD); (try clear fE); (try clear fI); (try clear fJ); (try clear hL); (try clear hM)
      obtain ⟨a9, rfl, HA, eM, aM, a1, a2, a4, a3, a5, a6, a7, a8, HB⟩ := hrel
      cases gk with
      | zero => exact absurd HA.out (by simp [laws_FnTouchPoint.l0])
      | succ k2 => ?_
      have H := HA.out
      clear HA
      simp only [laws_FnTouchPoint.l0] at H
      by_cases dZ : a9 < (aA.length : Int)
      · rw [if_pos dZ] at H
        have jC : decide (a9 < (aA.length : Int)) = true := decide_eq_true dZ
        clear dZ
        by_cases eP : 0 ≤ a9
        · rw [if_pos eP] at H
          have r2 : decide (0 ≤ a9) = true := decide_eq_true eP
          clear eP
          by_cases eQ : a9 < (aA.length : Int)
          · rw [if_pos eQ] at H
            have r3 : decide (a9 < (aA.length : Int)) = true := decide_eq_true eQ
            clear eQ
            replace H := qH H
            obtain ⟨eN, eR, H⟩ := H
            try dsimp only at H
            by_cases eS : eN = true
            · subst eS
              replace H := qT H
              replace H := qH H
              obtain ⟨eO, fK, H⟩ := H
              try dsimp only at H
              by_cases eT : eO = true
              · subst eT
                replace H := qT H
                by_cases eU : bT = true
                · subst eU
                  replace H := qT H
                  have H' := az H
                  clear H
                  have bQ : 0 ≤ (a9 : Int) := of_decide_eq_true (by first | (with_reducible assumption) | assumption)
                  have bR : a9 < (aA.length : Int) := of_decide_eq_true (by first | (with_reducible assumption) | assumption)
                  obtain ⟨e5, cX, dT, dU⟩ := at_T24 (Kd.R_reads' aM.out).2.2 a9 bQ bR
                  cases cX
                  replace bQ := eq_true bQ
                  replace bR := eq_true bR
                  go_wp2_with (first | ((with_reducible refine gate_dst (N := 14) rfl ?_); refine bx (N := 14) (cs := #[.int .i64 0, .int .i64 0]) (t := 24) ?_; intro aN hg w5 hbox hb; have aB := az hbox; have cI := az ((gE hg (qL HB) : w.heap.size ≤ aN)); have e6 := cI; obtain ⟨b3, b4⟩ := nPB a1 hg; obtain ⟨b5, b6⟩ := nPB a2 hg; obtain ⟨b7, b8⟩ := nPB a4 hg; obtain ⟨b9, bA⟩ := nPB a3 hg; obtain ⟨bB, bC⟩ := nPB a5 hg; obtain ⟨bD, bE⟩ := nPB a6 hg; obtain ⟨bF, bG⟩ := nPB a7 hg; obtain ⟨bH, bI⟩ := nPB a8 hg; replace aM := az (Kd.R_below (Kd.R_elderB (by (with_reducible repeat (first | apply Kd.R_alloc | apply Kd.R_drewN | apply Kd.R_drew)); exact aM.out) aN (Nat.le_of_eq hg.symm)) hb); replace a1 := kBB a1 hb; replace a2 := kBB a2 hb; replace a4 := kBB a4 hb; replace a3 := kBB a3 hb; replace a5 := kBB a5 hb; replace a6 := kBB a6 hb; replace a7 := kBB a7 hb; replace a8 := kBB a8 hb; replace HB := bS HB hb; clear hb hbox hg; have r4 := b4.out; have r5 := b3.out; have r6 := b6.out; have r7 := b5.out; have r8 := b8.out; have r9 := b7.out; have rA := bA.out; have rB := b9.out; have rC := bC.out; have rD := bB.out; have rE := bE.out; have rF := bD.out; have rG := bG.out; have rH := bF.out; have rI := bI.out; have rJ := bH.out; obtain ⟨jN, jO⟩ := cz2 aB.out; have jP := blk_frozen aB.out 0; have jQ := blk_frozen aB.out 1; obtain ⟨jR, jS, jT⟩ := cz3 a1.out; obtain ⟨jU, jV, jW⟩ := fz3 a1.out; obtain ⟨jX, jY⟩ := cz2 a2.out; have jZ := blk_frozen a2.out 0; have l9 := blk_frozen a2.out 1) | ((with_reducible refine gate_callee (f := 42) rfl ?_); refine gl (some 88) Try.func42 #[.agg #[.int .i64 aJ, .int .i64 aK, .int .i64 aL], .agg #[.int .i64 aC, .int .i64 aD], .agg #[.int .i64 ((rd_T24 aA a9).f0), .int .i64 ((rd_T24 aA a9).f1)]] ?_; (with_reducible refine (impl_ShapeHas.calls k2 aJ aK aL aC aD ((rd_T24 aA a9).f0) ((rd_T24 aA a9).f1) true _ eR.out).mono ?_); rintro e w6 ⟨rfl, hb⟩; refine ⟨_, rfl, ?_⟩; replace aM := az (Kd.R_below (by (with_reducible repeat (first | apply Kd.R_alloc | apply Kd.R_drewN | apply Kd.R_drew)); exact (Kd.R_mono (Kd.R_far (p := ⟨aN, 1, none⟩) (Kd.R_far (p := ⟨aN, 0, none⟩) (Kd.R_mono aM.out (fun k_ hk => (⟨hk, hk.2⟩ : _ ∧ k_ ≠ aN))) (fun _ hk => hk.2) (.int .i64 ((rd_T24 aA a9).f0))) (fun _ hk => hk.2) (.int .i64 ((rd_T24 aA a9).f1))) (fun _ h_ => h_.1))) hb); replace a1 := kBF a1 hb; replace a2 := kBF a2 hb; replace a4 := kBF a4 hb; replace a3 := kBF a3 hb; replace a5 := kBF a5 hb; replace a6 := kBF a6 hb; replace a7 := kBF a7 hb; replace a8 := kBF a8 hb; replace aB := kBP (o' := .cells #[.int .i64 ((rd_T24 aA a9).f0), .int .i64 ((rd_T24 aA a9).f1)] 24 (0, 0)) aB hb; replace HB := bS HB hb; clear hb; obtain ⟨lA, lB, lC⟩ := cz3 a4.out; obtain ⟨lD, lE, lF⟩ := fz3 a4.out; obtain ⟨lG, lH⟩ := cz2 a3.out; have lI := blk_frozen a3.out 0; have lJ := blk_frozen a3.out 1; obtain ⟨lK, lL⟩ := cz2 aB.out; have lM := blk_frozen aB.out 0; have lN := blk_frozen aB.out 1) | (go_at_call 42; (with_reducible refine (impl_ShapeHas.calls k2 aZ b0 b1 aE aF ((rd_T24 aA a9).f0) ((rd_T24 aA a9).f1) true _ fK.out).mono ?_); rintro e wA ⟨rfl, hb⟩; replace aM := az (Kd.R_below (by (with_reducible repeat (first | apply Kd.R_alloc | apply Kd.R_drewN | apply Kd.R_drew)); exact aM.out) hb); replace a1 := kBB a1 hb; replace a2 := kBB a2 hb; replace a4 := kBB a4 hb; replace a3 := kBB a3 hb; replace a5 := kBB a5 hb; replace a6 := kBB a6 hb; replace a7 := kBB a7 hb; replace a8 := kBB a8 hb; replace aB := kBB aB hb; replace HB := bS HB hb; clear hb))
                  go_roundg k2
                  case measure => have := eL.out; have := eM.out; omega
                  case rel => exact ⟨(wrap64 (a9 + 1)), (by first | rfl | (simp; done) | (simp [*]; done)), H', ⟨by have := eL.out; have := eM.out; omega⟩, ⟨by (with_reducible repeat (first | apply Kd.R_alloc | apply Kd.R_drewN | apply Kd.R_drew)); exact Kd.R_mono aM.out (fun _ hk => ⟨hk.1.1, ⟨hk.1.2.1, ⟨hk.1.2.2.1, hk.1.2.2.2⟩⟩⟩)⟩, ⟨qF a1⟩, ⟨qF a2⟩, ⟨qF a4⟩, ⟨qF a3⟩, ⟨qF a5⟩, ⟨qF a6⟩, ⟨qF a7⟩, ⟨qF a8⟩, ⟨qL HB⟩⟩
                replace eU := Bool.eq_false_iff.mpr eU
                subst eU
                replace H := qU H
                obtain rfl := Option.some.inj H
                have bQ : 0 ≤ (a9 : Int) := of_decide_eq_true (by first | (with_reducible assumption) | assumption)
                have bR : a9 < (aA.length : Int) := of_decide_eq_true (by first | (with_reducible assumption) | assumption)
                obtain ⟨e5, cX, dT, dU⟩ := at_T24 (Kd.R_reads' aM.out).2.2 a9 bQ bR
                cases cX
                replace bQ := eq_true bQ
                replace bR := eq_true bR
                go_wp2_with (first | ((with_reducible refine gate_dst (N := 14) rfl ?_); refine bx (N := 14) (cs := #[.int .i64 0, .int .i64 0]) (t := 24) ?_; intro aN hg wB hbox hb; have aB := az hbox; have cI := az ((gE hg (qL HB) : w.heap.size ≤ aN)); have e6 := cI; obtain ⟨b3, b4⟩ := nPB a1 hg; obtain ⟨b5, b6⟩ := nPB a2 hg; obtain ⟨b7, b8⟩ := nPB a4 hg; obtain ⟨b9, bA⟩ := nPB a3 hg; obtain ⟨bB, bC⟩ := nPB a5 hg; obtain ⟨bD, bE⟩ := nPB a6 hg; obtain ⟨bF, bG⟩ := nPB a7 hg; obtain ⟨bH, bI⟩ := nPB a8 hg; replace aM := az (Kd.R_below (Kd.R_elderB (by (with_reducible repeat (first | apply Kd.R_alloc | apply Kd.R_drewN | apply Kd.R_drew)); exact aM.out) aN (Nat.le_of_eq hg.symm)) hb); replace a1 := kBB a1 hb; replace a2 := kBB a2 hb; replace a4 := kBB a4 hb; replace a3 := kBB a3 hb; replace a5 := kBB a5 hb; replace a6 := kBB a6 hb; replace a7 := kBB a7 hb; replace a8 := kBB a8 hb; replace HB := bS HB hb; clear hb hbox hg; have rK := b4.out; have rL := b3.out; have rM := b6.out; have rN := b5.out; have rO := b8.out; have rP := b7.out; have rQ := bA.out; have rR := b9.out; have rS := bC.out; have rT := bB.out; have rU := bE.out; have rV := bD.out; have rW := bG.out; have rX := bF.out; have rY := bI.out; have rZ := bH.out; obtain ⟨lO, lP⟩ := cz2 aB.out; have lQ := blk_frozen aB.out 0; have lR := blk_frozen aB.out 1; obtain ⟨lS, lT, lU⟩ := cz3 a1.out; obtain ⟨lV, lW, lX⟩ := fz3 a1.out; obtain ⟨lY, lZ⟩ := cz2 a2.out; have m0 := blk_frozen a2.out 0; have m1 := blk_frozen a2.out 1) | ((with_reducible refine gate_callee (f := 42) rfl ?_); refine gl (some 88) Try.func42 #[.agg #[.int .i64 aJ, .int .i64 aK, .int .i64 aL], .agg #[.int .i64 aC, .int .i64 aD], .agg #[.int .i64 ((rd_T24 aA a9).f0), .int .i64 ((rd_T24 aA a9).f1)]] ?_; (with_reducible refine (impl_ShapeHas.calls k2 aJ aK aL aC aD ((rd_T24 aA a9).f0) ((rd_T24 aA a9).f1) true _ eR.out).mono ?_); rintro e wC ⟨rfl, hb⟩; refine ⟨_, rfl, ?_⟩; replace aM := az (Kd.R_below (by (with_reducible repeat (first | apply Kd.R_alloc | apply Kd.R_drewN | apply Kd.R_drew)); exact (Kd.R_mono (Kd.R_far (p := ⟨aN, 1, none⟩) (Kd.R_far (p := ⟨aN, 0, none⟩) (Kd.R_mono aM.out (fun k_ hk => (⟨hk, hk.2⟩ : _ ∧ k_ ≠ aN))) (fun _ hk => hk.2) (.int .i64 ((rd_T24 aA a9).f0))) (fun _ hk => hk.2) (.int .i64 ((rd_T24 aA a9).f1))) (fun _ h_ => h_.1))) hb); replace a1 := kBF a1 hb; replace a2 := kBF a2 hb; replace a4 := kBF a4 hb; replace a3 := kBF a3 hb; replace a5 := kBF a5 hb; replace a6 := kBF a6 hb; replace a7 := kBF a7 hb; replace a8 := kBF a8 hb; replace aB := kBP (o' := .cells #[.int .i64 ((rd_T24 aA a9).f0), .int .i64 ((rd_T24 aA a9).f1)] 24 (0, 0)) aB hb; replace HB := bS HB hb; clear hb; obtain ⟨m2, m3, m4⟩ := cz3 a4.out; obtain ⟨m5, m6, m7⟩ := fz3 a4.out; obtain ⟨m8, m9⟩ := cz2 a3.out; have mA := blk_frozen a3.out 0; have mB := blk_frozen a3.out 1; obtain ⟨mC, mD⟩ := cz2 aB.out; have mE := blk_frozen aB.out 0; have mF := blk_frozen aB.out 1) | (go_at_call 42; (with_reducible refine (impl_ShapeHas.calls k2 aZ b0 b1 aE aF ((rd_T24 aA a9).f0) ((rd_T24 aA a9).f1) true _ fK.out).mono ?_); rintro e wD ⟨rfl, hb⟩; replace aM := az (Kd.R_below (by (with_reducible repeat (first | apply Kd.R_alloc | apply Kd.R_drewN | apply Kd.R_drew)); exact aM.out) hb); replace a1 := kBB a1 hb; replace a2 := kBB a2 hb; replace a4 := kBB a4 hb; replace a3 := kBB a3 hb; replace a5 := kBB a5 hb; replace a6 := kBB a6 hb; replace a7 := kBB a7 hb; replace a8 := kBB a8 hb; replace aB := kBB aB hb; replace HB := bS HB hb; clear hb))
                go_ret
                exact ⟨qE, qL HB⟩
              replace eT := Bool.eq_false_iff.mpr eT
              subst eT
              replace H := qU H
              have H' := az H
              clear H
              have bQ : 0 ≤ (a9 : Int) := of_decide_eq_true (by first | (with_reducible assumption) | assumption)
              have bR : a9 < (aA.length : Int) := of_decide_eq_true (by first | (with_reducible assumption) | assumption)
              obtain ⟨e5, cX, dT, dU⟩ := at_T24 (Kd.R_reads' aM.out).2.2 a9 bQ bR
              cases cX
              replace bQ := eq_true bQ
              replace bR := eq_true bR
              go_wp2_with (first | ((with_reducible refine gate_dst (N := 14) rfl ?_); refine bx (N := 14) (cs := #[.int .i64 0, .int .i64 0]) (t := 24) ?_; intro aN hg wE hbox hb; have aB := az hbox; have cI := az ((gE hg (qL HB) : w.heap.size ≤ aN)); have e6 := cI; obtain ⟨b3, b4⟩ := nPB a1 hg; obtain ⟨b5, b6⟩ := nPB a2 hg; obtain ⟨b7, b8⟩ := nPB a4 hg; obtain ⟨b9, bA⟩ := nPB a3 hg; obtain ⟨bB, bC⟩ := nPB a5 hg; obtain ⟨bD, bE⟩ := nPB a6 hg; obtain ⟨bF, bG⟩ := nPB a7 hg; obtain ⟨bH, bI⟩ := nPB a8 hg; replace aM := az (Kd.R_below (Kd.R_elderB (by (with_reducible repeat (first | apply Kd.R_alloc | apply Kd.R_drewN | apply Kd.R_drew)); exact aM.out) aN (Nat.le_of_eq hg.symm)) hb); replace a1 := kBB a1 hb; replace a2 := kBB a2 hb; replace a4 := kBB a4 hb; replace a3 := kBB a3 hb; replace a5 := kBB a5 hb; replace a6 := kBB a6 hb; replace a7 := kBB a7 hb; replace a8 := kBB a8 hb; replace HB := bS HB hb; clear hb hbox hg; have sA := b4.out; have sB := b3.out; have sC := b6.out; have sD := b5.out; have sE := b8.out; have sF := b7.out; have sG := bA.out; have sH := b9.out; have sI := bC.out; have sJ := bB.out; have sK := bE.out; have sL := bD.out; have sM := bG.out; have sN := bF.out; have sO := bI.out; have sP := bH.out; obtain ⟨mG, mH⟩ := cz2 aB.out; have mI := blk_frozen aB.out 0; have mJ := blk_frozen aB.out 1; obtain ⟨mK, mL, mM⟩ := cz3 a1.out; obtain ⟨mN, mO, mP⟩ := fz3 a1.out; obtain ⟨mQ, mR⟩ := cz2 a2.out; have mS := blk_frozen a2.out 0; have mT := blk_frozen a2.out 1) | ((with_reducible refine gate_callee (f := 42) rfl ?_); refine gl (some 88) Try.func42 #[.agg #[.int .i64 aJ, .int .i64 aK, .int .i64 aL], .agg #[.int .i64 aC, .int .i64 aD], .agg #[.int .i64 ((rd_T24 aA a9).f0), .int .i64 ((rd_T24 aA a9).f1)]] ?_; (with_reducible refine (impl_ShapeHas.calls k2 aJ aK aL aC aD ((rd_T24 aA a9).f0) ((rd_T24 aA a9).f1) true _ eR.out).mono ?_); rintro e wF ⟨rfl, hb⟩; refine ⟨_, rfl, ?_⟩; replace aM := az (Kd.R_below (by (with_reducible repeat (first | apply Kd.R_alloc | apply Kd.R_drewN | apply Kd.R_drew)); exact (Kd.R_mono (Kd.R_far (p := ⟨aN, 1, none⟩) (Kd.R_far (p := ⟨aN, 0, none⟩) (Kd.R_mono aM.out (fun k_ hk => (⟨hk, hk.2⟩ : _ ∧ k_ ≠ aN))) (fun _ hk => hk.2) (.int .i64 ((rd_T24 aA a9).f0))) (fun _ hk => hk.2) (.int .i64 ((rd_T24 aA a9).f1))) (fun _ h_ => h_.1))) hb); replace a1 := kBF a1 hb; replace a2 := kBF a2 hb; replace a4 := kBF a4 hb; replace a3 := kBF a3 hb; replace a5 := kBF a5 hb; replace a6 := kBF a6 hb; replace a7 := kBF a7 hb; replace a8 := kBF a8 hb; replace aB := kBP (o' := .cells #[.int .i64 ((rd_T24 aA a9).f0), .int .i64 ((rd_T24 aA a9).f1)] 24 (0, 0)) aB hb; replace HB := bS HB hb; clear hb; obtain ⟨mU, mV, mW⟩ := cz3 a4.out; obtain ⟨mX, mY, mZ⟩ := fz3 a4.out; obtain ⟨nA, nB⟩ := cz2 a3.out; have nC := blk_frozen a3.out 0; have nD := blk_frozen a3.out 1; obtain ⟨nE, nF⟩ := cz2 aB.out; have nG := blk_frozen aB.out 0; have nH := blk_frozen aB.out 1) | (go_at_call 42; (with_reducible refine (impl_ShapeHas.calls k2 aZ b0 b1 aE aF ((rd_T24 aA a9).f0) ((rd_T24 aA a9).f1) false _ fK.out).mono ?_); rintro e wG ⟨rfl, hb⟩; replace aM := az (Kd.R_below (by (with_reducible repeat (first | apply Kd.R_alloc | apply Kd.R_drewN | apply Kd.R_drew)); exact aM.out) hb); replace a1 := kBB a1 hb; replace a2 := kBB a2 hb; replace a4 := kBB a4 hb; replace a3 := kBB a3 hb; replace a5 := kBB a5 hb; replace a6 := kBB a6 hb; replace a7 := kBB a7 hb; replace a8 := kBB a8 hb; replace aB := kBB aB hb; replace HB := bS HB hb; clear hb))
              go_roundg k2
              case measure => have := eL.out; have := eM.out; omega
              case rel => exact ⟨(wrap64 (a9 + 1)), (by first | rfl | (simp; done) | (simp [*]; done)), H', ⟨by have := eL.out; have := eM.out; omega⟩, ⟨by (with_reducible repeat (first | apply Kd.R_alloc | apply Kd.R_drewN | apply Kd.R_drew)); exact Kd.R_mono aM.out (fun _ hk => ⟨hk.1.1, ⟨hk.1.2.1, ⟨hk.1.2.2.1, hk.1.2.2.2⟩⟩⟩)⟩, ⟨qF a1⟩, ⟨qF a2⟩, ⟨qF a4⟩, ⟨qF a3⟩, ⟨qF a5⟩, ⟨qF a6⟩, ⟨qF a7⟩, ⟨qF a8⟩, ⟨qL HB⟩⟩
            replace eS := Bool.eq_false_iff.mpr eS
            subst eS
            replace H := qU H
            have H' := az H
            clear H
            have bQ : 0 ≤ (a9 : Int) := of_decide_eq_true (by first | (with_reducible assumption) | assumption)
            have bR : a9 < (aA.length : Int) := of_decide_eq_true (by first | (with_reducible assumption) | assumption)
            obtain ⟨e5, cX, dT, dU⟩ := at_T24 (Kd.R_reads' aM.out).2.2 a9 bQ bR
            cases cX
            replace bQ := eq_true bQ
            replace bR := eq_true bR
            go_wp2_with (first | ((with_reducible refine gate_dst (N := 14) rfl ?_); refine bx (N := 14) (cs := #[.int .i64 0, .int .i64 0]) (t := 24) ?_; intro aN hg wH hbox hb; have aB := az hbox; have cI := az ((gE hg (qL HB) : w.heap.size ≤ aN)); have e6 := cI; obtain ⟨b3, b4⟩ := nPB a1 hg; obtain ⟨b5, b6⟩ := nPB a2 hg; obtain ⟨b7, b8⟩ := nPB a4 hg; obtain ⟨b9, bA⟩ := nPB a3 hg; obtain ⟨bB, bC⟩ := nPB a5 hg; obtain ⟨bD, bE⟩ := nPB a6 hg; obtain ⟨bF, bG⟩ := nPB a7 hg; obtain ⟨bH, bI⟩ := nPB a8 hg; replace aM := az (Kd.R_below (Kd.R_elderB (by (with_reducible repeat (first | apply Kd.R_alloc | apply Kd.R_drewN | apply Kd.R_drew)); exact aM.out) aN (Nat.le_of_eq hg.symm)) hb); replace a1 := kBB a1 hb; replace a2 := kBB a2 hb; replace a4 := kBB a4 hb; replace a3 := kBB a3 hb; replace a5 := kBB a5 hb; replace a6 := kBB a6 hb; replace a7 := kBB a7 hb; replace a8 := kBB a8 hb; replace HB := bS HB hb; clear hb hbox hg; have sQ := b4.out; have sR := b3.out; have sS := b6.out; have sT := b5.out; have sU := b8.out; have sV := b7.out; have sW := bA.out; have sX := b9.out; have sY := bC.out; have sZ := bB.out; have t0 := bE.out; have t1 := bD.out; have t2 := bG.out; have t3 := bF.out; have t4 := bI.out; have t5 := bH.out; obtain ⟨nI, nJ⟩ := cz2 aB.out; have nK := blk_frozen aB.out 0; have nL := blk_frozen aB.out 1; obtain ⟨nM, nN, nO⟩ := cz3 a1.out; obtain ⟨nP, nQ, nR⟩ := fz3 a1.out; obtain ⟨nS, nT⟩ := cz2 a2.out; have nU := blk_frozen a2.out 0; have nV := blk_frozen a2.out 1) | ((with_reducible refine gate_callee (f := 42) rfl ?_); refine gl (some 88) Try.func42 #[.agg #[.int .i64 aJ, .int .i64 aK, .int .i64 aL], .agg #[.int .i64 aC, .int .i64 aD], .agg #[.int .i64 ((rd_T24 aA a9).f0), .int .i64 ((rd_T24 aA a9).f1)]] ?_; (with_reducible refine (impl_ShapeHas.calls k2 aJ aK aL aC aD ((rd_T24 aA a9).f0) ((rd_T24 aA a9).f1) false _ eR.out).mono ?_); rintro e wI ⟨rfl, hb⟩; refine ⟨_, rfl, ?_⟩; replace aM := az (Kd.R_below (by (with_reducible repeat (first | apply Kd.R_alloc | apply Kd.R_drewN | apply Kd.R_drew)); exact (Kd.R_mono (Kd.R_far (p := ⟨aN, 1, none⟩) (Kd.R_far (p := ⟨aN, 0, none⟩) (Kd.R_mono aM.out (fun k_ hk => (⟨hk, hk.2⟩ : _ ∧ k_ ≠ aN))) (fun _ hk => hk.2) (.int .i64 ((rd_T24 aA a9).f0))) (fun _ hk => hk.2) (.int .i64 ((rd_T24 aA a9).f1))) (fun _ h_ => h_.1))) hb); replace a1 := kBF a1 hb; replace a2 := kBF a2 hb; replace a4 := kBF a4 hb; replace a3 := kBF a3 hb; replace a5 := kBF a5 hb; replace a6 := kBF a6 hb; replace a7 := kBF a7 hb; replace a8 := kBF a8 hb; replace aB := kBP (o' := .cells #[.int .i64 ((rd_T24 aA a9).f0), .int .i64 ((rd_T24 aA a9).f1)] 24 (0, 0)) aB hb; replace HB := bS HB hb; clear hb))
            go_roundg k2
            case measure => have := eL.out; have := eM.out; omega
            case rel => exact ⟨(wrap64 (a9 + 1)), (by first | rfl | (simp; done) | (simp [*]; done)), H', ⟨by have := eL.out; have := eM.out; omega⟩, ⟨by (with_reducible repeat (first | apply Kd.R_alloc | apply Kd.R_drewN | apply Kd.R_drew)); exact Kd.R_mono aM.out (fun _ hk => ⟨hk.1.1, ⟨hk.1.2.1, ⟨hk.1.2.2.1, hk.1.2.2.2⟩⟩⟩)⟩, ⟨qF a1⟩, ⟨qF a2⟩, ⟨qF a4⟩, ⟨qF a3⟩, ⟨qF a5⟩, ⟨qF a6⟩, ⟨qF a7⟩, ⟨qF a8⟩, ⟨qL HB⟩⟩
          rw [if_neg eQ] at H
          exact absurd H (by simp)
        rw [if_neg eP] at H
        exact absurd H (by simp)
      rw [if_neg dZ] at H
      have jC : decide (a9 < (aA.length : Int)) = false := decide_eq_false dZ
      clear dZ
      obtain rfl := Option.some.inj H
      go_wp2
      go_ret
      exact ⟨qE, qL HB⟩

/-- THE ONE PURE STATEMENT of laws_FnTouchPoint: yours. -/
def laws_FnTouchPoint.Pure : Prop := ∀ (l0 : List Int), l0.length ≤ maxLen → l0.length * 1 ≤ 140737488351232 → (∀ x ∈ l0, (Lit.int .u8 x).wf = true) → ∃ k, laws_FnTouchPoint.f k l0 = some true
theorem laws_FnTouchPoint.walk (P : laws_FnTouchPoint.Pure) (a0 : Option Addr) (len0 cap0 : Nat) (z0 : List Int) (w : World) (w0 : (a0 = none ∧ len0 = 0 ∧ cap0 = 0 ∧ z0 = []) ∨ ∃ x, a0 = some x ∧ len0 ≤ cap0 ∧ cap0 ≤ maxLen ∧ z0.length = cap0 ∧ (∀ i, i < z0.length → w.cell? (x.add i) = some (.int .u8 (z0.getD i 0))) ∧ ∀ n ∈ z0, (Lit.int .u8 n).wf = true) (y0 : len0 * 1 ≤ 140737488351232) :
    Calls Try.prog 11 #[.slice a0 len0 cap0] w fun e w' => e = .returned (.bool true) ∧ Below w.heap.size w w' := by
  obtain ⟨l0, rfl, hr0, hm0, t6, hc0⟩ := ReadsInt.ofRowC w0
  obtain ⟨k, h⟩ := P l0 hm0 y0 t6
  refine (laws_FnTouchPoint.calls k _ _ l0 true w (Kd.C_of_reads (d := (0 : Int)) (h1 := fun _ => rfl) hr0) hc0 h).mono ?_
  rintro e w' ⟨rfl, hd⟩
  exact ⟨rfl, hd⟩
end Go.Proofs.Ytihajbjkjclmoaa.PBig
