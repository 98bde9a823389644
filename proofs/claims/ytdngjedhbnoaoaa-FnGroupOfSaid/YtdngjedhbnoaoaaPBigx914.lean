/- What these functions compute, each walked once: impl_BodyOk, impl_BodiesOk, impl_Vec_plus, spec_ShapeOk, spec_l3Place, spec_BodyOk, spec_BodiesOk; for all arguments and worlds, under the conditions that each theorem names. -/
import Derived.Test.YtdngjedhbnoaoaaSq
import Derived.Test.YtdngjedhbnoaoaaPBigx900
import Derived.Test.YtdngjedhbnoaoaaPBigx904
import Derived.Test.YtdngjedhbnoaoaaPBigx907
import Derived.Test.YtdngjedhbnoaoaaPBigx912
namespace Go.Proofs.Ytdngjedhbnoaoaa.PBig
open Go.RowKit Go.Proofs.YtdngjedhbnoaoaaW.PrintWords Go.Proofs.YtdngjedhbnoaoaaW.PrintLast Go.Proofs.YtdngjedhbnoaoaaW.PrintMore
attribute [local go_sem] max2_int min2_int max_two min_two max_three min_three max_four min_four
set_option linter.unusedVariables false
set_option linter.unusedSimpArgs false
set_option maxHeartbeats 8000000
set_option maxRecDepth 100000

attribute [local go_sem high] eqA33
/-! ### impl_BodyOk: function 58 -/
mutual
def impl_BodyOk.j0 : Nat → Bool → Int → Int → Int → Int → Int → Int → Int → Int → Int → Int → Int → Int → Option (Bool)
  | 0, _, _, _, _, _, _, _, _, _, _, _, _, _ => none
  | k + 1, g0, aJ, aK, aL, aM, aN, aO, a4, a5, aP, a9, aA, a7 => if g0 = true then (some false) else ((impl_in.f a9 0 256).bind fun bQ => (if bQ = true then ((impl_in.f aA 0 256).bind fun bR => (if bR = true then ((impl_in.f a7 0 8).bind fun bT => (impl_BodyOk.j1 k (!bT) aJ aK aL aM aN aO a4 a5 aP a9 aA a7)) else (impl_BodyOk.j1 k true aJ aK aL aM aN aO a4 a5 aP a9 aA a7))) else (impl_BodyOk.j1 k true aJ aK aL aM aN aO a4 a5 aP a9 aA a7)))
def impl_BodyOk.j1 : Nat → Bool → Int → Int → Int → Int → Int → Int → Int → Int → Int → Int → Int → Int → Option (Bool)
  | 0, _, _, _, _, _, _, _, _, _, _, _, _, _ => none
  | k + 1, g1, aJ, aK, aL, aM, aN, aO, a4, a5, aP, a9, aA, a7 => if g1 = true then (some false) else ((impl_Body_fixed.f aJ aK aL aM aN aO a4 a5 aP a9 aA a7).bind fun bU => (if bU = true then (if (a4 == 0 && (a5 == 0)) = true then (if a7 = 0 then ((impl_Body_sleeps.f aJ aK aL aM aN aO a4 a5 aP a9 aA a7).bind fun bV => (if bV = true then (some (a4 == 0 && (a5 == 0))) else (some true))) else (some false)) else (some false)) else ((impl_Body_sleeps.f aJ aK aL aM aN aO a4 a5 aP a9 aA a7).bind fun bW => (if bW = true then (some (a4 == 0 && (a5 == 0))) else (some true)))))
end
def impl_BodyOk.f (k : Nat) (aB aC aD aE aF aG a2 a3 aH aQ a8 a1 : Int) : Option (Bool) := (impl_in.f aB 0 999999999).bind fun bX => (if bX = true then ((impl_ShapeOk.f aC aD aE).bind fun bY => (if bY = true then ((impl_isPlace.f aF aG).bind fun bZ => (if bZ = true then ((impl_isDrive.f a2 a3).bind fun c0 => (if c0 = true then ((impl_in.f aH 0 1000).bind fun c1 => (impl_BodyOk.j0 k (!c1) aB aC aD aE aF aG a2 a3 aH aQ a8 a1)) else (impl_BodyOk.j0 k true aB aC aD aE aF aG a2 a3 aH aQ a8 a1))) else (impl_BodyOk.j0 k true aB aC aD aE aF aG a2 a3 aH aQ a8 a1))) else (impl_BodyOk.j0 k true aB aC aD aE aF aG a2 a3 aH aQ a8 a1))) else (impl_BodyOk.j0 k true aB aC aD aE aF aG a2 a3 aH aQ a8 a1))
theorem impl_BodyOk.calls {k : Nat} {aB aC aD aE aF aG a2 a3 aH aQ a8 a1 : Int} {r : Bool} {w : World} (h : impl_BodyOk.f k aB aC aD aE aF aG a2 a3 aH aQ a8 a1 = some r) :
  Calls Try.prog 58 #[.agg #[.int .i64 aB, .int .i64 aC, .int .i64 aD, .int .i64 aE, .int .i64 aF, .int .i64 aG, .int .i64 a2, .int .i64 a3, .int .i64 aH, .int .i64 aQ, .int .i64 a8, .int .i64 a1]] w fun e w' => e = .returned (.bool r) ∧ Below w.heap.size w w' := by
 have hu41 := Try.underlying41; have hu39 := Try.underlying39; have hu33 := Try.underlying33; have HB := br w
 unfold impl_BodyOk.f at h
 have H := h; clear h; have bG := az H; clear H; go_enter Try.func58, Try.ntmps58
 go_upto_region 1 with (first | ((with_reducible refine gd 1 rfl ?_); refine bx 1 #[.int .i64 aB, .int .i64 aC, .int .i64 aD, .int .i64 aE, .int .i64 aF, .int .i64 aG, .int .i64 a2, .int .i64 a3, .int .i64 aH, .int .i64 aQ, .int .i64 a8, .int .i64 a1] 41 ?_; intro b4 hg w3 a0 hb; have g5 := se hg HB; replace HB := bS HB hb; clear hb hg))
 (try simp only [Act.put, List.setIfInBounds_toArray, List.set_cons_zero, List.set_cons_succ])
 go_cut [31] (fun g2 wc => ∃ (kq : Nat) (aY : Bool), g2 = .bool aY ∧ Aside0 (impl_BodyOk.j0 kq aY aB aC aD aE aF aG a2 a3 aH aQ a8 a1 = some r) ∧ Aside0 (kq ≤ k) ∧ Aside0 (wc.heap[b4]? = some (.cells #[.int .i64 aB, .int .i64 aC, .int .i64 aD, .int .i64 aE, .int .i64 aF, .int .i64 aG, .int .i64 a2, .int .i64 a3, .int .i64 aH, .int .i64 aQ, .int .i64 a8, .int .i64 a1] 41 (0, 0))) ∧ Aside0 (Below w.heap.size w wc))
 case first =>
  have H := bG.out; clear bG; replace H := qH H; obtain ⟨bI, b7, H⟩ := H
  by_cases aZ : bI = true; subst aZ; replace H := qT H; replace H := qH H; obtain ⟨bJ, b8, H⟩ := H
  by_cases b0 : bJ = true; subst b0; replace H := qT H; replace H := qH H; obtain ⟨bK, b9, H⟩ := H
  by_cases b1 : bK = true; subst b1; replace H := qT H; replace H := qH H; obtain ⟨bL, bA, H⟩ := H
  by_cases b2 : bL = true; subst b2; replace H := qT H; replace H := qH H; obtain ⟨bM, bN, H⟩ := H
  have H' := az H; clear H; refine ?L1; rotate_left; replace b2 := Bool.eq_false_iff.mpr b2; subst b2; replace H := qU H; have H' := az H; clear H; refine ?L2
  rotate_right
  rotate_left 2
  replace b1 := Bool.eq_false_iff.mpr b1; subst b1; replace H := qU H; have H' := az H; clear H; refine ?L3
  rotate_right 2
  rotate_left 3
  replace b0 := Bool.eq_false_iff.mpr b0; subst b0; replace H := qU H; have H' := az H; clear H; refine ?L4
  rotate_right 3
  rotate_left 4
  replace aZ := Bool.eq_false_iff.mpr aZ; subst aZ; replace H := qU H; have H' := az H; clear H; refine ?L5
  rotate_right 4
  case' L1 | L2 | L3 | L4 | L5 =>
   obtain ⟨cM, cN, cO, cP, cQ, cR, cS, cT, cU, cV, c2, c3⟩ := cz12 a0.out; obtain ⟨cW, cX, cY, cZ, dA, dB, dC, dD, dE, dF, c4, c5⟩ := fz12 a0.out
  case' L1 | L2 | L3 | L4 =>
   go_wp2_with (first | ((with_reducible refine gc 82 rfl ?_); refine gr 6 Try.func82 (impl_in.calls (r := true) b7.out) ?_; rintro w' ⟨nd, rfl⟩) | (go_at_call 65; (with_reducible refine (impl_ShapeOk.calls (r := true) b8.out).mono ?_); rintro e g8 ⟨rfl, hb⟩; replace a0 := kBB a0 hb; replace HB := bS HB hb; clear hb; obtain ⟨dG, dH, dI, dJ, dK, dL, dM, dN, dO, dP, c6, c7⟩ := cz12 a0.out; obtain ⟨dQ, dR, dS, dT, dU, dV, dW, dX, dY, dZ, c8, c9⟩ := fz12 a0.out) | (go_at_call 66; (with_reducible refine (impl_isPlace.calls (r := true) b9.out).mono ?_); rintro e g9 ⟨rfl, hb⟩; replace a0 := kBB a0 hb; replace HB := bS HB hb; clear hb; obtain ⟨e0, e1, e2, e3, e4, e5, e6, e7, e8, e9, cA, cB⟩ := cz12 a0.out; obtain ⟨eA, eB, eC, eD, eE, eF, eG, eH, eI, eJ, cC, cD⟩ := fz12 a0.out) | (go_at_call 83; (with_reducible refine (impl_isDrive.calls (r := true) bA.out).mono ?_); rintro e gA ⟨rfl, hb⟩; replace a0 := kBB a0 hb; replace HB := bS HB hb; clear hb; obtain ⟨eK, eL, eM, eN, eO, eP, eQ, eR, eS, eT, cE, cF⟩ := cz12 a0.out; obtain ⟨eU, eV, eW, eX, eY, eZ, fA, fB, fC, fD, cG, cH⟩ := fz12 a0.out) | (go_at_call 82; (with_reducible refine (impl_in.calls bN.out).mono ?_); rintro e w' ⟨rfl, ⟨nd, rfl⟩⟩) | (go_at_call 83; (with_reducible refine (impl_isDrive.calls (r := false) bA.out).mono ?_); rintro e gB ⟨rfl, hb⟩; replace a0 := kBB a0 hb; replace HB := bS HB hb; clear hb) | (go_at_call 66; (with_reducible refine (impl_isPlace.calls (r := false) b9.out).mono ?_); rintro e gC ⟨rfl, hb⟩; replace a0 := kBB a0 hb; replace HB := bS HB hb; clear hb) | (go_at_call 65; (with_reducible refine (impl_ShapeOk.calls (r := false) b8.out).mono ?_); rintro e gD ⟨rfl, hb⟩; replace a0 := kBB a0 hb; replace HB := bS HB hb; clear hb))
   go_meet
  case L1 =>
   exact ⟨_, (!bM), qG, H', ⟨qO⟩, ⟨qF a0⟩, ⟨qL HB⟩⟩
  case' L2 | L3 | L4 =>
   exact ⟨_, (true), qG, H', ⟨qO⟩, ⟨qF a0⟩, ⟨qL HB⟩⟩
  case L5 =>
   go_wp2_with (first | ((with_reducible refine gc 82 rfl ?_); refine gr 6 Try.func82 (impl_in.calls (r := false) b7.out) ?_; rintro w' ⟨nd, rfl⟩))
   go_meet
   exact ⟨_, (true), qG, H', ⟨qO⟩, ⟨qF a0⟩, ⟨qL HB⟩⟩
 case rest =>
  clear bG; obtain ⟨kq, aY, rfl, HA, bH, a0, HB⟩ := hcut
  obtain ⟨g3, rfl⟩ := qz kq HA
  have H := HA.out; clear HA; simp only [impl_BodyOk.j0] at H; by_cases aV : aY = true; subst aV; replace H := qT H; obtain rfl := Option.some.inj H; refine ?L6; rotate_left; replace aV := Bool.eq_false_iff.mpr aV; subst aV; replace H := qU H; refine ?L17
  rotate_right
  case L6 =>
   go_wp2
   go_ret
   exact ⟨qE, qL HB⟩
  case L17 =>
   have b6 := az H; clear H
   go_upto_region 3 with (fail)
   go_cut [47] (fun g4 wc => ∃ (kq : Nat) (aW : Bool), g4 = .bool aW ∧ Aside0 (impl_BodyOk.j1 kq aW aB aC aD aE aF aG a2 a3 aH aQ a8 a1 = some r) ∧ Aside0 (kq ≤ g3) ∧ Aside0 (wc.heap[b4]? = some (.cells #[.int .i64 aB, .int .i64 aC, .int .i64 aD, .int .i64 aE, .int .i64 aF, .int .i64 aG, .int .i64 a2, .int .i64 a3, .int .i64 aH, .int .i64 aQ, .int .i64 a8, .int .i64 a1] 41 (0, 0))) ∧ Aside0 (Below w.heap.size w wc))
   case first =>
    have H := b6.out; clear b6; replace H := qH H; obtain ⟨b5, aS, H⟩ := H
    by_cases aR : b5 = true; subst aR; replace H := qT H; replace H := qH H; obtain ⟨aX, aT, H⟩ := H
    by_cases a6 : aX = true; subst a6; replace H := qT H; replace H := qH H; obtain ⟨bO, bP, H⟩ := H
    have H' := az H; clear H; refine ?L7; rotate_left; replace a6 := Bool.eq_false_iff.mpr a6; subst a6; replace H := qU H; have H' := az H; clear H; refine ?L8
    rotate_right
    rotate_left 2
    replace aR := Bool.eq_false_iff.mpr aR; subst aR; replace H := qU H; have H' := az H; clear H; refine ?L9
    rotate_right 2
    case' L7 | L8 | L9 =>
     obtain ⟨fE, fG, fH, fI, fJ, fK, fL, fM, fN, fO, cI, cJ⟩ := cz12 a0.out; obtain ⟨fP, fQ, fR, fS, fT, fU, fV, fW, fX, fY, cK, cL⟩ := fz12 a0.out
    case' L7 | L8 =>
     go_wp2_with (first | ((with_reducible refine gc 82 rfl ?_); refine gr 34 Try.func82 (impl_in.calls (r := true) aS.out) ?_; rintro w' ⟨nd, rfl⟩) | (go_at_call 82; (with_reducible refine (impl_in.calls (r := true) aT.out).mono ?_); rintro e w' ⟨rfl, ⟨nd, rfl⟩⟩) | (go_at_call 82; (with_reducible refine (impl_in.calls bP.out).mono ?_); rintro e w' ⟨rfl, ⟨nd, rfl⟩⟩) | (go_at_call 82; (with_reducible refine (impl_in.calls (r := false) aT.out).mono ?_); rintro e w' ⟨rfl, ⟨nd, rfl⟩⟩))
     go_meet
    case L7 =>
     exact ⟨_, (!bO), qG, H', ⟨ma bH⟩, ⟨qF a0⟩, ⟨qL HB⟩⟩
    case L8 =>
     exact ⟨_, (true), qG, H', ⟨ma bH⟩, ⟨qF a0⟩, ⟨qL HB⟩⟩
    case L9 =>
     go_wp2_with (first | ((with_reducible refine gc 82 rfl ?_); refine gr 34 Try.func82 (impl_in.calls (r := false) aS.out) ?_; rintro w' ⟨nd, rfl⟩))
     go_meet
     exact ⟨_, (true), qG, H', ⟨ma bH⟩, ⟨qF a0⟩, ⟨qL HB⟩⟩
   case rest =>
    clear b6; obtain ⟨kq, aW, rfl, HA, g6, a0, HB⟩ := hcut
    obtain ⟨g7, rfl⟩ := qz kq HA
    have H := HA.out; clear HA; simp only [impl_BodyOk.j1] at H; by_cases b3 : aW = true; subst b3; replace H := qT H; obtain rfl := Option.some.inj H; refine ?L10; rotate_left; replace b3 := Bool.eq_false_iff.mpr b3; subst b3; replace H := qU H; replace H := qH H; obtain ⟨b5, aS, H⟩ := H
    by_cases aR : b5 = true; subst aR; replace H := qT H; by_cases aI : (a2 == 0 && (a3 == 0)) = true; rw [if_pos aI] at H; have bB : (a2 == 0 && (a3 == 0)) = true := aI; (try (have bC : decide (a2 = 0 && (a3 == 0)) = true := by simpa using aI)); (try (have bD : (a2 == 0 && (a3 == 0)) = true := by simpa using aI)); clear aI; by_cases aU : a1 = 0; rw [if_pos aU] at H; have bE := ba aU; have bF := bb aU; clear aU; replace H := qH H; obtain ⟨aX, aT, H⟩ := H
    by_cases a6 : aX = true; subst a6; replace H := qT H; obtain rfl := Option.some.inj H; refine ?L11; rotate_left; replace a6 := Bool.eq_false_iff.mpr a6; subst a6; replace H := qU H; obtain rfl := Option.some.inj H; refine ?L12
    rotate_right
    rotate_left 2
    rw [if_neg aU] at H; have bE := be aU; have bF := bf aU; obtain rfl := Option.some.inj H; refine ?L13
    rotate_right 2
    rotate_left 3
    rw [if_neg aI] at H
    have bB : (a2 == 0 && (a3 == 0)) = false := by simpa using aI
    refine ?L14
    rotate_right 3
    rotate_left 4
    replace aR := Bool.eq_false_iff.mpr aR; subst aR; replace H := qU H; replace H := qH H; obtain ⟨aX, aT, H⟩ := H
    by_cases a6 : aX = true; subst a6; replace H := qT H; obtain rfl := Option.some.inj H; refine ?L15; rotate_left; replace a6 := Bool.eq_false_iff.mpr a6; subst a6; replace H := qU H; obtain rfl := Option.some.inj H; refine ?L16
    rotate_right
    rotate_right 4
    rotate_right
    case L10 =>
     go_wp2
     go_ret
     exact ⟨qE, qL HB⟩
    case' L11 | L12 | L13 | L15 | L16 =>
     have hcz50_c := cz12 a0.out; have hfz50_c := fz12 a0.out
    case' L11 | L12 | L13 | L15 =>
     go_wp2_with (first | ((with_reducible refine gc 51 rfl ?_); refine gr 53 Try.func51 (impl_Body_fixed.calls (r := true) aS.out) ?_; rintro gF hb; replace a0 := kBB a0 hb; replace HB := bS HB hb; clear hb; have hcz52_c := cz12 a0.out; have hfz52_c := fz12 a0.out) | (go_at_call 56; (with_reducible refine (impl_Body_sleeps.calls (r := true) aT.out).mono ?_); rintro e gG ⟨rfl, hb⟩; replace a0 := kBB a0 hb; replace HB := bS HB hb; clear hb) | (go_at_call 56; (with_reducible refine (impl_Body_sleeps.calls (r := false) aT.out).mono ?_); rintro e gH ⟨rfl, hb⟩; replace a0 := kBB a0 hb; replace HB := bS HB hb; clear hb) | ((with_reducible refine gc 51 rfl ?_); refine gr 53 Try.func51 (impl_Body_fixed.calls (r := false) aS.out) ?_; rintro gI hb; replace a0 := kBB a0 hb; replace HB := bS HB hb; clear hb; have hcz67_c := cz12 a0.out; have hfz67_c := fz12 a0.out))
     go_ret
     exact ⟨qE, qL HB⟩
    case L16 =>
     go_wp2_with (first | ((with_reducible refine gc 51 rfl ?_); refine gr 53 Try.func51 (impl_Body_fixed.calls (r := false) aS.out) ?_; rintro gJ hb; replace a0 := kBB a0 hb; replace HB := bS HB hb; clear hb; have hcz71_c := cz12 a0.out; have hfz71_c := fz12 a0.out) | (go_at_call 56; (with_reducible refine (impl_Body_sleeps.calls (r := false) aT.out).mono ?_); rintro e gL ⟨rfl, hb⟩; replace a0 := kBB a0 hb; replace HB := bS HB hb; clear hb))
     go_ret
     exact ⟨qE, qL HB⟩

    case L14 =>
     (try (have bC : decide (a2 = 0 && (a3 == 0)) = false := by simpa using aI)); (try (have bD : (a2 == 0 && (a3 == 0)) = false := by simpa using aI)); (try (have fZ : ¬ (a2 = 0 && (a3 == 0)) := by simpa using aI)); clear aI; obtain rfl := Option.some.inj H; have hcz61_c := cz12 a0.out; have hfz61_c := fz12 a0.out; go_wp2_with (first | ((with_reducible refine gc 51 rfl ?_); refine gr 53 Try.func51 (impl_Body_fixed.calls (r := true) aS.out) ?_; rintro gM hb; replace a0 := kBB a0 hb; replace HB := bS HB hb; clear hb))
     go_ret
     exact ⟨qE, qL HB⟩

/-! ### impl_BodiesOk: function 27 -/
def impl_BodiesOk.l0 : Nat → List S41 → List S41 → Int → Int → Option (Bool)
  | 0, _, _, _, _ => none
  | k + 1, x0, x5, x6, x7 => if x7 < x6 then (if 0 ≤ x7 then (if x7 < (x5.length : Int) then ((impl_BodyOk.f k ((rd_T41 x5 x7).f0) ((rd_T41 x5 x7).f1.f0) ((rd_T41 x5 x7).f1.f1) ((rd_T41 x5 x7).f1.f2) ((rd_T41 x5 x7).f2.f0) ((rd_T41 x5 x7).f2.f1) ((rd_T41 x5 x7).f3.f0) ((rd_T41 x5 x7).f3.f1) ((rd_T41 x5 x7).f4) ((rd_T41 x5 x7).f5) ((rd_T41 x5 x7).f6) ((rd_T41 x5 x7).f7)).bind fun bN => (if bN = true then (if x7 > 0 then (if 0 ≤ (wrap64 (x7 - 1)) then (if (wrap64 (x7 - 1)) < (x0.length : Int) then (if ((rd_T41 x5 x7).f0) ≤ ((rd_T41 x0 (wrap64 (x7 - 1))).f0) then (some false) else (impl_BodiesOk.l0 k x0 x5 x6 (wrap64 (x7 + 1)))) else none) else none) else (impl_BodiesOk.l0 k x0 x5 x6 (wrap64 (x7 + 1)))) else (some false))) else none) else none) else (some (decide ((x0.length : Int) ≤ 12)))
def impl_BodiesOk.f (k : Nat) (l0 : List S41) : Option (Bool) := impl_BodiesOk.l0 k l0 l0 (l0.length : Int) 0
def impl_BodiesOk.T4 : TT := (true, [([], []), ([0], [0]), ([1], [1]), ([2, 1], [2]), ([3], [3]), ([4, 3], [3, 4]), ([5, 3, 3], [3, 5]), ([6], [6]), ([7, 6], [6, 7]), ([6], [6]), ([6], [6]), ([10, 6], [6, 10]), ([9, 11, 6], [6, 9, 11]), ([12, 6], [6, 12]), ([13, 6], [6, 13]), ([8, 14, 6], [6, 8, 14]), ([6, 15, 3], [3, 6, 15]), ([3, 16], [3, 16])])
def impl_BodiesOk.B4 : List Nat := [0, 1, 3, 7, 15, 31, 63, 127, 255, 127, 127, 1151, 3711, 7807, 15999, 32767, 65535, 131071]
theorem impl_BodiesOk.tab4 : rtab .any (opsOf Try.f27 4) = impl_BodiesOk.T4 := by kernel_rfl
theorem impl_BodiesOk.bits4 : waitsOk impl_BodiesOk.T4.2 impl_BodiesOk.B4 = true := by kernel_rfl
theorem impl_BodiesOk.calls {k : Nat} {A0 : Option Addr} {c0 : Nat} {l0 : List S41} {r : Bool} {w : World} (hr0 : Kd.C k41 w A0 l0.length l0) (hc0 : l0.length ≤ c0) (h : impl_BodiesOk.f k l0 = some r) :
  Calls Try.prog 27 #[.slice A0 l0.length c0] w fun e w' => e = .returned (.bool r) ∧ Below w.heap.size w w' := by
 have hu41 := Try.underlying41; have HR0 := az hr0; have bW := az hc0; clear hr0 hc0; have HB := br w; have H : (impl_BodiesOk.l0 k l0 l0 (l0.length : Int) 0) = some r := h; clear h; have H' := az H; clear H; go_enter Try.func27, Try.ntmps27; go_wp2
 go_loopg [7] k (fun kq v7 w' => ∃ (a0 : Int), v7 = .int .i64 a0 ∧ Aside0 (impl_BodiesOk.l0 kq l0 l0 (l0.length : Int) a0 = some r) ∧ Aside0 (kq ≤ k) ∧ Aside0 (Below w.heap.size w w'))
 case atStart => exact ⟨(0), qG, H', ⟨Nat.le_refl _⟩, ⟨qL HB⟩⟩
 case round =>
  clear H'; obtain ⟨a0, rfl, HA, bE, HB⟩ := hrel
  obtain ⟨k1, rfl⟩ := qz gk HA
  have H := HA.out; clear HA; simp only [impl_BodiesOk.l0] at H; replace H := qc H; obtain ⟨aO, H⟩ | ⟨aO, H⟩ := H; replace H := qd H; obtain ⟨bQ, H⟩ := H; replace H := qd H; obtain ⟨aO, H⟩ := H; replace H := qH H; obtain ⟨bL, aI, H⟩ := H
  by_cases aJ : bL = true; subst aJ; replace H := qT H; replace H := qc H; obtain ⟨bJ, H⟩ | ⟨bJ, H⟩ := H; obtain ⟨ji8, hji8⟩ : ∃ j_ : Int, (wrap64 (a0 - 1)) = j_ := ⟨_, rfl⟩
  replace H : (if 0 ≤ (ji8) then (if (ji8) < (l0.length : Int) then (if ((rd_T41 l0 a0).f0) ≤ ((rd_T41 l0 (ji8)).f0) then (some false) else (impl_BodiesOk.l0 k1 l0 l0 (l0.length : Int) (wrap64 (a0 + 1)))) else none) else none) = some r := by first | (rw [hji8] at H; exact H) | (simp only [hji8] at H ⊢; exact H)
  (try rw [hji8] at aI); have hji8w : (IntKind.i64.wrap (a0 - 1)) = ji8 := (i64_w _).trans hji8; replace H := qd H; obtain ⟨bR, H⟩ := H; replace H := qd H; obtain ⟨bT, H⟩ := H; replace H := qc H; obtain ⟨bK, H⟩ | ⟨bK, H⟩ := H; obtain rfl := Option.some.inj H; refine ?L1; rotate_left; have H' := az H; clear H; refine ?L2
  rotate_right
  rotate_left 2
  have H' := az H; clear H; refine ?L3
  rotate_right 2
  rotate_left 3
  replace aJ := Bool.eq_false_iff.mpr aJ; subst aJ; replace H := qU H; obtain rfl := Option.some.inj H; refine ?L4
  rotate_right 3
  rotate_left 4
  obtain rfl := Option.some.inj H; refine ?L5
  rotate_right 4
  case' L1 | L2 | L3 | L4 =>
   obtain ⟨bA, bB, bI, bO, aP, aQ, aR, aS, aT, aU, aV, aW, aX, aY, aK, aL⟩ := ay41 HR0.out a0; cases bO; obtain ⟨aP, aQ, aR, aS, aT, aU, aV, aW, aX, aY, aK, aL⟩ := hB12 HB aP aQ aR aS aT aU aV aW aX aY aK aL
   try go_wp2_with (first | ((with_reducible refine gd 4 rfl ?_); refine bz12 4 41 ?_; intro a2 hg bU a1 hb; have bV := se hg HB; replace HB := bS HB hb; clear hb hg; have hcz13_c := cz12 a1.out; have hfz13_c := fz12 a1.out))
   obtain ⟨b9, hw_⟩ : ∃ x, x = ((((((((((((bU.setCell ⟨a2, 0, none⟩ (.int .i64 ((rd_T41 l0 a0).f0))).setCell ⟨a2, 1, none⟩ (.int .i64 ((rd_T41 l0 a0).f1.f0))).setCell ⟨a2, 2, none⟩ (.int .i64 ((rd_T41 l0 a0).f1.f1))).setCell ⟨a2, 3, none⟩ (.int .i64 ((rd_T41 l0 a0).f1.f2))).setCell ⟨a2, 4, none⟩ (.int .i64 ((rd_T41 l0 a0).f2.f0))).setCell ⟨a2, 5, none⟩ (.int .i64 ((rd_T41 l0 a0).f2.f1))).setCell ⟨a2, 6, none⟩ (.int .i64 ((rd_T41 l0 a0).f3.f0))).setCell ⟨a2, 7, none⟩ (.int .i64 ((rd_T41 l0 a0).f3.f1))).setCell ⟨a2, 8, none⟩ (.int .i64 ((rd_T41 l0 a0).f4))).setCell ⟨a2, 9, none⟩ (.int .i64 ((rd_T41 l0 a0).f5))).setCell ⟨a2, 10, none⟩ (.int .i64 ((rd_T41 l0 a0).f6))).setCell ⟨a2, 11, none⟩ (.int .i64 ((rd_T41 l0 a0).f7))) := ⟨_, rfl⟩; replace a1 : Aside0 (b9.heap[a2]? = some (.cells (a41 (rd_T41 l0 a0)) 41 (0, 0))) := ⟨by rw [hw_]; exact qP a1⟩; replace HB : Aside0 (Below w.heap.size w b9) := ⟨by rw [hw_]; exact qL HB⟩; rw [← hw_]; clear hw_; replace a1 := bd a1; replace HB := ed HB
  case' L1 | L2 =>
   have bC : 0 ≤ ((ji8) : Int) := qD; have bD : (ji8) < (l0.length : Int) := qD; obtain ⟨bM, bP, a8, a9, aA, aB, aC, aD, aE, aF, aG, aH, a4, a5⟩ := at_T41 HR0.out (ji8) bC bD; have aM := a5; have aN := a4; have aZ := aH; have b0 := aG; have b1 := aF; have b2 := aE; have b3 := aD; have b4 := aC; have b5 := aB; have b6 := aA; have b7 := a9; have b8 := a8; obtain rfl : bI = bM := (by injection bP); obtain ⟨a8, a9, aA, aB, aC, aD, aE, aF, aG, aH, a4, a5⟩ := hB12 HB a8 a9 aA aB aC aD aE aF aG aH a4 a5; replace bC := eq_true bC; replace bD := eq_true bD; refine sa 18 (fun w' => ci a2 0 (v41 (rd_T41 l0 a0)) w' ∧ ca (bI.add (((ji8)).toNat * 12)) (v41 (rd_T41 l0 (ji8))) w') [] ⟨cI a1, ⟨hB HB b8, hB HB b7, hB HB b6, hB HB b5, hB HB b4, hB HB b3, hB HB b2, hB HB b1, hB HB b0, hB HB aZ, hB HB aN, hB HB aM, trivial⟩⟩ fun Z => ?_; refine with_tabW impl_BodiesOk.tab4 impl_BodiesOk.bits4 fun T Y => ?_; generalize b9.drew = bX at a1 HB a8 a9 a4 a5 aA aB aC aD aE aF aG aH Z ⊢; refine tz 0 12 T Y Z ?_; refine oo 18 1 13 3 T fun K hK => ?_; refine ky Try.func58 (impl_BodyOk.calls (r := true) aI.out) ?_; rintro bY hb; replace a1 := kBB a1 hb; replace HB := bS HB hb; clear hb; refine hz hK ⟨cI a1, ⟨hB HB b8, hB HB b7, hB HB b6, hB HB b5, hB HB b4, hB HB b3, hB HB b2, hB HB b1, hB HB b0, hB HB aZ, hB HB aN, hB HB aM, trivial⟩⟩ fun Z => ?_
   clear hK K; refine nn 13 ?_; refine pz 2 14 T ?_; refine pz 3 15 T ?_; refine pz 4 16 T ?_; refine pz 5 17 T ?_; refine pz 6 18 T ?_; refine pz 7 19 T ?_; refine pz 9 21 T ?_; refine pz 10 22 T ?_; refine pz 11 23 T ?_; refine pz 12 24 T ?_; refine pz 13 25 T ?_; refine tz 8 20 T Y Z ?_; refine tz 14 26 T Y Z ?_; refine pz 15 27 T ?_; refine pz 16 28 T ?_; refine pz 17 29 T ?_; refine dn T ?_
   try go_wp2
  case L1 =>
   go_ret
   exact ⟨by first | rfl | (simp [errW_none, errW_some] <;> rfl) | (simp only [← hji8]; first | rfl | (simp [errW_none, errW_some] <;> rfl)) | (simp [*, errW_none, errW_some] <;> rfl), qL HB⟩
  case L2 =>
   go_roundg k1
   case measure => exact ma bE
   exact ⟨(wrap64 (a0 + 1)), qG, H', ⟨ma bE⟩, ⟨qL HB⟩⟩
  case' L3 | L4 =>
   refine sa 18 (fun w' => ci a2 0 (v41 (rd_T41 l0 a0)) w') [] (cI a1) fun Z => ?_; refine with_tabW impl_BodiesOk.tab4 impl_BodiesOk.bits4 fun T Y => ?_
  case L3 =>
   generalize b9.drew = bZ at a1 HB Z ⊢; refine tz 0 12 T Y Z ?_; refine oo 18 1 13 3 T fun K hK => ?_; refine ky Try.func58 (impl_BodyOk.calls (r := true) aI.out) ?_; rintro c1 hb; replace a1 := kBB a1 hb; replace HB := bS HB hb; clear hb; refine hz hK (cI a1) fun Z => ?_; clear hK K; refine nn 13 ?_; refine pz 2 14 T ?_; refine pz 3 15 T ?_; refine pz 4 16 T ?_; refine pz 5 17 T ?_; refine pz 6 18 T ?_; refine py 7 19 T ?_; refine py 8 20 T ?_; refine py 9 21 T ?_; refine py 10 22 T ?_; refine py 11 23 T ?_; refine py 12 24 T ?_; refine py 13 25 T ?_; refine py 14 26 T ?_; refine py 15 27 T ?_; refine pz 16 28 T ?_; refine pz 17 29 T ?_; refine dn T ?_
   try go_wp2
   go_roundg k1
   case measure => exact ma bE
   exact ⟨(wrap64 (a0 + 1)), qG, H', ⟨ma bE⟩, ⟨qL HB⟩⟩
  case L4 =>
   generalize b9.drew = c2 at a1 HB Z ⊢; refine tz 0 12 T Y Z ?_; refine oo 18 1 13 3 T fun K hK => ?_; refine ky Try.func58 (impl_BodyOk.calls (r := false) aI.out) ?_; rintro c3 hb; replace a1 := kBB a1 hb; replace HB := bS HB hb; clear hb; refine hz hK (cI a1) fun Z => ?_; clear hK K; refine nn 13 ?_; refine pz 2 14 T ?_; refine pz 3 15 T ?_; refine py 4 16 T ?_; refine py 5 17 T ?_; refine py 6 18 T ?_; refine py 7 19 T ?_; refine py 8 20 T ?_; refine py 9 21 T ?_; refine py 10 22 T ?_; refine py 11 23 T ?_; refine py 12 24 T ?_; refine py 13 25 T ?_; refine py 14 26 T ?_; refine py 15 27 T ?_; refine py 16 28 T ?_; refine pz 17 29 T ?_; refine dn T ?_
   try go_wp2
   go_ret
   exact ⟨qE, qL HB⟩
  case L5 =>
   go_wp2
   go_ret
   exact ⟨qE, qL HB⟩

/-! ### impl_Vec_plus: function 64 -/
def impl_Vec_plus.f (a2 a3 a4 a5 : Int) : Option (Int × Int) := some (wrap64 (a2 + a4), wrap64 (a3 + a5))
theorem impl_Vec_plus.calls {a2 a3 a4 a5 r1 r2 : Int} {w : World} (h : impl_Vec_plus.f a2 a3 a4 a5 = some (r1, r2)) :
  Calls Try.prog 64 #[.agg #[.int .i64 a2, .int .i64 a3], .agg #[.int .i64 a4, .int .i64 a5]] w fun e w' => e = .returned (.agg #[.int .i64 r1, .int .i64 r2]) ∧ Below w.heap.size w w' := by
 have hu33 := Try.underlying33; have HB := br w; have H : (some (wrap64 (a2 + a4), wrap64 (a3 + a5))) = some (r1, r2) := h; clear h; simp only [Option.some.injEq, Prod.mk.injEq] at H; obtain ⟨rfl, rfl⟩ := H; go_enter Try.func64, Try.ntmps64; go_wp2_with (first | ((with_reducible refine gd 2 rfl ?_); refine bx 2 #[.int .i64 a2, .int .i64 a3] 33 ?_; intro aE hg w3 a0 hb; have aM := se hg HB; replace HB := bS HB hb; clear hb hg) | ((with_reducible refine gd 3 rfl ?_); refine bx 3 #[.int .i64 a4, .int .i64 a5] 33 ?_; intro aF hg w4 a1 hb; have aN := se hg HB; obtain ⟨a7, a8⟩ := nPB a0 hg; replace a0 := kBB a0 hb; replace HB := bS HB hb; clear hb hg) | ((with_reducible refine gd 4 rfl ?_); refine bz2 4 33 ?_; intro aD hg w5 a6 hb; have aO := se hg HB; obtain ⟨a9, aA⟩ := nPB a0 hg; obtain ⟨aB, aC⟩ := nPB a1 hg; replace a0 := kBB a0 hb; replace a1 := kBB a1 hb; replace HB := bS HB hb; clear hb hg; have aP := a7.out; have aQ := a8.out; have aR := a9.out; have aS := aA.out; have hcz8_c := cz2 a0.out; have aK := blk_frozen a0.out 0; have aL := blk_frozen a0.out 1; have aT := aB.out; have aU := aC.out; have hcz10_c := cz2 a1.out; have aG := blk_frozen a1.out 0; have aH := blk_frozen a1.out 1; have hcz11_c := cz2 a6.out; have aI := blk_frozen a6.out 0; have aJ := blk_frozen a6.out 1)); refine rz aD 33 #[.int .i64 (wrap64 (a2 + a4)), .int .i64 (wrap64 (a3 + a5))] (qP a6) Try.underlying33 ?_; exact ⟨qE, qL HB⟩

/-! ### spec_ShapeOk: function 78 -/
def spec_ShapeOk.f (a0 a5 a6 : Int) : Option (Bool) := if a0 = 1 then ((spec_l1In.f a5 1 25600).bind fun aE => (if aE = true then (some (a6 == 0)) else (some false))) else (if a0 = 2 then ((spec_l1In.f a5 1 25600).bind fun aF => (if aF = true then ((spec_l1In.f a6 1 25600).bind fun aG => (some aG)) else (some false))) else (some false))
theorem spec_ShapeOk.calls {a0 a5 a6 : Int} {r : Bool} {w : World} (h : spec_ShapeOk.f a0 a5 a6 = some r) :
  Calls Try.prog 78 #[.agg #[.int .i64 a0, .int .i64 a5, .int .i64 a6]] w fun e w' => e = .returned (.bool r) ∧ Below w.heap.size w w' := by
 have hu39 := Try.underlying39; have HB := br w
 unfold spec_ShapeOk.f at h
 have H := h; clear h; by_cases a2 : a0 = 1; rw [if_pos a2] at H; have a9 := ba a2; have aA := bb a2; clear a2; replace H := qH H; obtain ⟨a7, a4, H⟩ := H
 by_cases a1 : a7 = true; subst a1; replace H := qT H; obtain rfl := Option.some.inj H; refine ?L1; rotate_left; replace a1 := Bool.eq_false_iff.mpr a1; subst a1; replace H := qU H; obtain rfl := Option.some.inj H; refine ?L2
 rotate_right
 rotate_left 2
 rw [if_neg a2] at H; have a9 := be a2; have aA := bf a2; by_cases a3 : a0 = 2; rw [if_pos a3] at H; have aB := ba a3; have aC := bb a3; clear a3; replace H := qH H; obtain ⟨a7, a4, H⟩ := H
 by_cases a1 : a7 = true; subst a1; replace H := qT H; replace H := qH H; obtain ⟨aJ, aH, H⟩ := H
 obtain rfl := Option.some.inj H; refine ?L3; rotate_left; replace a1 := Bool.eq_false_iff.mpr a1; subst a1; replace H := qU H; obtain rfl := Option.some.inj H; refine ?L4
 rotate_right
 rotate_left 2
 rw [if_neg a3] at H; have aB := be a3; have aC := bf a3; obtain rfl := Option.some.inj H; refine ?L5
 rotate_right 2
 rotate_right 2
 case' L1 | L2 | L3 | L4 | L5 =>
  go_enter Try.func78, Try.ntmps78; go_wp2_with (first | ((with_reducible refine gd 1 rfl ?_); refine bx 1 #[.int .i64 a0, .int .i64 a5, .int .i64 a6] 39 ?_; intro aD hg w5 a8 hb; have aI := se hg HB; replace HB := bS HB hb; clear hb hg; have hcz6_c := cz3 a8.out; have hfz6_c := fz3 a8.out) | ((with_reducible refine gc 77 rfl ?_); refine gr 9 Try.func77 (spec_l1In.calls (r := true) a4.out) ?_; rintro w' ⟨nd, rfl⟩) | ((with_reducible refine gc 77 rfl ?_); refine gr 9 Try.func77 (spec_l1In.calls (r := false) a4.out) ?_; rintro w' ⟨nd, rfl⟩) | ((with_reducible refine gc 77 rfl ?_); refine gr 19 Try.func77 (spec_l1In.calls (r := true) a4.out) ?_; rintro w' ⟨nd, rfl⟩) | (go_at_call 77; (with_reducible refine (spec_l1In.calls aH.out).mono ?_); rintro e w' ⟨rfl, ⟨nd, rfl⟩⟩) | ((with_reducible refine gc 77 rfl ?_); refine gr 19 Try.func77 (spec_l1In.calls (r := false) a4.out) ?_; rintro w' ⟨nd, rfl⟩))
  go_ret
 case' L1 | L2 | L3 | L4 =>
  exact ⟨qE, qL HB⟩
 case L5 =>
  exact ⟨qE, qL HB⟩

/-! ### spec_l3Place: function 79 -/
def spec_l3Place.f (a1 a2 : Int) : Option (Bool) := (spec_l1In.f a1 (-2560000) 2560000).bind fun a6 => (if a6 = true then ((spec_l1In.f a2 (-2560000) 2560000).bind fun a7 => (some a7)) else (some false))
theorem spec_l3Place.calls {a1 a2 : Int} {r : Bool} {w : World} (h : spec_l3Place.f a1 a2 = some r) :
  Calls Try.prog 79 #[.agg #[.int .i64 a1, .int .i64 a2]] w fun e w' => e = .returned (.bool r) ∧ Below w.heap.size w w' := by
 have hu33 := Try.underlying33; have HB := br w
 unfold spec_l3Place.f at h
 have H := h; clear h; replace H := qH H; obtain ⟨a8, a4, H⟩ := H
 by_cases a0 : a8 = true; subst a0; replace H := qT H; replace H := qH H; obtain ⟨aD, a9, H⟩ := H
 obtain rfl := Option.some.inj H; refine ?L1; rotate_left; replace a0 := Bool.eq_false_iff.mpr a0; subst a0; replace H := qU H; obtain rfl := Option.some.inj H; refine ?L2
 rotate_right
 case' L1 | L2 =>
  go_enter Try.func79, Try.ntmps79; go_wp2_with (first | ((with_reducible refine gd 1 rfl ?_); refine bx 1 #[.int .i64 a1, .int .i64 a2] 33 ?_; intro a5 hg w5 a3 hb; have aA := se hg HB; replace HB := bS HB hb; clear hb hg; have hcz6_c := cz2 a3.out; have aB := blk_frozen a3.out 0; have aC := blk_frozen a3.out 1) | ((with_reducible refine gc 77 rfl ?_); refine gr 5 Try.func77 (spec_l1In.calls (r := true) a4.out) ?_; rintro w' ⟨nd, rfl⟩) | (go_at_call 77; (with_reducible refine (spec_l1In.calls a9.out).mono ?_); rintro e w' ⟨rfl, ⟨nd, rfl⟩⟩) | ((with_reducible refine gc 77 rfl ?_); refine gr 5 Try.func77 (spec_l1In.calls (r := false) a4.out) ?_; rintro w' ⟨nd, rfl⟩))
  go_ret
 case L1 =>
  exact ⟨qE, qL HB⟩
 case L2 =>
  exact ⟨qE, qL HB⟩

attribute [local go_sem high] eqA33
/-! ### spec_BodyOk: function 54 -/
def spec_BodyOk.j0 : Nat → Bool → Int → Int → Int → Int → Int → Int → Int → Int → Int → Int → Int → Int → Option (Bool)
  | 0, _, _, _, _, _, _, _, _, _, _, _, _, _ => none
  | k + 1, eX, bP, bQ, bR, bT, bU, bV, aP, aQ, aT, bW, bX, aR => if eX = true then (some false) else (if aT = 0 then (if (aP == 0 && (aQ == 0)) = true then (some (aR == 0)) else (some false)) else (if aR < 8 then (some true) else (some (aP == 0 && (aQ == 0)))))
def spec_BodyOk.f (k : Nat) (a6 a7 a8 a9 aA aB a1 a2 a4 aC a5 a3 : Int) : Option (Bool) := (spec_l1In.f a6 0 999999999).bind fun b8 => (if b8 = true then ((spec_ShapeOk.f a7 a8 a9).bind fun b9 => (if b9 = true then ((spec_l3Place.f aA aB).bind fun bA => (if bA = true then ((spec_l6Drive.f a1 a2).bind fun bB => (if bB = true then ((spec_l1In.f a4 0 1000).bind fun bC => (if bC = true then ((spec_l1In.f aC 0 256).bind fun bD => (if bD = true then ((spec_l1In.f a5 0 256).bind fun bE => (if bE = true then ((spec_l1In.f a3 0 8).bind fun bF => (spec_BodyOk.j0 k (!bF) a6 a7 a8 a9 aA aB a1 a2 a4 aC a5 a3)) else (spec_BodyOk.j0 k true a6 a7 a8 a9 aA aB a1 a2 a4 aC a5 a3))) else (spec_BodyOk.j0 k true a6 a7 a8 a9 aA aB a1 a2 a4 aC a5 a3))) else (spec_BodyOk.j0 k true a6 a7 a8 a9 aA aB a1 a2 a4 aC a5 a3))) else (spec_BodyOk.j0 k true a6 a7 a8 a9 aA aB a1 a2 a4 aC a5 a3))) else (spec_BodyOk.j0 k true a6 a7 a8 a9 aA aB a1 a2 a4 aC a5 a3))) else (spec_BodyOk.j0 k true a6 a7 a8 a9 aA aB a1 a2 a4 aC a5 a3))) else (spec_BodyOk.j0 k true a6 a7 a8 a9 aA aB a1 a2 a4 aC a5 a3))
theorem spec_BodyOk.calls {k : Nat} {a6 a7 a8 a9 aA aB a1 a2 a4 aC a5 a3 : Int} {r : Bool} {w : World} (h : spec_BodyOk.f k a6 a7 a8 a9 aA aB a1 a2 a4 aC a5 a3 = some r) :
  Calls Try.prog 54 #[.agg #[.int .i64 a6, .int .i64 a7, .int .i64 a8, .int .i64 a9, .int .i64 aA, .int .i64 aB, .int .i64 a1, .int .i64 a2, .int .i64 a4, .int .i64 aC, .int .i64 a5, .int .i64 a3]] w fun e w' => e = .returned (.bool r) ∧ Below w.heap.size w w' := by
 have hu41 := Try.underlying41; have hu39 := Try.underlying39; have hu33 := Try.underlying33; have HB := br w
 unfold spec_BodyOk.f at h
 have H := h; clear h; have b7 := az H; clear H; go_enter Try.func54, Try.ntmps54
 go_upto_region 1 with (first | ((with_reducible refine gd 1 rfl ?_); refine bx 1 #[.int .i64 a6, .int .i64 a7, .int .i64 a8, .int .i64 a9, .int .i64 aA, .int .i64 aB, .int .i64 a1, .int .i64 a2, .int .i64 a4, .int .i64 aC, .int .i64 a5, .int .i64 a3] 41 ?_; intro aS hg w3 a0 hb; have eY := se hg HB; replace HB := bS HB hb; clear hb hg))
 (try simp only [Act.put, List.setIfInBounds_toArray, List.set_cons_zero, List.set_cons_succ])
 go_cut [48] (fun eZ wc => ∃ (kq : Nat) (aG : Bool), eZ = .bool aG ∧ Aside0 (spec_BodyOk.j0 kq aG a6 a7 a8 a9 aA aB a1 a2 a4 aC a5 a3 = some r) ∧ Aside0 (kq ≤ k) ∧ Aside0 (wc.heap[aS]? = some (.cells #[.int .i64 a6, .int .i64 a7, .int .i64 a8, .int .i64 a9, .int .i64 aA, .int .i64 aB, .int .i64 a1, .int .i64 a2, .int .i64 a4, .int .i64 aC, .int .i64 a5, .int .i64 a3] 41 (0, 0))) ∧ Aside0 (Below w.heap.size w wc))
 case first =>
  have H := b7.out; clear b7; replace H := qH H; obtain ⟨bG, aU, H⟩ := H
  by_cases aH : bG = true; subst aH; replace H := qT H; replace H := qH H; obtain ⟨bH, aV, H⟩ := H
  by_cases aI : bH = true; subst aI; replace H := qT H; replace H := qH H; obtain ⟨bI, aW, H⟩ := H
  by_cases aJ : bI = true; subst aJ; replace H := qT H; replace H := qH H; obtain ⟨bJ, aX, H⟩ := H
  by_cases aK : bJ = true; subst aK; replace H := qT H; replace H := qH H; obtain ⟨bK, aY, H⟩ := H
  by_cases aL : bK = true; subst aL; replace H := qT H; replace H := qH H; obtain ⟨bL, aZ, H⟩ := H
  by_cases aM : bL = true; subst aM; replace H := qT H; replace H := qH H; obtain ⟨bM, b0, H⟩ := H
  by_cases aN : bM = true; subst aN; replace H := qT H; replace H := qH H; obtain ⟨bN, bO, H⟩ := H
  have H' := az H; clear H; refine ?L1; rotate_left; replace aN := Bool.eq_false_iff.mpr aN; subst aN; replace H := qU H; have H' := az H; clear H; refine ?L2
  rotate_right
  rotate_left 2
  replace aM := Bool.eq_false_iff.mpr aM; subst aM; replace H := qU H; have H' := az H; clear H; refine ?L3
  rotate_right 2
  rotate_left 3
  replace aL := Bool.eq_false_iff.mpr aL; subst aL; replace H := qU H; have H' := az H; clear H; refine ?L4
  rotate_right 3
  rotate_left 4
  replace aK := Bool.eq_false_iff.mpr aK; subst aK; replace H := qU H; have H' := az H; clear H; refine ?L5
  rotate_right 4
  rotate_left 5
  replace aJ := Bool.eq_false_iff.mpr aJ; subst aJ; replace H := qU H; have H' := az H; clear H; refine ?L6
  rotate_right 5
  rotate_left 6
  replace aI := Bool.eq_false_iff.mpr aI; subst aI; replace H := qU H; have H' := az H; clear H; refine ?L7
  rotate_right 6
  rotate_left 7
  replace aH := Bool.eq_false_iff.mpr aH; subst aH; replace H := qU H; have H' := az H; clear H; refine ?L8
  rotate_right 7
  case' L1 | L2 | L3 | L4 | L5 | L6 | L7 | L8 =>
   obtain ⟨cE, cF, cG, cH, cI, cJ, cK, cL, cM, cN, bY, bZ⟩ := cz12 a0.out; obtain ⟨cO, cP, cQ, cR, cS, cT, cU, cV, cW, cX, c0, c1⟩ := fz12 a0.out
  case' L1 | L2 | L3 | L4 | L5 | L6 | L7 =>
   go_wp2_with (first | ((with_reducible refine gc 77 rfl ?_); refine gr 5 Try.func77 (spec_l1In.calls (r := true) aU.out) ?_; rintro w' ⟨nd, rfl⟩) | (go_at_call 78; (with_reducible refine (spec_ShapeOk.calls (r := true) aV.out).mono ?_); rintro e fA ⟨rfl, hb⟩; replace a0 := kBB a0 hb; replace HB := bS HB hb; clear hb; obtain ⟨cY, cZ, dA, dB, dC, dD, dE, dF, dG, dH, c2, c3⟩ := cz12 a0.out; obtain ⟨dI, dJ, dK, dL, dM, dN, dO, dP, dQ, dR, c4, c5⟩ := fz12 a0.out) | (go_at_call 79; (with_reducible refine (spec_l3Place.calls (r := true) aW.out).mono ?_); rintro e fB ⟨rfl, hb⟩; replace a0 := kBB a0 hb; replace HB := bS HB hb; clear hb; obtain ⟨dS, dT, dU, dV, dW, dX, dY, dZ, e0, e1, c6, c7⟩ := cz12 a0.out; obtain ⟨e2, e3, e4, e5, e6, e7, e8, e9, eA, eB, c8, c9⟩ := fz12 a0.out) | (go_at_call 80; (with_reducible refine (spec_l6Drive.calls (r := true) aX.out).mono ?_); rintro e fC ⟨rfl, hb⟩; replace a0 := kBB a0 hb; replace HB := bS HB hb; clear hb; obtain ⟨eC, eD, eE, eF, eG, eH, eI, eJ, eK, eL, cA, cB⟩ := cz12 a0.out; obtain ⟨eM, eN, eO, eP, eQ, eR, eS, eT, eU, eV, cC, cD⟩ := fz12 a0.out) | (go_at_call 77; (with_reducible refine (spec_l1In.calls (r := true) aY.out).mono ?_); rintro e w' ⟨rfl, ⟨nd, rfl⟩⟩) | (go_at_call 77; (with_reducible refine (spec_l1In.calls (r := true) aZ.out).mono ?_); rintro e w' ⟨rfl, ⟨nd, rfl⟩⟩) | (go_at_call 77; (with_reducible refine (spec_l1In.calls (r := true) b0.out).mono ?_); rintro e w' ⟨rfl, ⟨nd, rfl⟩⟩) | (go_at_call 77; (with_reducible refine (spec_l1In.calls bO.out).mono ?_); rintro e w' ⟨rfl, ⟨nd, rfl⟩⟩) | (go_at_call 77; (with_reducible refine (spec_l1In.calls (r := false) b0.out).mono ?_); rintro e w' ⟨rfl, ⟨nd, rfl⟩⟩) | (go_at_call 77; (with_reducible refine (spec_l1In.calls (r := false) aZ.out).mono ?_); rintro e w' ⟨rfl, ⟨nd, rfl⟩⟩) | (go_at_call 77; (with_reducible refine (spec_l1In.calls (r := false) aY.out).mono ?_); rintro e w' ⟨rfl, ⟨nd, rfl⟩⟩) | (go_at_call 80; (with_reducible refine (spec_l6Drive.calls (r := false) aX.out).mono ?_); rintro e fD ⟨rfl, hb⟩; replace a0 := kBB a0 hb; replace HB := bS HB hb; clear hb) | (go_at_call 79; (with_reducible refine (spec_l3Place.calls (r := false) aW.out).mono ?_); rintro e fE ⟨rfl, hb⟩; replace a0 := kBB a0 hb; replace HB := bS HB hb; clear hb) | (go_at_call 78; (with_reducible refine (spec_ShapeOk.calls (r := false) aV.out).mono ?_); rintro e fG ⟨rfl, hb⟩; replace a0 := kBB a0 hb; replace HB := bS HB hb; clear hb))
   go_meet
  case L1 =>
   exact ⟨_, (!bN), qG, H', ⟨qO⟩, ⟨qF a0⟩, ⟨qL HB⟩⟩
  case' L2 | L3 | L4 | L5 | L6 | L7 =>
   exact ⟨_, (true), qG, H', ⟨qO⟩, ⟨qF a0⟩, ⟨qL HB⟩⟩
  case L8 =>
   go_wp2_with (first | ((with_reducible refine gc 77 rfl ?_); refine gr 5 Try.func77 (spec_l1In.calls (r := false) aU.out) ?_; rintro w' ⟨nd, rfl⟩))
   go_meet
   exact ⟨_, (true), qG, H', ⟨qO⟩, ⟨qF a0⟩, ⟨qL HB⟩⟩
 case rest =>
  clear b7; obtain ⟨kq, aG, rfl, HA, fH, a0, HB⟩ := hcut
  obtain ⟨fI, rfl⟩ := qz kq HA
  have H := HA.out; clear HA; simp only [spec_BodyOk.j0] at H; by_cases aO : aG = true; subst aO; replace H := qT H; obtain rfl := Option.some.inj H; refine ?L9; rotate_left; replace aO := Bool.eq_false_iff.mpr aO; subst aO; replace H := qU H; by_cases aE : a4 = 0; rw [if_pos aE] at H; have b1 := ba aE; have b2 := bb aE; clear aE; by_cases aD : (a1 == 0 && (a2 == 0)) = true; rw [if_pos aD] at H; have b3 : (a1 == 0 && (a2 == 0)) = true := aD; refine ?L10; rotate_left; rw [if_neg aD] at H
  have b3 : (a1 == 0 && (a2 == 0)) = false := by simpa using aD
  refine ?L11
  rotate_right
  rotate_left 2
  rw [if_neg aE] at H; have b1 := be aE; have b2 := bf aE; replace H := qc H; obtain ⟨b4, H⟩ | ⟨b4, H⟩ := H; obtain rfl := Option.some.inj H; refine ?L12; rotate_left; obtain rfl := Option.some.inj H; refine ?L13
  rotate_right
  rotate_right 2
  rotate_right
  case L9 =>
   go_wp2
   go_ret
   exact ⟨qE, qL HB⟩
  case L10 =>
   (try (have b5 : decide (a1 = 0 && (a2 == 0)) = true := by simpa using aD)); (try (have b6 : (a1 == 0 && (a2 == 0)) = true := by simpa using aD)); clear aD; obtain rfl := Option.some.inj H; have hcz63_c := cz12 a0.out; have hfz63_c := fz12 a0.out; go_wp2
   go_ret
   exact ⟨qE, qL HB⟩
  case L11 =>
   (try (have b5 : decide (a1 = 0 && (a2 == 0)) = false := by simpa using aD)); (try (have b6 : (a1 == 0 && (a2 == 0)) = false := by simpa using aD)); (try (have eW : ¬ (a1 = 0 && (a2 == 0)) := by simpa using aD)); clear aD; obtain rfl := Option.some.inj H; have hcz64_c := cz12 a0.out; have hfz64_c := fz12 a0.out; go_wp2
   go_ret
   exact ⟨qE, qL HB⟩
  case' L12 | L13 =>
   have hcz66_c := cz12 a0.out; have hfz66_c := fz12 a0.out; go_wp2
   go_ret
  case L12 =>
   exact ⟨qE, qL HB⟩
  case L13 =>
   exact ⟨qE, qL HB⟩

/-! ### spec_BodiesOk: function 17 -/
def spec_BodiesOk.l0 : Nat → List S41 → Int → Option (Bool)
  | 0, _, _ => none
  | k + 1, x0, x3 => if x3 < (x0.length : Int) then (if 0 ≤ x3 then ((spec_BodyOk.f k ((rd_T41 x0 x3).f0) ((rd_T41 x0 x3).f1.f0) ((rd_T41 x0 x3).f1.f1) ((rd_T41 x0 x3).f1.f2) ((rd_T41 x0 x3).f2.f0) ((rd_T41 x0 x3).f2.f1) ((rd_T41 x0 x3).f3.f0) ((rd_T41 x0 x3).f3.f1) ((rd_T41 x0 x3).f4) ((rd_T41 x0 x3).f5) ((rd_T41 x0 x3).f6) ((rd_T41 x0 x3).f7)).bind fun cP => (if cP = true then (if x3 > 0 then (if 0 ≤ (wrap64 (x3 - 1)) then (if (wrap64 (x3 - 1)) < (x0.length : Int) then (if ((rd_T41 x0 (wrap64 (x3 - 1))).f0) ≥ ((rd_T41 x0 x3).f0) then (some false) else (spec_BodiesOk.l0 k x0 (wrap64 (x3 + 1)))) else none) else none) else (spec_BodiesOk.l0 k x0 (wrap64 (x3 + 1)))) else (some false))) else none) else (some (decide ((x0.length : Int) ≤ 12)))
def spec_BodiesOk.f (k : Nat) (l0 : List S41) : Option (Bool) := spec_BodiesOk.l0 k l0 0
def spec_BodiesOk.T4 : TT := (true, [([], []), ([], []), ([0, 1], [0, 1]), ([2], [2]), ([3], [3]), ([4], [4]), ([5, 4], [5]), ([6], [6]), ([7, 6], [6, 7]), ([8, 6, 6], [6, 8]), ([9], [9]), ([9], [9]), ([11, 9], [9, 11]), ([10, 12, 9], [9, 10, 12]), ([13, 9], [9, 13]), ([14, 9], [9, 14]), ([9], [9]), ([9], [9]), ([16, 17, 9], [9, 16, 17]), ([18, 9], [9, 18]), ([19, 9], [9, 19]), ([15, 20, 9], [9, 15, 20]), ([9, 21, 6], [6, 9, 21]), ([6, 22], [6, 22])])
def spec_BodiesOk.B4 : List Nat := [0, 0, 3, 7, 15, 31, 63, 127, 255, 511, 1023, 1023, 3071, 8191, 16383, 32767, 1023, 1023, 197631, 459775, 984063, 2097151, 4194303, 8388607]
theorem spec_BodiesOk.tab4 : rtab .any (opsOf Try.f17 4) = spec_BodiesOk.T4 := by kernel_rfl
theorem spec_BodiesOk.bits4 : waitsOk spec_BodiesOk.T4.2 spec_BodiesOk.B4 = true := by kernel_rfl
theorem spec_BodiesOk.calls {k : Nat} {A0 : Option Addr} {c0 : Nat} {l0 : List S41} {r : Bool} {w : World} (hr0 : Kd.C k41 w A0 l0.length l0) (hc0 : l0.length ≤ c0) (h : spec_BodiesOk.f k l0 = some r) :
  Calls Try.prog 17 #[.slice A0 l0.length c0] w fun e w' => e = .returned (.bool r) ∧ Below w.heap.size w w' := by
 have hu41 := Try.underlying41; have HR0 := az hr0; have cX := az hc0; clear hr0 hc0; have HB := br w; have H : (spec_BodiesOk.l0 k l0 0) = some r := h; clear h; have H' := az H; clear H; go_enter Try.func17, Try.ntmps17; go_wp2
 go_loopg [3] k (fun kq v3 w' => ∃ (a0 : Int), v3 = .int .i64 a0 ∧ Aside0 (spec_BodiesOk.l0 kq l0 a0 = some r) ∧ Aside0 (kq ≤ k) ∧ Aside0 (Below w.heap.size w w'))
 case atStart => exact ⟨(0), qG, H', ⟨Nat.le_refl _⟩, ⟨qL HB⟩⟩
 case round =>
  clear H'
  try clear c1
  obtain ⟨a0, rfl, HA, cG, HB⟩ := hrel
  obtain ⟨k1, rfl⟩ := qz gk HA
  have H := HA.out; clear HA; simp only [spec_BodiesOk.l0] at H; replace H := qc H; obtain ⟨cK, H⟩ | ⟨cK, H⟩ := H; replace H := qd H; obtain ⟨cU, H⟩ := H; replace H := qH H; obtain ⟨cQ, bL, H⟩ := H
  by_cases bM : cQ = true; subst bM; replace H := qT H; replace H := qc H; obtain ⟨cL, H⟩ | ⟨cL, H⟩ := H; obtain ⟨ji7, hji7⟩ : ∃ j_ : Int, (wrap64 (a0 - 1)) = j_ := ⟨_, rfl⟩
  replace H : (if 0 ≤ (ji7) then (if (ji7) < (l0.length : Int) then (if ((rd_T41 l0 (ji7)).f0) ≥ ((rd_T41 l0 a0).f0) then (some false) else (spec_BodiesOk.l0 k1 l0 (wrap64 (a0 + 1)))) else none) else none) = some r := by first | (rw [hji7] at H; exact H) | (simp only [hji7] at H ⊢; exact H)
  (try rw [hji7] at bL); have hji7w : (IntKind.i64.wrap (a0 - 1)) = ji7 := (i64_w _).trans hji7; replace H := qd H; obtain ⟨cV, H⟩ := H; replace H := qd H; obtain ⟨cW, H⟩ := H; replace H := qc H; obtain ⟨cM, H⟩ | ⟨cM, H⟩ := H; obtain rfl := Option.some.inj H; refine ?L1; rotate_left; have H' := az H; clear H; refine ?L2
  rotate_right
  rotate_left 2
  have H' := az H; clear H; refine ?L3
  rotate_right 2
  rotate_left 3
  replace bM := Bool.eq_false_iff.mpr bM; subst bM; replace H := qU H; obtain rfl := Option.some.inj H; refine ?L4
  rotate_right 3
  rotate_left 4
  obtain rfl := Option.some.inj H; refine ?L5
  rotate_right 4
  case' L1 | L2 | L3 | L4 =>
   try go_wp2
   replace HB := ed HB; obtain ⟨cA, cB, aT, cR, a5, a6, a7, a8, a9, aA, aB, aC, aD, aE, a1, a2⟩ := ay41 HR0.out a0; have a3 := a2; have a4 := a1; have aF := aE; have aG := aD; have aH := aC; have aI := aB; have aJ := aA; have aK := a9; have aL := a8; have aM := a7; have aN := a6; have aO := a5; cases cR; obtain ⟨a5, a6, a7, a8, a9, aA, aB, aC, aD, aE, a1, a2⟩ := hB12 HB a5 a6 a7 a8 a9 aA aB aC aD aE a1 a2
  case' L1 | L2 =>
   have cC : 0 ≤ ((ji7) : Int) := qD; have cD : (ji7) < (l0.length : Int) := qD; obtain ⟨cN, cS, aU, aV, aW, aX, aY, aZ, b0, b1, b2, b3, aP, aQ⟩ := at_T41 HR0.out (ji7) cC cD; have bH := aQ; have bI := aP; have bN := b3; have bO := b2; have bP := b1; have bQ := b0; have bR := aZ; have bT := aY; have bU := aX; have bV := aW; have bW := aV; have bX := aU; obtain rfl : aT = cN := (by injection cS); obtain ⟨aU, aV, aW, aX, aY, aZ, b0, b1, b2, b3, aP, aQ⟩ := hB12 HB aU aV aW aX aY aZ b0 b1 b2 b3 aP aQ; replace cC := eq_true cC; replace cD := eq_true cD; obtain ⟨cE, cF, cO, cT, b4, b5, b6, b7, b8, b9, bA, bB, bC, bD, aR, aS⟩ := ay41 HR0.out a0; have bJ := aS; have bK := aR; have bY := bD; have bZ := bC; have c2 := bB; have c3 := bA; have c4 := b9; have c5 := b8; have c6 := b7; have c7 := b6; have c8 := b5; have c9 := b4; obtain rfl : aT = cO := (by injection cT); obtain ⟨b4, b5, b6, b7, b8, b9, bA, bB, bC, bD, aR, aS⟩ := hB12 HB b4 b5 b6 b7 b8 b9 bA bB bC bD aR aS; refine sa 24 (fun w' => ca (aT.add ((a0).toNat * 12)) (v41 (rd_T41 l0 a0)) w' ∧ ca (aT.add (((ji7)).toNat * 12)) (v41 (rd_T41 l0 (ji7))) w' ∧ ca (aT.add ((a0).toNat * 12)) (v41 (rd_T41 l0 a0)) w') [] ⟨⟨hB HB aO, hB HB aN, hB HB aM, hB HB aL, hB HB aK, hB HB aJ, hB HB aI, hB HB aH, hB HB aG, hB HB aF, hB HB a4, hB HB a3, trivial⟩, ⟨hB HB bX, hB HB bW, hB HB bV, hB HB bU, hB HB bT, hB HB bR, hB HB bQ, hB HB bP, hB HB bO, hB HB bN, hB HB bI, hB HB bH, trivial⟩, ⟨hB HB c9, hB HB c8, hB HB c7, hB HB c6, hB HB c5, hB HB c4, hB HB c3, hB HB c2, hB HB bZ, hB HB bY, hB HB bK, hB HB bJ, trivial⟩⟩ fun Z => ?_; refine with_tabW spec_BodiesOk.tab4 spec_BodiesOk.bits4 fun T Y => ?_
   generalize wr.drew = cY at HB a5 a6 a1 a2 a7 a8 a9 aA aB aC aD aE aU aV aP aQ aW aX aY aZ b0 b1 b2 b3 b4 b5 aR aS b6 b7 b8 b9 bA bB bC bD Z ⊢; refine pz 0 10 T ?_; refine pz 1 11 T ?_; refine pz 2 12 T ?_; refine tz 3 13 T Y Z ?_; refine oo 24 4 14 31 T fun K hK => ?_; refine ky Try.func54 (spec_BodyOk.calls (r := true) bL.out) ?_; rintro cZ hb; replace HB := bS HB hb; clear hb; refine hz hK ⟨⟨hB HB aO, hB HB aN, hB HB aM, hB HB aL, hB HB aK, hB HB aJ, hB HB aI, hB HB aH, hB HB aG, hB HB aF, hB HB a4, hB HB a3, trivial⟩, ⟨hB HB bX, hB HB bW, hB HB bV, hB HB bU, hB HB bT, hB HB bR, hB HB bQ, hB HB bP, hB HB bO, hB HB bN, hB HB bI, hB HB bH, trivial⟩, ⟨hB HB c9, hB HB c8, hB HB c7, hB HB c6, hB HB c5, hB HB c4, hB HB c3, hB HB c2, hB HB bZ, hB HB bY, hB HB bK, hB HB bJ, trivial⟩⟩ fun Z => ?_; clear hK K; refine nn 14 ?_; refine pz 5 15 T ?_; refine pz 6 16 T ?_; refine pz 7 17 T ?_; refine pz 8 18 T ?_; refine pz 9 19 T ?_; refine pz 10 20 T ?_; refine pz 11 21 T ?_; refine pz 12 22 T ?_; refine pz 13 23 T ?_; refine pz 14 24 T ?_; refine pz 16 26 T ?_; refine pz 17 27 T ?_; refine pz 18 28 T ?_; refine pz 19 29 T ?_; refine tz 15 25 T Y Z ?_; refine tz 20 30 T Y Z ?_; refine pz 21 31 T ?_; refine pz 22 32 T ?_; refine pz 23 33 T ?_; refine dn T ?_
   try go_wp2
  case L1 =>
   go_ret
   exact ⟨by first | rfl | (simp [errW_none, errW_some] <;> rfl) | (simp only [← hji7]; first | rfl | (simp [errW_none, errW_some] <;> rfl)) | (simp [*, errW_none, errW_some] <;> rfl), qL HB⟩
  case L2 =>
   go_roundg k1
   case measure => exact ma cG
   exact ⟨(wrap64 (a0 + 1)), qG, H', ⟨ma cG⟩, ⟨qL HB⟩⟩
  case' L3 | L4 =>
   refine sa 24 (fun w' => ca (aT.add ((a0).toNat * 12)) (v41 (rd_T41 l0 a0)) w') [] (⟨hB HB aO, hB HB aN, hB HB aM, hB HB aL, hB HB aK, hB HB aJ, hB HB aI, hB HB aH, hB HB aG, hB HB aF, hB HB a4, hB HB a3, trivial⟩) fun Z => ?_; refine with_tabW spec_BodiesOk.tab4 spec_BodiesOk.bits4 fun T Y => ?_; generalize wr.drew = dA at HB a5 a6 a1 a2 a7 a8 a9 aA aB aC aD aE Z ⊢; refine pz 0 10 T ?_; refine pz 1 11 T ?_; refine pz 2 12 T ?_; refine tz 3 13 T Y Z ?_; refine oo 24 4 14 31 T fun K hK => ?_; refine go1 Try.func54 #[.agg (a41 (rd_T41 l0 a0))] ?_
  case L3 =>
   with_reducible refine (spec_BodyOk.calls (r := true) bL.out).mono ?_
   rintro e dB ⟨rfl, hb⟩; refine ⟨_, rfl, ?_⟩; replace HB := bS HB hb; clear hb; refine hz hK (⟨hB HB aO, hB HB aN, hB HB aM, hB HB aL, hB HB aK, hB HB aJ, hB HB aI, hB HB aH, hB HB aG, hB HB aF, hB HB a4, hB HB a3, trivial⟩) fun Z => ?_; clear hK K; refine nn 14 ?_; refine pz 5 15 T ?_; refine pz 6 16 T ?_; refine pz 7 17 T ?_; refine pz 8 18 T ?_; refine pz 9 19 T ?_; refine py 10 20 T ?_; refine py 11 21 T ?_; refine py 12 22 T ?_; refine py 13 23 T ?_; refine py 14 24 T ?_; refine py 15 25 T ?_; refine py 16 26 T ?_; refine py 17 27 T ?_; refine py 18 28 T ?_; refine py 19 29 T ?_; refine py 20 30 T ?_; refine py 21 31 T ?_; refine pz 22 32 T ?_; refine pz 23 33 T ?_; refine dn T ?_
   try go_wp2
   go_roundg k1
   case measure => exact ma cG
   exact ⟨(wrap64 (a0 + 1)), qG, H', ⟨ma cG⟩, ⟨qL HB⟩⟩
  case L4 =>
   with_reducible refine (spec_BodyOk.calls (r := false) bL.out).mono ?_
   rintro e dC ⟨rfl, hb⟩; refine ⟨_, rfl, ?_⟩; replace HB := bS HB hb; clear hb; refine hz hK (⟨hB HB aO, hB HB aN, hB HB aM, hB HB aL, hB HB aK, hB HB aJ, hB HB aI, hB HB aH, hB HB aG, hB HB aF, hB HB a4, hB HB a3, trivial⟩) fun Z => ?_; clear hK K; refine nn 14 ?_; refine pz 5 15 T ?_; refine pz 6 16 T ?_; refine py 7 17 T ?_; refine py 8 18 T ?_; refine py 9 19 T ?_; refine py 10 20 T ?_; refine py 11 21 T ?_; refine py 12 22 T ?_; refine py 13 23 T ?_; refine py 14 24 T ?_; refine py 15 25 T ?_; refine py 16 26 T ?_; refine py 17 27 T ?_; refine py 18 28 T ?_; refine py 19 29 T ?_; refine py 20 30 T ?_; refine py 21 31 T ?_; refine py 22 32 T ?_; refine pz 23 33 T ?_; refine dn T ?_
   try go_wp2
   go_ret
   exact ⟨qE, qL HB⟩
  case L5 =>
   go_wp2
   go_ret
   exact ⟨qE, qL HB⟩
end Go.Proofs.Ytdngjedhbnoaoaa.PBig
