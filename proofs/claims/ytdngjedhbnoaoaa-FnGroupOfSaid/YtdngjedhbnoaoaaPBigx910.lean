/- What these functions compute, each walked once: spec_l9Moves, spec_l9Sleep, spec_l9Quiet, spec_l9Step; for all arguments and worlds, under the conditions that each theorem names. -/
import Derived.Test.YtdngjedhbnoaoaaSq
import Derived.Test.YtdngjedhbnoaoaaPBigx903
import Derived.Test.YtdngjedhbnoaoaaPBigx904
import Derived.Test.YtdngjedhbnoaoaaPBigx905
import Derived.Test.YtdngjedhbnoaoaaPBigx906
import Derived.Test.YtdngjedhbnoaoaaPBigx908
import Derived.Test.YtdngjedhbnoaoaaPBigx909
namespace Go.Proofs.Ytdngjedhbnoaoaa.PBig
open Go.RowKit Go.Proofs.YtdngjedhbnoaoaaW.PrintWords Go.Proofs.YtdngjedhbnoaoaaW.PrintLast Go.Proofs.YtdngjedhbnoaoaaW.PrintMore
attribute [local go_sem] max2_int min2_int max_two min_two max_three min_three max_four min_four
set_option linter.unusedVariables false
set_option linter.unusedSimpArgs false
set_option maxHeartbeats 8000000
set_option maxRecDepth 100000

/-! ### spec_l9Moves: function 119 -/
mutual
def spec_l9Moves.l0 : Nat → List S41 → Int → Option ((List S41))
  | 0, _, _ => none
  | k + 1, x3, x4 => if x4 < (x3.length : Int) then (if 0 ≤ x4 then (if ((rd_T41 x3 x4).f4) > 0 then ((spec_l6Sleeps.f ((rd_T41 x3 x4).f0) ((rd_T41 x3 x4).f1.f0) ((rd_T41 x3 x4).f1.f1) ((rd_T41 x3 x4).f1.f2) ((rd_T41 x3 x4).f2.f0) ((rd_T41 x3 x4).f2.f1) ((rd_T41 x3 x4).f3.f0) ((rd_T41 x3 x4).f3.f1) ((rd_T41 x3 x4).f4) ((rd_T41 x3 x4).f5) ((rd_T41 x3 x4).f6) ((rd_T41 x3 x4).f7)).bind fun c7 => (spec_l9Moves.j1 k x3 x4 (!c7))) else (spec_l9Moves.j1 k x3 x4 false)) else none) else (some x3)
def spec_l9Moves.j1 : Nat → List S41 → Int → Bool → Option ((List S41))
  | 0, _, _, _ => none
  | k + 1, x3, x4, dF => if dF = true then (if 0 ≤ x4 then (if x4 < (x3.length : Int) then ((spec_l6Speed.f ((rd_T41 x3 x4).f0) ((rd_T41 x3 x4).f1.f0) ((rd_T41 x3 x4).f1.f1) ((rd_T41 x3 x4).f1.f2) ((rd_T41 x3 x4).f2.f0) ((rd_T41 x3 x4).f2.f1) ((rd_T41 x3 x4).f3.f0) ((rd_T41 x3 x4).f3.f1) ((rd_T41 x3 x4).f4) ((rd_T41 x3 x4).f5) ((rd_T41 x3 x4).f6) ((rd_T41 x3 x4).f7)).bind fun bt577 => ((spec_l6Move.f ((rd_T41 x3 x4).f0) ((rd_T41 x3 x4).f1.f0) ((rd_T41 x3 x4).f1.f1) ((rd_T41 x3 x4).f1.f2) ((rd_T41 x3 x4).f2.f0) ((rd_T41 x3 x4).f2.f1) ((rd_T41 x3 x4).f3.f0) ((rd_T41 x3 x4).f3.f1) ((rd_T41 x3 x4).f4) ((rd_T41 x3 x4).f5) ((rd_T41 x3 x4).f6) ((rd_T41 x3 x4).f7) bt577.1 bt577.2).bind fun bt579 => (spec_l9Moves.l0 k (x3.set (x4 : Int).toNat (⟨bt579.1, (⟨bt579.2.1, bt579.2.2.1, bt579.2.2.2.1⟩ : S39), (⟨bt579.2.2.2.2.1, bt579.2.2.2.2.2.1⟩ : S33), (⟨bt579.2.2.2.2.2.2.1, bt579.2.2.2.2.2.2.2.1⟩ : S33), bt579.2.2.2.2.2.2.2.2.1, bt579.2.2.2.2.2.2.2.2.2.1, bt579.2.2.2.2.2.2.2.2.2.2.1, bt579.2.2.2.2.2.2.2.2.2.2.2⟩ : S41)) (wrap64 (x4 + 1))))) else none) else none) else (spec_l9Moves.l0 k x3 (wrap64 (x4 + 1)))
end
def spec_l9Moves.f (k : Nat) (l0 : List S41) : Option ((List S41)) := (spec_l8Copy.f l0).bind fun bB => (spec_l9Moves.l0 k bB 0)
def spec_l9Moves.T6 : TT := (true, [([], []), ([], []), ([], []), ([], []), ([2, 3], [2, 3]), ([4], [4]), ([], []), ([], []), ([6, 7], [6, 7]), ([8], [8]), ([9], [9]), ([5, 10, 10], [5, 10]), ([0, 1, 0, 1, 2, 3, 4, 5, 6, 7, 8, 9, 10, 11], [0, 1]), ([12, 11, 11, 0, 1, 2, 3, 4, 5, 6, 7, 8, 9, 10, 11], [11, 12])])
def spec_l9Moves.B6 : List Nat := [0, 0, 0, 0, 12, 28, 0, 0, 192, 448, 960, 2044, 4095, 8191]
theorem spec_l9Moves.tab6 : rtab .any (opsOf Try.f119 6) = spec_l9Moves.T6 := by kernel_rfl
theorem spec_l9Moves.bits6 : waitsOk spec_l9Moves.T6.2 spec_l9Moves.B6 = true := by kernel_rfl
theorem spec_l9Moves.calls {k : Nat} {A0 : Option Addr} {c0 : Nat} {l0 r : List S41} {w : World} (hr0 : Kd.C k41 w A0 l0.length l0) (hc0 : l0.length ≤ c0) (h : spec_l9Moves.f k l0 = some r) :
  Calls Try.prog 119 #[.slice A0 l0.length c0] w fun e w' => ∃ c5 : Value, e = .returned (c5) ∧ Kd.R k41 41 w' w.heap.size (fun _ => True) c5 r ∧ Below w.heap.size w w' := by
 have hu41 := Try.underlying41; have HR0 := az hr0; have dG := az hc0; clear hr0 hc0; have HB := br w; have H : ((spec_l8Copy.f l0).bind fun bB => (spec_l9Moves.l0 k bB 0)) = some r := h; clear h; replace H := qH H; obtain ⟨bB, A2, H⟩ := H
 have H' := az H; clear H; go_enter Try.func119, Try.ntmps119; go_wp2_with (first | ((with_reducible refine gc 129 rfl ?_); refine gx 6 Try.func129 (spec_l8Copy.calls (qC HR0.out) dG.out A2.out) ?_; rintro c8 w3 ⟨c6, hb⟩; have bZ := lo c6 HB; replace HB := bS HB hb; clear hb))
 go_loopg [4] k (fun kq v4 w' => ∃ (a1 : List S41) (a0 : Int), v4 = .int .i64 a0 ∧ Aside0 (spec_l9Moves.l0 kq a1 a0 = some r) ∧ Aside0 (kq ≤ k) ∧ Aside0 (Kd.R k41 41 w' w.heap.size (fun _ => True) c8 a1) ∧ Aside0 (Below w.heap.size w w'))
 case atStart => exact ⟨(bB), (0), qG, H', ⟨Nat.le_refl _⟩, ⟨qR bZ⟩, ⟨qL HB⟩⟩
 case round =>
  clear H'; obtain ⟨a1, a0, rfl, HA, bC, a2, HB⟩ := hrel
  obtain ⟨k1, rfl⟩ := qz gk HA
  have H := HA.out; clear HA; simp only [spec_l9Moves.l0] at H; replace H := qc H; obtain ⟨aB, H⟩ | ⟨aB, H⟩ := H; refine ?L5; rotate_left; obtain rfl := Option.some.inj H; refine ?L6
  rotate_right
  case L5 =>
   have bR := az H; clear H; obtain ⟨dH, dI, dJ⟩ := Kd.R_slice a2.out; subst dJ
   go_upto_region 5 with (fail)
   go_cut [26] (fun dK wc => ∃ (kq : Nat) (aX : Bool), dK = .bool aX ∧ Aside0 (spec_l9Moves.j1 kq a1 a0 aX = some r) ∧ Aside0 (kq ≤ k1) ∧ Aside0 (Kd.R k41 41 wc w.heap.size (fun _ => True) (.slice dH a1.length dI) a1) ∧ Aside0 (Below w.heap.size w wc))
   case first =>
    have H := bR.out; clear bR; replace H := qd H; obtain ⟨aC, H⟩ := H; (first | rw [aC] | (simp only [i64_w, i32_w]; rw [aC]) | skip); replace H := qc H; obtain ⟨bQ, H⟩ | ⟨bQ, H⟩ := H; replace H := qH H; obtain ⟨bN, bD, H⟩ := H
    have H' := az H; clear H; refine ?L1; rotate_left; have H' := az H; clear H; refine ?L2
    rotate_right
    case' L1 | L2 =>
     obtain ⟨bF, bG, c1, c9, cJ, cK, cL, cM, cN, cO, cP, cQ, cR, cS, cA, cB⟩ := ay41 (rr a2) a0; cases c9
    case L1 =>
     obtain ⟨bH, bI, c2, cC, cT, cU, cV, cW, cX, cY, cZ, dA, dB, dC, cD, cE⟩ := ay41 (rr a2) a0; obtain rfl : c1 = c2 := (by injection cC); go_wp2_with (first | (go_at_call 81; (with_reducible refine (spec_l6Sleeps.calls bD.out).mono ?_); rintro e e0 ⟨rfl, hb⟩; replace a2 := rb a2 hb; replace HB := bS HB hb; clear hb))
     go_meet
     exact ⟨_, (!bN), qG, H', ⟨ma bC⟩, ⟨qR a2⟩, ⟨qL HB⟩⟩
    case L2 =>
     go_wp2
     go_meet
     exact ⟨_, (false), qG, H', ⟨ma bC⟩, ⟨qR a2⟩, ⟨qL HB⟩⟩
   case rest =>
    clear bR; obtain ⟨kq, aX, rfl, HA, bO, a2, HB⟩ := hcut
    obtain ⟨bT, rfl⟩ := qz kq HA
    have H := HA.out; clear HA; simp only [spec_l9Moves.j1] at H; by_cases aY : aX = true; subst aY; replace H := qT H; replace H := qd H; obtain ⟨aC, H⟩ := H; replace H := qd H; obtain ⟨aB, H⟩ := H; replace H := qH H; obtain ⟨⟨bN, dV⟩, bD, H⟩ := H
    try dsimp only at H
    replace H := qH H; obtain ⟨⟨aZ, b0, b1, b2, b3, b4, b5, b6, b7, b8, b9, bA⟩, c3, H⟩ := H
    try dsimp only at H
    obtain ⟨bP, a4⟩ : ∃ y_ : List S41, y_ = (a1.set (a0 : Int).toNat (⟨aZ, (⟨b0, b1, b2⟩ : S39), (⟨b3, b4⟩ : S33), (⟨b5, b6⟩ : S33), b7, b8, b9, bA⟩ : S41)) := ⟨_, rfl⟩
    replace H : (spec_l9Moves.l0 bT bP (wrap64 (a0 + 1))) = some r := qs H a4
    have bU := az a4; clear a4; have H' := az H; clear H; refine ?L3; rotate_left; replace aY := Bool.eq_false_iff.mpr aY; subst aY; replace H := qU H; have H' := az H; clear H; refine ?L4
    rotate_right
    case L3 =>
     try go_wp2
     replace a2 := rw_d a2; replace HB := ed HB; obtain ⟨bJ, bK, bE, cF, aD, aE, aF, aG, aH, aI, aJ, aK, aL, aM, a6, a7⟩ := ay41 (rr a2) a0; cases cF; obtain ⟨bL, bM, c4, cG, aN, aO, aP, aQ, aR, aS, aT, aU, aV, aW, a8, a9⟩ := ay41 (rr a2) a0; obtain rfl : bE = c4 := (by injection cG); refine sa 14 (fun w' => ca (bE.add ((a0).toNat * 12)) (v41 (rd_T41 a1 a0)) w' ∧ ca (bE.add ((a0).toNat * 12)) (v41 (rd_T41 a1 a0)) w') [13] ⟨⟨aD, aE, aF, aG, aH, aI, aJ, aK, aL, aM, a6, a7, trivial⟩, ⟨aN, aO, aP, aQ, aR, aS, aT, aU, aV, aW, a8, a9, trivial⟩⟩ fun Z => ?_; refine with_tabW spec_l9Moves.tab6 spec_l9Moves.bits6 fun T Y => ?_; generalize wc.drew = e1 at a2 HB aD aE a6 a7 aF aG aH aI aJ aK aL aM aN aO a8 a9 aP aQ aR aS aT aU aV aW Z ⊢; refine pz 0 27 T ?_; refine pz 1 28 T ?_; refine pz 2 29 T ?_; refine pz 3 30 T ?_; refine pz 4 31 T ?_; refine pz 6 33 T ?_; refine pz 7 34 T ?_; refine pz 8 35 T ?_; refine tz 5 32 T Y Z ?_; refine tz 9 36 T Y Z ?_
     refine oo 14 10 37 2047 T fun K hK => ?_; refine ky Try.func133 (spec_l6Speed.calls bD.out) ?_; rintro e2 hb; have HSg0_ := caB hb Z.1; have HSg1_ := caB hb Z.2; replace a2 := rb a2 hb; replace HB := bS HB hb; clear hb; refine hz hK ⟨HSg0_, HSg1_⟩ fun Z => ?_; clear hK K; refine nn 37 ?_; refine oo 14 11 38 4095 T fun K hK => ?_; refine ky Try.func132 (spec_l6Move.calls c3.out) ?_; rintro e3 hb; have HSg0_ := caB hb Z.1; have HSg1_ := caB hb Z.2; replace a2 := rb a2 hb; replace HB := bS HB hb; clear hb; have bV : 0 ≤ (a0 : Int) := qD; have bW : (a0 : Int) < ((a1.length : Int) : Int) := qD; obtain ⟨dW, dX, bX, bY, cH, cl16, HG16⟩ := Kd.R_form a2.out (by omega); (first | cases bX | (injection bX with ea_ en_ ec_; (first | subst ea_ | (injection ea_ with ea_; subst ea_)); subst ec_; clear en_)); have GB16 := az bY; have GG16 := az HG16; clear bY cH HG16; (first | simp only [add_plain] at aD | skip); (first | simp only [add_plain] at aE | skip); (first | simp only [add_plain] at aF | skip); (first | simp only [add_plain] at aG | skip); (first | simp only [add_plain] at aH | skip); (first | simp only [add_plain] at aI | skip); (first | simp only [add_plain] at aJ | skip); (first | simp only [add_plain] at aK | skip); (first | simp only [add_plain] at aL | skip); (first | simp only [add_plain] at aM | skip); (first | simp only [add_plain] at a6 | skip); (first | simp only [add_plain] at a7 | skip); (first | simp only [add_plain] at aN | skip); (first | simp only [add_plain] at aO | skip); (first | simp only [add_plain] at aP | skip); (first | simp only [add_plain] at aQ | skip); (first | simp only [add_plain] at aR | skip); (first | simp only [add_plain] at aS | skip); (first | simp only [add_plain] at aT | skip); (first | simp only [add_plain] at aU | skip); (first | simp only [add_plain] at aV | skip); (first | simp only [add_plain] at aW | skip); (first | simp only [add_plain] at a8 | skip); (first | simp only [add_plain] at a9 | skip); obtain ⟨dL, dM, dN, dO, dP, dQ, dR, dS, dT, dU, dD, dE, hf16_0, hf16_1, hf16_2, hf16_3, hf16_4, hf16_5, hf16_6, hf16_7, hf16_8, hf16_9, hf16_10, hf16_11⟩ := el41 a2.out (a0 : Int) bV bW; replace bV := eq_true bV; replace bW := eq_true bW; obtain ⟨ce20, hcl20, hM20, hcc20, hfr20⟩ := Kd.R_elem a2.out z41 (a0 : Int) (of_decide_eq_true (by first | (with_reducible assumption) | assumption)) (by have h_ : (a0 : Int) < ((a1.length : Int) : Int) := qD; first | exact h_ | (have e_ := ra a2; omega) | simpa using h_)
     obtain rfl := k41_openM hM20; have HP20 := (Kd.R_seg a2.out (a0 : Int) (of_decide_eq_true (by first | (with_reducible assumption) | assumption)) (by have h_ : (a0 : Int) < ((a1.length : Int) : Int) := qD; first | exact h_ | (have e_ := ra a2; omega) | simpa using h_) (seg := [.int .i64 aZ, .int .i64 b0, .int .i64 b1, .int .i64 b2, .int .i64 b3, .int .i64 b4, .int .i64 b5, .int .i64 b6, .int .i64 b7, .int .i64 b8, .int .i64 b9, .int .i64 bA]) (j := 0) hcl20 hcc20 (show 12 ≤ 12 from by decide) (x' := (⟨aZ, (⟨b0, b1, b2⟩ : S39), (⟨b3, b4⟩ : S33), (⟨b5, b6⟩ : S33), b7, b8, b9, bA⟩ : S41)) (k41_mkM _ _ _ (⟨aZ, (⟨b0, b1, b2⟩ : S39), (⟨b3, b4⟩ : S33), (⟨b5, b6⟩ : S33), b7, b8, b9, bA⟩ : S41) ) (fun _ hk => hk)).1; rw [← bU.out] at HP20; have HQ20 := az HP20; clear hcl20 hcc20 hfr20 hM20 HP20; refine hz hK ⟨HSg0_, HSg1_⟩ fun Z => ?_; clear hK K; refine nn 38 ?_; refine pz 12 39 T ?_; refine last_ (i := 13) (N := none) (fl 14 16383) rfl rfl (one_of T.out (by kernel_rfl)) (by decide) (fun K hK => ?_); refine sq ?_ ?_ ?_; rotate_left
     ·go_simp
      rfl
     refine hK.out _ _ ?_; clear hK K; refine dn T ?_
     try go_wp2
     go_roundg bT
     case measure => exact mb bC bO
     exact ⟨(bP), (wrap64 (a0 + 1)), qG, H', ⟨mb bC bO⟩, ⟨qR HQ20⟩, ⟨qL HB⟩⟩
    case L4 =>
     go_wp2
     go_roundg bT
     case measure => exact mb bC bO
     exact ⟨(a1), (wrap64 (a0 + 1)), qG, H', ⟨mb bC bO⟩, ⟨qR a2⟩, ⟨qL HB⟩⟩
  case L6 =>
   obtain ⟨dY, dZ, cI⟩ := Kd.R_slice a2.out; subst cI; go_wp2
   go_ret
   exact ⟨_, qE, qR a2, qL HB⟩

/-! ### spec_l9Sleep: function 120 -/
mutual
def spec_l9Sleep.l0 : Nat → List Int → List Bool → List S41 → Int → Option ((List S41))
  | 0, _, _, _, _ => none
  | k + 1, x1, x2, x7, x8 => if x8 < (x2.length : Int) then (if 0 ≤ x8 then (if rdOf false x2 x8 = true then (spec_l9Sleep.l1 k x1 x2 x7 x8 true 0) else (spec_l9Sleep.l0 k x1 x2 x7 (wrap64 (x8 + 1)))) else none) else (some x7)
def spec_l9Sleep.l1 : Nat → List Int → List Bool → List S41 → Int → Bool → Int → Option ((List S41))
  | 0, _, _, _, _, _, _ => none
  | k + 1, x1, x2, x7, x8, x9, aP => if aP < (x7.length : Int) then (if x9 = true then (if 0 ≤ aP then (if aP < (x1.length : Int) then (if (rd x1 aP) = x8 then (spec_l9Sleep.l1 k x1 x2 x7 x8 (decide (((rd_T41 x7 aP).f7) ≥ 7)) (wrap64 (aP + 1))) else (spec_l9Sleep.l1 k x1 x2 x7 x8 true (wrap64 (aP + 1)))) else none) else none) else (spec_l9Sleep.l1 k x1 x2 x7 x8 false (wrap64 (aP + 1)))) else (spec_l9Sleep.l2 k x1 x2 x7 x8 x9 0)
def spec_l9Sleep.l2 : Nat → List Int → List Bool → List S41 → Int → Bool → Int → Option ((List S41))
  | 0, _, _, _, _, _, _ => none
  | k + 1, x1, x2, x7, x8, x9, a7 => if a7 < (x7.length : Int) then (if x9 = true then (if 0 ≤ a7 then (if a7 < (x1.length : Int) then (if (rd x1 a7) = x8 then ((some (x7.set (a7 : Int).toNat (⟨(rd_T41 x7 a7).f0, (⟨(rd_T41 x7 a7).f1.f0, (rd_T41 x7 a7).f1.f1, (rd_T41 x7 a7).f1.f2⟩ : S39), (⟨(rd_T41 x7 a7).f2.f0, (rd_T41 x7 a7).f2.f1⟩ : S33), (⟨(rd_T41 x7 a7).f3.f0, (rd_T41 x7 a7).f3.f1⟩ : S33), (rd_T41 x7 a7).f4, (rd_T41 x7 a7).f5, (rd_T41 x7 a7).f6, 8⟩ : S41) : List S41)).bind fun aC => (spec_l9Sleep.l2 k x1 x2 (aC.set (a7 : Int).toNat (⟨(rd_T41 aC a7).f0, (⟨(rd_T41 aC a7).f1.f0, (rd_T41 aC a7).f1.f1, (rd_T41 aC a7).f1.f2⟩ : S39), (⟨(rd_T41 aC a7).f2.f0, (rd_T41 aC a7).f2.f1⟩ : S33), (⟨0, 0⟩ : S33), (rd_T41 aC a7).f4, (rd_T41 aC a7).f5, (rd_T41 aC a7).f6, (rd_T41 aC a7).f7⟩ : S41)) x8 x9 (wrap64 (a7 + 1)))) else (spec_l9Sleep.l2 k x1 x2 x7 x8 x9 (wrap64 (a7 + 1)))) else none) else none) else (spec_l9Sleep.l2 k x1 x2 x7 x8 x9 (wrap64 (a7 + 1)))) else (spec_l9Sleep.l0 k x1 x2 x7 (wrap64 (x8 + 1)))
end
def spec_l9Sleep.f (k : Nat) (l0 : List S41) (l1 : List Int) (l2 : List Bool) : Option ((List S41)) := (spec_l8Copy.f l0).bind fun aR => (spec_l9Sleep.l0 k l1 l2 aR 0)
theorem spec_l9Sleep.calls {k : Nat} {A0 : Option Addr} {c0 : Nat} {l0 : List S41} {A1 : Option Addr} {c1 : Nat} {l1 : List Int} {A2 : Option Addr} {c2 : Nat} {l2 : List Bool} {r : List S41} {w : World} (hr0 : Kd.C k41 w A0 l0.length l0) (hc0 : l0.length ≤ c0) (hr1 : Kd.C (Kd.int .i64) w A1 l1.length l1) (hc1 : l1.length ≤ c1) (hr2 : Kd.C Kd.bool w A2 l2.length l2) (hc2 : l2.length ≤ c2) (h : spec_l9Sleep.f k l0 l1 l2 = some r) :
  Calls Try.prog 120 #[.slice A0 l0.length c0, .slice A1 l1.length c1, .slice A2 l2.length c2] w fun e w' => ∃ bW : Value, e = .returned (bW) ∧ Kd.R k41 41 w' w.heap.size (fun _ => True) bW r ∧ Below w.heap.size w w' := by
 have hu33 := Try.underlying33; have HR0 := az hr0; have cS := az hc0; clear hr0 hc0; have HR1 := az hr1; have dS := az hc1; clear hr1 hc1; have HR2 := az hr2; have dT := az hc2; clear hr2 hc2; have HB := br w; have H : ((spec_l8Copy.f l0).bind fun aR => (spec_l9Sleep.l0 k l1 l2 aR 0)) = some r := h; clear h; replace H := qH H; obtain ⟨aR, A4, H⟩ := H
 have H' := az H; clear H; go_enter Try.func120, Try.ntmps120; go_wp2_with (first | ((with_reducible refine gc 129 rfl ?_); refine gx 13 Try.func129 (spec_l8Copy.calls (qC HR0.out) cS.out A4.out) ?_; rintro bI w5 ⟨bX, hb⟩; have bV := lo bX HB; replace HB := bS HB hb; clear hb))
 go_loopg [8] k (fun kq v8 w' => ∃ (a9 : List S41) (a5 : Int), v8 = .int .i64 a5 ∧ Aside0 (spec_l9Sleep.l0 kq l1 l2 a9 a5 = some r) ∧ Aside0 (kq ≤ k) ∧ Aside0 (Kd.R k41 41 w' w.heap.size (fun _ => True) bI a9) ∧ Aside0 (Below w.heap.size w w'))
 case atStart => exact ⟨(aR), (0), qG, H', ⟨Nat.le_refl _⟩, ⟨qR bV⟩, ⟨qL HB⟩⟩
 case round =>
  clear H'; obtain ⟨a9, a5, rfl, HA, aD, a6, HB⟩ := hrel
  obtain ⟨k1, rfl⟩ := qz gk HA
  have H := HA.out; clear HA; simp only [spec_l9Sleep.l0] at H; replace H := qc H; obtain ⟨aM, H⟩ | ⟨aM, H⟩ := H; replace H := qd H; obtain ⟨aV, H⟩ := H; obtain ⟨bq7201, hbq7201⟩ : ∃ b_ : Bool, b_ = (rdOf false l2 a5) := ⟨_, rfl⟩
  replace H : (if bq7201 = true then (spec_l9Sleep.l1 k1 l1 l2 a9 a5 true 0) else (spec_l9Sleep.l0 k1 l1 l2 a9 (wrap64 (a5 + 1)))) = some r := by rw [← hbq7201] at H; exact H
  have Nbq7201 := az hbq7201; clear hbq7201; by_cases aK : bq7201 = true; subst aK; replace H := qT H; have H' := az H; clear H; refine ?L9; rotate_left; replace aK := Bool.eq_false_iff.mpr aK; subst aK; replace H := qU H; have H' := az H; clear H; refine ?L10
  rotate_right
  rotate_left 2
  obtain rfl := Option.some.inj H; refine ?L11
  rotate_right 2
  case' L9 | L10 =>
   have b0 : 0 ≤ (a5 : Int) := qD; have b1 : a5 < (l2.length : Int) := qD; obtain ⟨dN, bY, aN⟩ := Kd.at_bool HR2.out a5 b0 b1; (try rw [← Nbq7201.out] at aN); cases bY; replace aN := hB HB aN; replace b0 := eq_true b0; replace b1 := eq_true b1; go_wp2
  case L9 =>
   go_loopg [9, 10] k1 (fun kq v9 v10 w' => ∃ (aO : Bool) (a4 : Int), v9 = .bool aO ∧ v10 = .int .i64 a4 ∧ Aside0 (spec_l9Sleep.l1 kq l1 l2 a9 a5 aO a4 = some r) ∧ Aside0 (kq ≤ k1) ∧ Aside0 (Kd.R k41 41 w' w.heap.size (fun _ => True) bI a9) ∧ Aside0 (Below w.heap.size w w'))
   case atStart => exact ⟨(true), (0), qG, qG, H', ⟨Nat.le_refl _⟩, ⟨qR a6⟩, ⟨qL HB⟩⟩
   case round =>
    clear H'; obtain ⟨aO, a4, rfl, rfl, HA, aF, a6, HB⟩ := hrel
    obtain ⟨k2, rfl⟩ := qz gk HA
    have H := HA.out; clear HA; simp only [spec_l9Sleep.l1] at H; replace H := qc H; obtain ⟨aW, H⟩ | ⟨aW, H⟩ := H; by_cases aA : aO = true; subst aA; replace H := qT H; replace H := qd H; obtain ⟨cA, H⟩ := H; replace H := qd H; obtain ⟨cB, H⟩ := H; by_cases aH : (rd l1 a4) = a5; rw [if_pos aH] at H; have bC : ((rd l1 a4) == a5) = true := beq_iff_eq.mpr aH; have bD : ((rd l1 a4) != a5) = false := bne_eq_false_iff_eq.mpr aH; clear aH; have H' := az H; clear H; refine ?L1; rotate_left; rw [if_neg aH] at H; have bC : ((rd l1 a4) == a5) = false := beq_eq_false_iff_ne.mpr aH; have bD : ((rd l1 a4) != a5) = true := bne_iff_ne.mpr aH; have H' := az H; clear H; refine ?L2
    rotate_right
    rotate_left 2
    replace aA := Bool.eq_false_iff.mpr aA; subst aA; replace H := qU H; have H' := az H; clear H; refine ?L3
    rotate_right 2
    rotate_left 3
    have H' := az H; clear H; refine ?L8
    rotate_right 3
    case' L1 | L2 | L3 | L8 =>
     obtain ⟨bZ, aS, c3⟩ := Kd.R_slice a6.out; subst c3
    case' L1 | L2 =>
     obtain ⟨b2, b3, dO, c4, aX⟩ := ayi HR1.out a4; cases c4; replace aX := hB HB aX
    case L1 =>
     obtain ⟨b4, b5, dP, c5, cC, cD, cE, cF, cG, cH, cI, cJ, cK, cL, c6, c7⟩ := ay41 (rr a6) a4; cases c5; go_wp2
     go_roundg k2
     case measure => exact mb aD aF
     exact ⟨(decide (((rd_T41 a9 a4).f7) ≥ 7)), (wrap64 (a4 + 1)), qG, qG, H', ⟨mb aD aF⟩, ⟨qR a6⟩, ⟨qL HB⟩⟩
    case L2 =>
     go_wp2
     go_roundg k2
     case measure => exact mb aD aF
     exact ⟨(true), (wrap64 (a4 + 1)), qG, qG, H', ⟨mb aD aF⟩, ⟨qR a6⟩, ⟨qL HB⟩⟩
    case' L3 | L8 =>
     go_wp2
    case L3 =>
     go_roundg k2
     case measure => exact mb aD aF
     exact ⟨(false), (wrap64 (a4 + 1)), qG, qG, H', ⟨mb aD aF⟩, ⟨qR a6⟩, ⟨qL HB⟩⟩
    case L8 =>
     go_loopg [11] k2 (fun kq v11 w' => ∃ (a2 : List S41) (a0 : Int), v11 = .int .i64 a0 ∧ Aside0 (spec_l9Sleep.l2 kq l1 l2 a2 a5 aO a0 = some r) ∧ Aside0 (kq ≤ k2) ∧ Aside0 (Kd.R k41 41 w' w.heap.size (fun _ => True) (.slice bZ a9.length aS) a2) ∧ Aside0 (Below w.heap.size w w'))
     case atStart => exact ⟨(a9), (0), qG, H', ⟨Nat.le_refl _⟩, ⟨qR a6⟩, ⟨qL HB⟩⟩
     case round =>
      clear H'; obtain ⟨a2, a0, rfl, HA, aT, a6, HB⟩ := hrel; have aB := ra a6; rw [aB] at a6; (try simp only [aB])
      obtain ⟨k3, rfl⟩ := qz gk HA
      have H := HA.out; clear HA; simp only [spec_l9Sleep.l2] at H; replace H := qc H; obtain ⟨bE, H⟩ | ⟨bE, H⟩ := H; by_cases aA : aO = true; subst aA; replace H := qT H; replace H := qd H; obtain ⟨cM, H⟩ := H; replace H := qd H; obtain ⟨cN, H⟩ := H; by_cases aI : (rd l1 a0) = a5; rw [if_pos aI] at H; have bF : ((rd l1 a0) == a5) = true := beq_iff_eq.mpr aI; have bG : ((rd l1 a0) != a5) = false := bne_eq_false_iff_eq.mpr aI; clear aI; obtain ⟨a1, aU⟩ : ∃ y_ : List S41, y_ = (a2.set (a0 : Int).toNat (⟨(rd_T41 a2 a0).f0, (⟨(rd_T41 a2 a0).f1.f0, (rd_T41 a2 a0).f1.f1, (rd_T41 a2 a0).f1.f2⟩ : S39), (⟨(rd_T41 a2 a0).f2.f0, (rd_T41 a2 a0).f2.f1⟩ : S33), (⟨(rd_T41 a2 a0).f3.f0, (rd_T41 a2 a0).f3.f1⟩ : S33), (rd_T41 a2 a0).f4, (rd_T41 a2 a0).f5, (rd_T41 a2 a0).f6, 8⟩ : S41)) := ⟨_, rfl⟩; (try replace H := qW H); (try dsimp only at H); (try rw [← aU] at H); have bJ := az aU; clear aU; obtain ⟨aZ, aJ⟩ : ∃ y_ : List S41, y_ = (a1.set (a0 : Int).toNat (⟨(rd_T41 a1 a0).f0, (⟨(rd_T41 a1 a0).f1.f0, (rd_T41 a1 a0).f1.f1, (rd_T41 a1 a0).f1.f2⟩ : S39), (⟨(rd_T41 a1 a0).f2.f0, (rd_T41 a1 a0).f2.f1⟩ : S33), (⟨0, 0⟩ : S33), (rd_T41 a1 a0).f4, (rd_T41 a1 a0).f5, (rd_T41 a1 a0).f6, (rd_T41 a1 a0).f7⟩ : S41)) := ⟨_, rfl⟩
      replace H : (spec_l9Sleep.l2 k3 l1 l2 aZ a5 true (wrap64 (a0 + 1))) = some r := qs H aJ
      have bK := az aJ; clear aJ; have H' := az H; clear H; refine ?L4; rotate_left; rw [if_neg aI] at H; have bF : ((rd l1 a0) == a5) = false := beq_eq_false_iff_ne.mpr aI; have bG : ((rd l1 a0) != a5) = true := bne_iff_ne.mpr aI; have H' := az H; clear H; refine ?L5
      rotate_right
      rotate_left 2
      replace aA := Bool.eq_false_iff.mpr aA; subst aA; replace H := qU H; have H' := az H; clear H; refine ?L6
      rotate_right 2
      rotate_left 3
      have H' := az H; clear H; refine ?L7
      rotate_right 3
      case' L4 | L5 =>
       obtain ⟨b6, b7, dQ, c8, aY⟩ := ayi HR1.out a0; cases c8; replace aY := hB HB aY
      case L4 =>
       have bL : 0 ≤ (a0 : Int) := qD; have bM : (a0 : Int) < ((a2.length : Int) : Int) := qD; obtain ⟨a3, dR, bN, bO, c9, cl24, HG24⟩ := Kd.R_form a6.out (by omega); (first | cases bN | (injection bN with ea_ en_ ec_; (first | subst ea_ | (injection ea_ with ea_; subst ea_)); subst ec_; clear en_)); have GB24 := az bO; have GG24 := az HG24; clear bO c9 HG24; obtain ⟨cT, cU, cV, cW, cX, cY, cZ, dA, dB, dC, cO, cP, hf24_0, hf24_1, hf24_2, hf24_3, hf24_4, hf24_5, hf24_6, hf24_7, hf24_8, hf24_9, hf24_10, hf24_11⟩ := el41 a6.out (a0 : Int) bL bM; replace bL := eq_true bL; replace bM := eq_true bM; have HX26 := az (show Kd.R k41 41 wr w.heap.size (fun _ => True) (.slice (some ⟨a3, 0, none⟩) a2.length aS) a2 from (qR a6)); obtain ⟨ce26, hcl26, hM26, hcc26, hfr26⟩ := Kd.R_elem HX26.out z41 (a0 : Int) (of_decide_eq_true (by first | (with_reducible assumption) | assumption)) (by have h_ : (a0 : Int) < ((a2.length : Int) : Int) := qD; first | exact h_ | (have e_ := ra a6; omega) | simpa using h_); obtain rfl := k41_openM hM26; have HP26 := Kd.R_seg HX26.out (a0 : Int) (of_decide_eq_true (by first | (with_reducible assumption) | assumption)) (by have h_ : (a0 : Int) < ((a2.length : Int) : Int) := qD; first | exact h_ | (have e_ := ra a6; omega) | simpa using h_) (seg := [.int .i64 8]) (j := 11) hcl26 hcc26 (show 12 ≤ 12 from by decide) (x' := (⟨(rd_T41 a2 a0).f0, (⟨(rd_T41 a2 a0).f1.f0, (rd_T41 a2 a0).f1.f1, (rd_T41 a2 a0).f1.f2⟩ : S39), (⟨(rd_T41 a2 a0).f2.f0, (rd_T41 a2 a0).f2.f1⟩ : S33), (⟨(rd_T41 a2 a0).f3.f0, (rd_T41 a2 a0).f3.f1⟩ : S33), (rd_T41 a2 a0).f4, (rd_T41 a2 a0).f5, (rd_T41 a2 a0).f6, 8⟩ : S41)) (k41_mkM _ _ _ (⟨(rd_T41 a2 a0).f0, (⟨(rd_T41 a2 a0).f1.f0, (rd_T41 a2 a0).f1.f1, (rd_T41 a2 a0).f1.f2⟩ : S39), (⟨(rd_T41 a2 a0).f2.f0, (rd_T41 a2 a0).f2.f1⟩ : S33), (⟨(rd_T41 a2 a0).f3.f0, (rd_T41 a2 a0).f3.f1⟩ : S33), (rd_T41 a2 a0).f4, (rd_T41 a2 a0).f5, (rd_T41 a2 a0).f6, 8⟩ : S41) ) (fun _ hk => hk); have bH := hcc26 11 _ rfl; (try simp only [show (k41).sz = 12 from rfl, Nat.mul_one, Nat.add_zero] at bH); have hf26_11 := hfr26 11; (try simp only [show (k41).sz = 12 from rfl, Nat.mul_one, Nat.add_zero] at hf26_11); clear hcl26 hcc26 hfr26 hM26; go_wp2_with (first | ((with_reducible refine gs 3 66 rfl ?_); refine sw 3 66 (wr.setCell ⟨a3, (a0 : Int).toNat * 12 + 11, none⟩ (.int .i64 8)) ?_; intro a8 hw; have hg : wr.grownBy a8 (some a3) := (by rw [hw]; exact HP26.2); have hp_ : Kd.R k41 41 a8 w.heap.size (fun _ => True) (.slice (some ⟨a3, 0, none⟩) a2.length aS) a1 := (by rw [hw, bJ.out]; exact HP26.1); clear HP26; replace a6 := az (hp_); replace HB := az ((by rw [hw]; exact below_set (HB.out) GB24.out : Below w.heap.size w a8)); clear hg hw hp_; have bP : 0 ≤ (a0 : Int) := qD; have bQ : (a0 : Int) < ((a2.length : Int) : Int) := qD; obtain ⟨ce25, hcl25, hM25, hcc25, hfr25⟩ := Kd.R_elem a6.out z41 (a0 : Int) bP bQ; obtain rfl := k41_openM hM25; obtain ⟨dD, dE, dF, dG, dH, dI, dJ, dK, dL, dM, cQ, cR, hf25_0, hf25_1, hf25_2, hf25_3, hf25_4, hf25_5, hf25_6, hf25_7, hf25_8, hf25_9, hf25_10, hf25_11⟩ := el41 a6.out (a0 : Int) bP bQ; clear hcl25 hcc25 hfr25 hM25; replace bP := eq_true bP; replace bQ := eq_true bQ; have HX28 := az (show Kd.R k41 41 a8 w.heap.size (fun _ => True) (.slice (some ⟨a3, 0, none⟩) a2.length aS) a1 from (qR a6)); obtain ⟨ce28, hcl28, hM28, hcc28, hfr28⟩ := Kd.R_elem HX28.out z41 (a0 : Int) (of_decide_eq_true (by first | (with_reducible assumption) | assumption)) (by have h_ : (a0 : Int) < ((a2.length : Int) : Int) := qD; first | exact h_ | (have e_ := ra a6; omega) | simpa using h_); obtain rfl := k41_openM hM28; have HP28 := Kd.R_seg HX28.out (a0 : Int) (of_decide_eq_true (by first | (with_reducible assumption) | assumption)) (by have h_ : (a0 : Int) < ((a2.length : Int) : Int) := qD; first | exact h_ | (have e_ := ra a6; omega) | simpa using h_) (seg := [.int .i64 0, .int .i64 0]) (j := 6) hcl28 hcc28 (show 8 ≤ 12 from by decide) (x' := (⟨(rd_T41 a1 a0).f0, (⟨(rd_T41 a1 a0).f1.f0, (rd_T41 a1 a0).f1.f1, (rd_T41 a1 a0).f1.f2⟩ : S39), (⟨(rd_T41 a1 a0).f2.f0, (rd_T41 a1 a0).f2.f1⟩ : S33), (⟨0, 0⟩ : S33), (rd_T41 a1 a0).f4, (rd_T41 a1 a0).f5, (rd_T41 a1 a0).f6, (rd_T41 a1 a0).f7⟩ : S41)) (k41_mkM _ _ _ (⟨(rd_T41 a1 a0).f0, (⟨(rd_T41 a1 a0).f1.f0, (rd_T41 a1 a0).f1.f1, (rd_T41 a1 a0).f1.f2⟩ : S39), (⟨(rd_T41 a1 a0).f2.f0, (rd_T41 a1 a0).f2.f1⟩ : S33), (⟨0, 0⟩ : S33), (rd_T41 a1 a0).f4, (rd_T41 a1 a0).f5, (rd_T41 a1 a0).f6, (rd_T41 a1 a0).f7⟩ : S41) ) (fun _ hk => hk); have bR := hcc28 6 _ rfl; (try simp only [show (k41).sz = 12 from rfl, Nat.mul_one, Nat.add_zero] at bR); have hf28_6 := hfr28 6; (try simp only [show (k41).sz = 12 from rfl, Nat.mul_one, Nat.add_zero] at hf28_6); have bT := hcc28 7 _ rfl; (try simp only [show (k41).sz = 12 from rfl, Nat.mul_one, Nat.add_zero] at bT); have hf28_7 := hfr28 7; (try simp only [show (k41).sz = 12 from rfl, Nat.mul_one, Nat.add_zero] at hf28_7); clear hcl28 hcc28 hfr28 hM28) | ((with_reducible refine gs 33 71 rfl ?_); refine sw 33 71 ((a8.setCell ⟨a3, (a0 : Int).toNat * 12 + 6, none⟩ (.int .i64 0)).setCell ⟨a3, (a0 : Int).toNat * 12 + 7, none⟩ (.int .i64 0)) ?_; intro bU hw; have hg : a8.grownBy bU (some a3) := (by rw [hw]; exact HP28.2); have hp_ : Kd.R k41 41 bU w.heap.size (fun _ => True) (.slice (some ⟨a3, 0, none⟩) a2.length aS) aZ := (by rw [hw, bK.out]; exact HP28.1); clear HP28; replace a6 := az (hp_); replace HB := az ((by rw [hw]; exact below_set (below_set (HB.out) GB24.out) GB24.out : Below w.heap.size w bU)); clear hg hw hp_))
       (try simp only [← aB])
       go_roundg k3
       case measure => exact mc aD aF aT
       exact ⟨(aZ), (wrap64 (a0 + 1)), qG, H', ⟨mc aD aF aT⟩, ⟨by (try simp only [aB]); (with_reducible repeat (first | apply Kd.R_alloc | apply Kd.R_drewN | apply Kd.R_drew)); exact a6.out⟩, ⟨qL HB⟩⟩
      case L5 =>
       go_wp2; (try simp only [← aB])
       go_roundg k3
       case measure => exact mc aD aF aT
       exact ⟨(a2), (wrap64 (a0 + 1)), qG, H', ⟨mc aD aF aT⟩, ⟨by (try simp only [aB]); (with_reducible repeat (first | apply Kd.R_alloc | apply Kd.R_drewN | apply Kd.R_drew)); exact a6.out⟩, ⟨qL HB⟩⟩
      case' L6 | L7 =>
       go_wp2; (try simp only [← aB])
       go_roundg k3
       case measure => exact mc aD aF aT
      case L6 =>
       exact ⟨(a2), (wrap64 (a0 + 1)), qG, H', ⟨mc aD aF aT⟩, ⟨by (try simp only [aB]); (with_reducible repeat (first | apply Kd.R_alloc | apply Kd.R_drewN | apply Kd.R_drew)); exact a6.out⟩, ⟨qL HB⟩⟩
      case L7 =>
       exact ⟨(a2), (wrap64 (a5 + 1)), qG, H', ⟨mc aD aF aT⟩, ⟨by (try simp only [aB]); (with_reducible repeat (first | apply Kd.R_alloc | apply Kd.R_drewN | apply Kd.R_drew)); exact a6.out⟩, ⟨qL HB⟩⟩
  case L10 =>
   go_roundg k1
   case measure => exact ma aD
   exact ⟨(a9), (wrap64 (a5 + 1)), qG, H', ⟨ma aD⟩, ⟨qR a6⟩, ⟨qL HB⟩⟩
  case L11 =>
   go_wp2
   go_ret
   exact ⟨_, qE, qR a6, qL HB⟩

/-! ### spec_l9Quiet: function 121 -/
mutual
def spec_l9Quiet.l0 : Nat → List S41 → List S41 → Int → Option ((List S41))
  | 0, _, _, _ => none
  | k + 1, x1, x5, x6 => if x6 < (x5.length : Int) then (if 0 ≤ x6 then (if ((rd_T41 x5 x6).f4) = 0 then (spec_l9Quiet.j1 k x1 x5 x6 true) else ((spec_l6Sleeps.f ((rd_T41 x5 x6).f0) ((rd_T41 x5 x6).f1.f0) ((rd_T41 x5 x6).f1.f1) ((rd_T41 x5 x6).f1.f2) ((rd_T41 x5 x6).f2.f0) ((rd_T41 x5 x6).f2.f1) ((rd_T41 x5 x6).f3.f0) ((rd_T41 x5 x6).f3.f1) ((rd_T41 x5 x6).f4) ((rd_T41 x5 x6).f5) ((rd_T41 x5 x6).f6) ((rd_T41 x5 x6).f7)).bind fun dB => (spec_l9Quiet.j1 k x1 x5 x6 dB))) else none) else (some x5)
def spec_l9Quiet.j1 : Nat → List S41 → List S41 → Int → Bool → Option ((List S41))
  | 0, _, _, _, _ => none
  | k + 1, x1, x5, x6, eL => if eL = true then (spec_l9Quiet.l0 k x1 x5 (wrap64 (x6 + 1))) else (if 0 ≤ x6 then (if x6 < (x5.length : Int) then ((spec_l6Speed.f ((rd_T41 x5 x6).f0) ((rd_T41 x5 x6).f1.f0) ((rd_T41 x5 x6).f1.f1) ((rd_T41 x5 x6).f1.f2) ((rd_T41 x5 x6).f2.f0) ((rd_T41 x5 x6).f2.f1) ((rd_T41 x5 x6).f3.f0) ((rd_T41 x5 x6).f3.f1) ((rd_T41 x5 x6).f4) ((rd_T41 x5 x6).f5) ((rd_T41 x5 x6).f6) ((rd_T41 x5 x6).f7)).bind fun bt608 => ((some (x5.set (x6 : Int).toNat (⟨(rd_T41 x5 x6).f0, (⟨(rd_T41 x5 x6).f1.f0, (rd_T41 x5 x6).f1.f1, (rd_T41 x5 x6).f1.f2⟩ : S39), (⟨(rd_T41 x5 x6).f2.f0, (rd_T41 x5 x6).f2.f1⟩ : S33), (⟨(rd_T41 x5 x6).f3.f0, (rd_T41 x5 x6).f3.f1⟩ : S33), (rd_T41 x5 x6).f4, (rd_T41 x5 x6).f5, (rd_T41 x5 x6).f6, 0⟩ : S41) : List S41)).bind fun aB => ((spec_l1In.f bt608.1 (-8) 8).bind fun dC => (if dC = true then ((spec_l1In.f bt608.2 (-8) 8).bind fun dD => (if dD = true then (if x6 < (x1.length : Int) then ((spec_l3Less.f (wrap64 (((rd_T41 x1 x6).f7) + 1)) 7).bind fun dE => (spec_l9Quiet.l0 k x1 (aB.set (x6 : Int).toNat (⟨(rd_T41 aB x6).f0, (⟨(rd_T41 aB x6).f1.f0, (rd_T41 aB x6).f1.f1, (rd_T41 aB x6).f1.f2⟩ : S39), (⟨(rd_T41 aB x6).f2.f0, (rd_T41 aB x6).f2.f1⟩ : S33), (⟨(rd_T41 aB x6).f3.f0, (rd_T41 aB x6).f3.f1⟩ : S33), (rd_T41 aB x6).f4, (rd_T41 aB x6).f5, (rd_T41 aB x6).f6, dE⟩ : S41)) (wrap64 (x6 + 1)))) else none) else (spec_l9Quiet.l0 k x1 aB (wrap64 (x6 + 1))))) else (spec_l9Quiet.l0 k x1 aB (wrap64 (x6 + 1))))))) else none) else none)
end
def spec_l9Quiet.f (k : Nat) (l0 l1 : List S41) : Option ((List S41)) := (spec_l8Copy.f l0).bind fun aR => (spec_l9Quiet.l0 k l1 aR 0)
theorem spec_l9Quiet.calls {k : Nat} {A0 : Option Addr} {c0 : Nat} {l0 : List S41} {A1 : Option Addr} {c1 : Nat} {l1 r : List S41} {w : World} (hr0 : Kd.C k41 w A0 l0.length l0) (hc0 : l0.length ≤ c0) (hr1 : Kd.C k41 w A1 l1.length l1) (hc1 : l1.length ≤ c1) (h : spec_l9Quiet.f k l0 l1 = some r) :
  Calls Try.prog 121 #[.slice A0 l0.length c0, .slice A1 l1.length c1] w fun e w' => ∃ cZ : Value, e = .returned (cZ) ∧ Kd.R k41 41 w' w.heap.size (fun _ => True) cZ r ∧ Below w.heap.size w w' := by
 have hu41 := Try.underlying41; have hu33 := Try.underlying33; have HR0 := az hr0; have eM := az hc0; clear hr0 hc0; have HR1 := az hr1; have fG := az hc1; clear hr1 hc1; have HB := br w; have H : ((spec_l8Copy.f l0).bind fun aR => (spec_l9Quiet.l0 k l1 aR 0)) = some r := h; clear h; replace H := qH H; obtain ⟨aR, A3, H⟩ := H
 have H' := az H; clear H; go_enter Try.func121, Try.ntmps121; go_wp2_with (first | ((with_reducible refine gc 129 rfl ?_); refine gx 9 Try.func129 (spec_l8Copy.calls (qC HR0.out) eM.out A3.out) ?_; rintro dF w4 ⟨dA, hb⟩; have cS := lo dA HB; replace HB := bS HB hb; clear hb))
 go_loopg [6] k (fun kq v6 w' => ∃ (a1 : List S41) (a0 : Int), v6 = .int .i64 a0 ∧ Aside0 (spec_l9Quiet.l0 kq l1 a1 a0 = some r) ∧ Aside0 (kq ≤ k) ∧ Aside0 (Kd.R k41 41 w' w.heap.size (fun _ => True) dF a1) ∧ Aside0 (Below w.heap.size w w'))
 case atStart => exact ⟨(aR), (0), qG, H', ⟨Nat.le_refl _⟩, ⟨qR cS⟩, ⟨qL HB⟩⟩
 case round =>
  clear H'; obtain ⟨a1, a0, rfl, HA, aH, a4, HB⟩ := hrel
  obtain ⟨k1, rfl⟩ := qz gk HA
  have H := HA.out; clear HA; simp only [spec_l9Quiet.l0] at H; replace H := qc H; obtain ⟨aK, H⟩ | ⟨aK, H⟩ := H; refine ?L7; rotate_left; obtain rfl := Option.some.inj H; refine ?L8
  rotate_right
  case L7 =>
   have cC := az H; clear H; obtain ⟨eN, aF, eO⟩ := Kd.R_slice a4.out; subst eO
   go_upto_region 5 with (fail)
   go_cut [28] (fun eP wc => ∃ (kq : Nat) (aM : Bool), eP = .bool aM ∧ Aside0 (spec_l9Quiet.j1 kq l1 a1 a0 aM = some r) ∧ Aside0 (kq ≤ k1) ∧ Aside0 (Kd.R k41 41 wc w.heap.size (fun _ => True) (.slice eN a1.length aF) a1) ∧ Aside0 (Below w.heap.size w wc))
   case first =>
    have H := cC.out; clear cC; replace H := qd H; obtain ⟨aL, H⟩ := H; (first | rw [aL] | (simp only [i64_w, i32_w]; rw [aL]) | skip); by_cases aE : ((rd_T41 a1 a0).f4) = 0; rw [if_pos aE] at H; have c5 : (((rd_T41 a1 a0).f4) == 0) = true := beq_iff_eq.mpr aE; have c6 : (((rd_T41 a1 a0).f4) != 0) = false := bne_eq_false_iff_eq.mpr aE; clear aE; have H' := az H; clear H; refine ?L1; rotate_left; rw [if_neg aE] at H; have c5 : (((rd_T41 a1 a0).f4) == 0) = false := beq_eq_false_iff_ne.mpr aE; have c6 : (((rd_T41 a1 a0).f4) != 0) = true := bne_iff_ne.mpr aE; replace H := qH H; obtain ⟨aA, aN, H⟩ := H
    have H' := az H; clear H; refine ?L2
    rotate_right
    case' L1 | L2 =>
     obtain ⟨bP, bQ, cT, dG, dQ, dR, dS, dT, dU, dV, dW, dX, dY, dZ, dH, dI⟩ := ay41 (rr a4) a0; cases dG
    case L1 =>
     go_wp2
     go_meet
     exact ⟨_, (true), qG, H', ⟨ma aH⟩, ⟨qR a4⟩, ⟨qL HB⟩⟩
    case L2 =>
     obtain ⟨bR, bT, cU, dJ, e0, e1, e2, e3, e4, e5, e6, e7, e8, e9, dK, dL⟩ := ay41 (rr a4) a0; obtain rfl : cT = cU := (by injection dJ); go_wp2_with (first | (go_at_call 81; (with_reducible refine (spec_l6Sleeps.calls aN.out).mono ?_); rintro e fH ⟨rfl, hb⟩; replace a4 := rb a4 hb; replace HB := bS HB hb; clear hb))
     go_meet
     exact ⟨_, (aA), qG, H', ⟨ma aH⟩, ⟨qR a4⟩, ⟨qL HB⟩⟩
   case rest =>
    clear cC; obtain ⟨kq, aM, rfl, HA, aS, a4, HB⟩ := hcut
    obtain ⟨bZ, rfl⟩ := qz kq HA
    have H := HA.out; clear HA; simp only [spec_l9Quiet.j1] at H; by_cases aO : aM = true; subst aO; replace H := qT H; have H' := az H; clear H; refine ?L3; rotate_left; replace aO := Bool.eq_false_iff.mpr aO; subst aO; replace H := qU H; replace H := qd H; obtain ⟨aL, H⟩ := H; replace H := qd H; obtain ⟨aK, H⟩ := H; replace H := qH H; obtain ⟨⟨aA, aD⟩, aN, H⟩ := H
    try dsimp only at H
    obtain ⟨a3, aT⟩ : ∃ y_ : List S41, y_ = (a1.set (a0 : Int).toNat (⟨(rd_T41 a1 a0).f0, (⟨(rd_T41 a1 a0).f1.f0, (rd_T41 a1 a0).f1.f1, (rd_T41 a1 a0).f1.f2⟩ : S39), (⟨(rd_T41 a1 a0).f2.f0, (rd_T41 a1 a0).f2.f1⟩ : S33), (⟨(rd_T41 a1 a0).f3.f0, (rd_T41 a1 a0).f3.f1⟩ : S33), (rd_T41 a1 a0).f4, (rd_T41 a1 a0).f5, (rd_T41 a1 a0).f6, 0⟩ : S41)) := ⟨_, rfl⟩; (try replace H := qW H); (try dsimp only at H); (try rw [← aT] at H); have bO := az aT; clear aT; replace H := qH H; obtain ⟨cV, bM, H⟩ := H
    by_cases aP : cV = true; subst aP; replace H := qT H; replace H := qH H; obtain ⟨cW, c2, H⟩ := H
    by_cases aQ : cW = true; subst aQ; replace H := qT H; replace H := qd H; obtain ⟨eA, H⟩ := H; replace H := qH H; obtain ⟨aJ, cX, H⟩ := H
    obtain ⟨bN, aG⟩ : ∃ y_ : List S41, y_ = (a3.set (a0 : Int).toNat (⟨(rd_T41 a3 a0).f0, (⟨(rd_T41 a3 a0).f1.f0, (rd_T41 a3 a0).f1.f1, (rd_T41 a3 a0).f1.f2⟩ : S39), (⟨(rd_T41 a3 a0).f2.f0, (rd_T41 a3 a0).f2.f1⟩ : S33), (⟨(rd_T41 a3 a0).f3.f0, (rd_T41 a3 a0).f3.f1⟩ : S33), (rd_T41 a3 a0).f4, (rd_T41 a3 a0).f5, (rd_T41 a3 a0).f6, aJ⟩ : S41)) := ⟨_, rfl⟩
    replace H : (spec_l9Quiet.l0 bZ l1 bN (wrap64 (a0 + 1))) = some r := qs H aG
    have cD := az aG; clear aG; have H' := az H; clear H; refine ?L4; rotate_left; replace aQ := Bool.eq_false_iff.mpr aQ; subst aQ; replace H := qU H; have H' := az H; clear H; refine ?L5
    rotate_right
    rotate_left 2
    replace aP := Bool.eq_false_iff.mpr aP; subst aP; replace H := qU H; have H' := az H; clear H; refine ?L6
    rotate_right 2
    rotate_right
    case L3 =>
     go_wp2
     go_roundg bZ
     case measure => exact mb aH aS
     exact ⟨(a1), (wrap64 (a0 + 1)), qG, H', ⟨mb aH aS⟩, ⟨qR a4⟩, ⟨qL HB⟩⟩
    case' L4 | L5 | L6 =>
     obtain ⟨bU, bV, c4, dM, b2, b3, b4, b5, b6, b7, b8, b9, bA, bB, aU, aV⟩ := ay41 (rr a4) a0; cases dM
    case' L4 | L6 =>
     go_wp2_with (first | ((with_reducible refine gc 133 rfl ?_); refine gr 33 Try.func133 (spec_l6Speed.calls aN.out) ?_; rintro fI hb; replace a4 := rb a4 hb; replace HB := bS HB hb; clear hb) | ((with_reducible refine gd 7 rfl ?_); refine bz2 7 33 ?_; intro a9 hg eQ a5 hb; have cY := se hg HB; replace a4 := rb a4 hb; replace HB := bS HB hb; clear hb hg; have hcz26_c := cz2 a5.out; have eB := blk_frozen a5.out 0; have eC := blk_frozen a5.out 1) | ((with_reducible refine gs 33 7 rfl ?_); refine sw 33 7 ((eQ.setCell ⟨a9, 0, none⟩ (.int .i64 aA)).setCell ⟨a9, 1, none⟩ (.int .i64 aD)) ?_; intro a7 hw; have n0_ : Aside0 (Kd.R k41 41 a7 w.heap.size (fun _ => True) (.slice (some c4) a1.length aF) a1) := ⟨(by rw [hw]; exact (qS a4 a5))⟩; have n1_ : Aside0 (a7.heap[a9]? = some (.cells #[.int .i64 aA, .int .i64 aD] 33 (0, 0))) := ⟨(by rw [hw]; exact (qP a5))⟩; have n2_ : Aside0 (Below w.heap.size w a7) := ⟨(by rw [hw]; exact (qL HB))⟩; clear hw a4 a5 HB; have a4 := n0_; have a5 := n1_; have HB := n2_; clear n0_ n1_ n2_; have aW : 0 ≤ (a0 : Int) := qD; have aX : (a0 : Int) < ((a1.length : Int) : Int) := qD; obtain ⟨a2, dN, aY, aZ, bW, cl16, HG16⟩ := Kd.R_form a4.out (by omega); (first | cases aY | (injection aY with ea_ en_ ec_; (first | subst ea_ | (injection ea_ with ea_; subst ea_)); subst ec_; clear en_)); have GB16 := az aZ; have GG16 := az HG16; clear aZ bW HG16; (first | simp only [add_plain] at b2 | skip); (first | simp only [add_plain] at b3 | skip); (first | simp only [add_plain] at b4 | skip); (first | simp only [add_plain] at b5 | skip); (first | simp only [add_plain] at b6 | skip); (first | simp only [add_plain] at b7 | skip); (first | simp only [add_plain] at b8 | skip); (first | simp only [add_plain] at b9 | skip); (first | simp only [add_plain] at bA | skip); (first | simp only [add_plain] at bB | skip); (first | simp only [add_plain] at aU | skip); (first | simp only [add_plain] at aV | skip); obtain ⟨ce16, hcl16, hM16, hcc16, hfr16⟩ := Kd.R_elem a4.out z41 (a0 : Int) aW aX; obtain rfl := k41_openM hM16; obtain ⟨cE, cF, cG, cH, cI, cJ, cK, cL, cM, cN, c7, c8, hf16_0, hf16_1, hf16_2, hf16_3, hf16_4, hf16_5, hf16_6, hf16_7, hf16_8, hf16_9, hf16_10, hf16_11⟩ := el41 a4.out (a0 : Int) aW aX; clear hcl16 hcc16 hfr16 hM16; replace aW := eq_true aW; replace aX := eq_true aX; have HX28 := az (show Kd.R k41 41 a7 w.heap.size (fun _ => True) (.slice (some ⟨a2, 0, none⟩) a1.length aF) a1 from (qR a4)); obtain ⟨ce28, hcl28, hM28, hcc28, hfr28⟩ := Kd.R_elem HX28.out z41 (a0 : Int) (of_decide_eq_true (by first | (with_reducible assumption) | assumption)) (by have h_ : (a0 : Int) < ((a1.length : Int) : Int) := qD; first | exact h_ | (have e_ := ra a4; omega) | simpa using h_); obtain rfl := k41_openM hM28; have HP28 := Kd.R_seg HX28.out (a0 : Int) (of_decide_eq_true (by first | (with_reducible assumption) | assumption)) (by have h_ : (a0 : Int) < ((a1.length : Int) : Int) := qD; first | exact h_ | (have e_ := ra a4; omega) | simpa using h_) (seg := [.int .i64 0]) (j := 11) hcl28 hcc28 (show 12 ≤ 12 from by decide) (x' := (⟨(rd_T41 a1 a0).f0, (⟨(rd_T41 a1 a0).f1.f0, (rd_T41 a1 a0).f1.f1, (rd_T41 a1 a0).f1.f2⟩ : S39), (⟨(rd_T41 a1 a0).f2.f0, (rd_T41 a1 a0).f2.f1⟩ : S33), (⟨(rd_T41 a1 a0).f3.f0, (rd_T41 a1 a0).f3.f1⟩ : S33), (rd_T41 a1 a0).f4, (rd_T41 a1 a0).f5, (rd_T41 a1 a0).f6, 0⟩ : S41)) (k41_mkM _ _ _ (⟨(rd_T41 a1 a0).f0, (⟨(rd_T41 a1 a0).f1.f0, (rd_T41 a1 a0).f1.f1, (rd_T41 a1 a0).f1.f2⟩ : S39), (⟨(rd_T41 a1 a0).f2.f0, (rd_T41 a1 a0).f2.f1⟩ : S33), (⟨(rd_T41 a1 a0).f3.f0, (rd_T41 a1 a0).f3.f1⟩ : S33), (rd_T41 a1 a0).f4, (rd_T41 a1 a0).f5, (rd_T41 a1 a0).f6, 0⟩ : S41) ) (fun _ hk => hk); have c9 := hcc28 11 _ rfl; (try simp only [show (k41).sz = 12 from rfl, Nat.mul_one, Nat.add_zero] at c9); have hf28_11 := hfr28 11; (try simp only [show (k41).sz = 12 from rfl, Nat.mul_one, Nat.add_zero] at hf28_11); clear hcl28 hcc28 hfr28 hM28) | ((with_reducible refine gs 3 37 rfl ?_); refine sw 3 37 (a7.setCell ⟨a2, (a0 : Int).toNat * 12 + 11, none⟩ (.int .i64 0)) ?_; intro a6 hw; have hg : a7.grownBy a6 (some a2) := (by rw [hw]; exact HP28.2); have hp_ : Kd.R k41 41 a6 w.heap.size (fun _ => True) (.slice (some ⟨a2, 0, none⟩) a1.length aF) a3 := (by rw [hw, bO.out]; exact HP28.1); clear HP28; replace a5 := az (blk_grown (g := a9) (o := .cells #[.int .i64 aA, .int .i64 aD] 33 (0, 0)) (qB a5) hg (Kd.R_ne a4.out a5.out (by decide))); replace a4 := az (hp_); replace HB := az ((by rw [hw]; exact below_set (HB.out) GB16.out : Below w.heap.size w a6)); clear hg hw hp_; have hcz30_c := cz2 a5.out; have eD := blk_frozen a5.out 0; have eE := blk_frozen a5.out 1) | ((with_reducible refine gc 77 rfl ?_); refine gr 40 Try.func77 (spec_l1In.calls (r := true) bM.out) ?_; rintro w' ⟨nd, rfl⟩; (try (rw [drewN_self a6]; generalize hq_ : World.drewN a6 _ = a6; have n0_ : Aside0 (Kd.R k41 41 a6 w.heap.size (fun _ => True) (.slice (some ⟨a2, 0, none⟩) a1.length aF) a3) := ⟨by rw [← hq_]; exact (qR a4)⟩; have n1_ : Aside0 (a6.heap[a9]? = some (.cells #[.int .i64 aA, .int .i64 aD] 33 (0, 0))) := ⟨by rw [← hq_]; exact (qB a5)⟩; have n2_ : Aside0 (Below w.heap.size w a6) := ⟨by rw [← hq_]; exact (qL HB)⟩; clear a4 a5 HB hq_; have a4 := n0_; have a5 := n1_; have HB := n2_; clear n0_ n1_ n2_)); obtain ⟨hczQ_0, hczQ_1⟩ := cz2 a5.out) | (go_at_call 77; (with_reducible refine (spec_l1In.calls (r := true) c2.out).mono ?_); rintro e w' ⟨rfl, ⟨nd, rfl⟩⟩; (try (rw [drewN_self a6]; generalize hq_ : World.drewN a6 _ = a6; have n0_ : Aside0 (Kd.R k41 41 a6 w.heap.size (fun _ => True) (.slice (some ⟨a2, 0, none⟩) a1.length aF) a3) := ⟨by rw [← hq_]; exact (qR a4)⟩; have n1_ : Aside0 (a6.heap[a9]? = some (.cells #[.int .i64 aA, .int .i64 aD] 33 (0, 0))) := ⟨by rw [← hq_]; exact (qB a5)⟩; have n2_ : Aside0 (Below w.heap.size w a6) := ⟨by rw [← hq_]; exact (qL HB)⟩; clear a4 a5 HB hq_; have a4 := n0_; have a5 := n1_; have HB := n2_; clear n0_ n1_ n2_)); obtain ⟨bX, bY, fC, dO, bC, bD, bE, bF, bG, bH, bI, bJ, bK, bL, b0, b1⟩ := ay41 HR1.out a0; cases dO; obtain ⟨bC, bD, bE, bF, bG, bH, bI, bJ, bK, bL, b0, b1⟩ := hB12 HB bC bD bE bF bG bH bI bJ bK bL b0 b1) | ((with_reducible refine gc 74 rfl ?_); refine gr 54 Try.func74 (spec_l3Less.calls cX.out) ?_; rintro w' ⟨nd, rfl⟩; (try (rw [drewN_self a6]; generalize hq_ : World.drewN a6 _ = a6; have n0_ : Aside0 (Kd.R k41 41 a6 w.heap.size (fun _ => True) (.slice (some ⟨a2, 0, none⟩) a1.length aF) a3) := ⟨by rw [← hq_]; exact (qR a4)⟩; have n1_ : Aside0 (a6.heap[a9]? = some (.cells #[.int .i64 aA, .int .i64 aD] 33 (0, 0))) := ⟨by rw [← hq_]; exact (qB a5)⟩; have n2_ : Aside0 (Below w.heap.size w a6) := ⟨by rw [← hq_]; exact (qL HB)⟩; clear a4 a5 HB hq_; have a4 := n0_; have a5 := n1_; have HB := n2_; clear n0_ n1_ n2_)); have cO : 0 ≤ (a0 : Int) := qD; have cP : (a0 : Int) < ((a1.length : Int) : Int) := qD; obtain ⟨ce23, hcl23, hM23, hcc23, hfr23⟩ := Kd.R_elem a4.out z41 (a0 : Int) cO cP; obtain rfl := k41_openM hM23; obtain ⟨eR, eS, eT, eU, eV, eW, eX, eY, eZ, fA, eF, eG, hf23_0, hf23_1, hf23_2, hf23_3, hf23_4, hf23_5, hf23_6, hf23_7, hf23_8, hf23_9, hf23_10, hf23_11⟩ := el41 a4.out (a0 : Int) cO cP; clear hcl23 hcc23 hfr23 hM23; replace cO := eq_true cO; replace cP := eq_true cP; have HX31 := az (show Kd.R k41 41 a6 w.heap.size (fun _ => True) (.slice (some ⟨a2, 0, none⟩) a1.length aF) a3 from (qR a4)); obtain ⟨ce31, hcl31, hM31, hcc31, hfr31⟩ := Kd.R_elem HX31.out z41 (a0 : Int) (of_decide_eq_true (by first | (with_reducible assumption) | assumption)) (by have h_ : (a0 : Int) < ((a1.length : Int) : Int) := qD; first | exact h_ | (have e_ := ra a4; omega) | simpa using h_); obtain rfl := k41_openM hM31; have HP31 := Kd.R_seg HX31.out (a0 : Int) (of_decide_eq_true (by first | (with_reducible assumption) | assumption)) (by have h_ : (a0 : Int) < ((a1.length : Int) : Int) := qD; first | exact h_ | (have e_ := ra a4; omega) | simpa using h_) (seg := [.int .i64 aJ]) (j := 11) hcl31 hcc31 (show 12 ≤ 12 from by decide) (x' := (⟨(rd_T41 a3 a0).f0, (⟨(rd_T41 a3 a0).f1.f0, (rd_T41 a3 a0).f1.f1, (rd_T41 a3 a0).f1.f2⟩ : S39), (⟨(rd_T41 a3 a0).f2.f0, (rd_T41 a3 a0).f2.f1⟩ : S33), (⟨(rd_T41 a3 a0).f3.f0, (rd_T41 a3 a0).f3.f1⟩ : S33), (rd_T41 a3 a0).f4, (rd_T41 a3 a0).f5, (rd_T41 a3 a0).f6, aJ⟩ : S41)) (k41_mkM _ _ _ (⟨(rd_T41 a3 a0).f0, (⟨(rd_T41 a3 a0).f1.f0, (rd_T41 a3 a0).f1.f1, (rd_T41 a3 a0).f1.f2⟩ : S39), (⟨(rd_T41 a3 a0).f2.f0, (rd_T41 a3 a0).f2.f1⟩ : S33), (⟨(rd_T41 a3 a0).f3.f0, (rd_T41 a3 a0).f3.f1⟩ : S33), (rd_T41 a3 a0).f4, (rd_T41 a3 a0).f5, (rd_T41 a3 a0).f6, aJ⟩ : S41) ) (fun _ hk => hk); have cA := hcc31 11 _ rfl; (try simp only [show (k41).sz = 12 from rfl, Nat.mul_one, Nat.add_zero] at cA); have hf31_11 := hfr31 11; (try simp only [show (k41).sz = 12 from rfl, Nat.mul_one, Nat.add_zero] at hf31_11); clear hcl31 hcc31 hfr31 hM31) | ((with_reducible refine gs 3 56 rfl ?_); refine sw 3 56 (a6.setCell ⟨a2, (a0 : Int).toNat * 12 + 11, none⟩ (.int .i64 aJ)) ?_; intro cQ hw; have hg : a6.grownBy cQ (some a2) := (by rw [hw]; exact HP31.2); have hp_ : Kd.R k41 41 cQ w.heap.size (fun _ => True) (.slice (some ⟨a2, 0, none⟩) a1.length aF) bN := (by rw [hw, cD.out]; exact HP31.1); clear HP31; replace a5 := az (blk_grown (g := a9) (o := .cells #[.int .i64 aA, .int .i64 aD] 33 (0, 0)) (qB a5) hg (Kd.R_ne a4.out a5.out (by decide))); replace a4 := az (hp_); replace HB := az ((by rw [hw]; exact below_set (HB.out) GB16.out : Below w.heap.size w cQ)); clear hg hw hp_) | ((with_reducible refine gc 77 rfl ?_); refine gr 40 Try.func77 (spec_l1In.calls (r := false) bM.out) ?_; rintro w' ⟨nd, rfl⟩))
     go_roundg bZ
     case measure => exact mb aH aS
    case L4 =>
     exact ⟨(bN), (wrap64 (a0 + 1)), qG, H', ⟨mb aH aS⟩, ⟨qR a4⟩, ⟨qL HB⟩⟩
    case L6 =>
     exact ⟨(a3), (wrap64 (a0 + 1)), qG, H', ⟨mb aH aS⟩, ⟨qR a4⟩, ⟨qL HB⟩⟩
    case L5 =>
     go_wp2_with (first | ((with_reducible refine gc 133 rfl ?_); refine gr 33 Try.func133 (spec_l6Speed.calls aN.out) ?_; rintro fJ hb; replace a4 := rb a4 hb; replace HB := bS HB hb; clear hb) | ((with_reducible refine gd 7 rfl ?_); refine bz2 7 33 ?_; intro a9 hg fB a5 hb; have cY := se hg HB; replace a4 := rb a4 hb; replace HB := bS HB hb; clear hb hg; have hcz35_c := cz2 a5.out; have eH := blk_frozen a5.out 0; have eI := blk_frozen a5.out 1) | ((with_reducible refine gs 33 7 rfl ?_); refine sw 33 7 ((fB.setCell ⟨a9, 0, none⟩ (.int .i64 aA)).setCell ⟨a9, 1, none⟩ (.int .i64 aD)) ?_; intro a8 hw; have n0_ : Aside0 (Kd.R k41 41 a8 w.heap.size (fun _ => True) (.slice (some c4) a1.length aF) a1) := ⟨(by rw [hw]; exact (qS a4 a5))⟩; have n1_ : Aside0 (a8.heap[a9]? = some (.cells #[.int .i64 aA, .int .i64 aD] 33 (0, 0))) := ⟨(by rw [hw]; exact (qP a5))⟩; have n2_ : Aside0 (Below w.heap.size w a8) := ⟨(by rw [hw]; exact (qL HB))⟩; clear hw a4 a5 HB; have a4 := n0_; have a5 := n1_; have HB := n2_; clear n0_ n1_ n2_; have aW : 0 ≤ (a0 : Int) := qD; have aX : (a0 : Int) < ((a1.length : Int) : Int) := qD; obtain ⟨a2, dN, aY, aZ, bW, cl16, HG16⟩ := Kd.R_form a4.out (by omega); (first | cases aY | (injection aY with ea_ en_ ec_; (first | subst ea_ | (injection ea_ with ea_; subst ea_)); subst ec_; clear en_)); have GB16 := az aZ; have GG16 := az HG16; clear aZ bW HG16; (first | simp only [add_plain] at b2 | skip); (first | simp only [add_plain] at b3 | skip); (first | simp only [add_plain] at b4 | skip); (first | simp only [add_plain] at b5 | skip); (first | simp only [add_plain] at b6 | skip); (first | simp only [add_plain] at b7 | skip); (first | simp only [add_plain] at b8 | skip); (first | simp only [add_plain] at b9 | skip); (first | simp only [add_plain] at bA | skip); (first | simp only [add_plain] at bB | skip); (first | simp only [add_plain] at aU | skip); (first | simp only [add_plain] at aV | skip); obtain ⟨ce16, hcl16, hM16, hcc16, hfr16⟩ := Kd.R_elem a4.out z41 (a0 : Int) aW aX; obtain rfl := k41_openM hM16; obtain ⟨cE, cF, cG, cH, cI, cJ, cK, cL, cM, cN, c7, c8, hf16_0, hf16_1, hf16_2, hf16_3, hf16_4, hf16_5, hf16_6, hf16_7, hf16_8, hf16_9, hf16_10, hf16_11⟩ := el41 a4.out (a0 : Int) aW aX; clear hcl16 hcc16 hfr16 hM16; replace aW := eq_true aW; replace aX := eq_true aX; have HX37 := az (show Kd.R k41 41 a8 w.heap.size (fun _ => True) (.slice (some ⟨a2, 0, none⟩) a1.length aF) a1 from (qR a4)); obtain ⟨ce37, hcl37, hM37, hcc37, hfr37⟩ := Kd.R_elem HX37.out z41 (a0 : Int) (of_decide_eq_true (by first | (with_reducible assumption) | assumption)) (by have h_ : (a0 : Int) < ((a1.length : Int) : Int) := qD; first | exact h_ | (have e_ := ra a4; omega) | simpa using h_); obtain rfl := k41_openM hM37; have HP37 := Kd.R_seg HX37.out (a0 : Int) (of_decide_eq_true (by first | (with_reducible assumption) | assumption)) (by have h_ : (a0 : Int) < ((a1.length : Int) : Int) := qD; first | exact h_ | (have e_ := ra a4; omega) | simpa using h_) (seg := [.int .i64 0]) (j := 11) hcl37 hcc37 (show 12 ≤ 12 from by decide) (x' := (⟨(rd_T41 a1 a0).f0, (⟨(rd_T41 a1 a0).f1.f0, (rd_T41 a1 a0).f1.f1, (rd_T41 a1 a0).f1.f2⟩ : S39), (⟨(rd_T41 a1 a0).f2.f0, (rd_T41 a1 a0).f2.f1⟩ : S33), (⟨(rd_T41 a1 a0).f3.f0, (rd_T41 a1 a0).f3.f1⟩ : S33), (rd_T41 a1 a0).f4, (rd_T41 a1 a0).f5, (rd_T41 a1 a0).f6, 0⟩ : S41)) (k41_mkM _ _ _ (⟨(rd_T41 a1 a0).f0, (⟨(rd_T41 a1 a0).f1.f0, (rd_T41 a1 a0).f1.f1, (rd_T41 a1 a0).f1.f2⟩ : S39), (⟨(rd_T41 a1 a0).f2.f0, (rd_T41 a1 a0).f2.f1⟩ : S33), (⟨(rd_T41 a1 a0).f3.f0, (rd_T41 a1 a0).f3.f1⟩ : S33), (rd_T41 a1 a0).f4, (rd_T41 a1 a0).f5, (rd_T41 a1 a0).f6, 0⟩ : S41) ) (fun _ hk => hk); have cB := hcc37 11 _ rfl; (try simp only [show (k41).sz = 12 from rfl, Nat.mul_one, Nat.add_zero] at cB); have hf37_11 := hfr37 11; (try simp only [show (k41).sz = 12 from rfl, Nat.mul_one, Nat.add_zero] at hf37_11); clear hcl37 hcc37 hfr37 hM37) | ((with_reducible refine gs 3 37 rfl ?_); refine sw 3 37 (a8.setCell ⟨a2, (a0 : Int).toNat * 12 + 11, none⟩ (.int .i64 0)) ?_; intro cR hw; have hg : a8.grownBy cR (some a2) := (by rw [hw]; exact HP37.2); have hp_ : Kd.R k41 41 cR w.heap.size (fun _ => True) (.slice (some ⟨a2, 0, none⟩) a1.length aF) a3 := (by rw [hw, bO.out]; exact HP37.1); clear HP37; replace a5 := az (blk_grown (g := a9) (o := .cells #[.int .i64 aA, .int .i64 aD] 33 (0, 0)) (qB a5) hg (Kd.R_ne a4.out a5.out (by decide))); replace a4 := az (hp_); replace HB := az ((by rw [hw]; exact below_set (HB.out) GB16.out : Below w.heap.size w cR)); clear hg hw hp_; have hcz39_c := cz2 a5.out; have eJ := blk_frozen a5.out 0; have eK := blk_frozen a5.out 1) | ((with_reducible refine gc 77 rfl ?_); refine gr 40 Try.func77 (spec_l1In.calls (r := true) bM.out) ?_; rintro w' ⟨nd, rfl⟩) | (go_at_call 77; (with_reducible refine (spec_l1In.calls (r := false) c2.out).mono ?_); rintro e w' ⟨rfl, ⟨nd, rfl⟩⟩))
     go_roundg bZ
     case measure => exact mb aH aS
     exact ⟨(a3), (wrap64 (a0 + 1)), qG, H', ⟨mb aH aS⟩, ⟨qR a4⟩, ⟨qL HB⟩⟩
  case L8 =>
   obtain ⟨fD, fE, dP⟩ := Kd.R_slice a4.out; subst dP; go_wp2
   go_ret
   exact ⟨_, qE, qR a4, qL HB⟩

/-! ### spec_l9Step: function 98 -/
def spec_l9Step.f (k : Nat) (l0 : List S41) (a1 : Int) : Option ((List S41)) := (spec_l7Contacts.f k l0).bind fun aE => ((spec_l7Groups.f k l0 aE).bind fun aC => ((spec_l7Awake.f k l0 aC).bind fun aF => ((spec_l9Wake.f k l0 aC aF).bind fun aD => ((spec_l9Live.f k aD aE).bind fun aG => ((spec_l9Pull.f k aD a1).bind fun aI => ((spec_l8All.f k aI aG).bind fun aJ => ((spec_l9Moves.f k aJ).bind fun aK => ((spec_l8Aparts.f k aK aG).bind fun aL => ((spec_l9Quiet.f k aL aD).bind fun aM => ((spec_l9Sleep.f k aM aC aF).bind fun aN => (some aN)))))))))))
theorem spec_l9Step.calls {k : Nat} {A0 : Option Addr} {c0 : Nat} {l0 : List S41} {a1 : Int} {r : List S41} {w : World} (hr0 : Kd.C k41 w A0 l0.length l0) (hc0 : l0.length ≤ c0) (h : spec_l9Step.f k l0 a1 = some r) :
  Calls Try.prog 98 #[.slice A0 l0.length c0, .int .i64 a1] w fun e w' => ∃ aP : Value, e = .returned (aP) ∧ Kd.R k41 41 w' w.heap.size (fun _ => True) aP r ∧ Below w.heap.size w w' := by
 have HR0 := az hr0; have aH := az hc0; clear hr0 hc0; have HB := br w
 unfold spec_l9Step.f at h
 have H := h; clear h; replace H := qH H; obtain ⟨aE, A3, H⟩ := H
 replace H := qH H; obtain ⟨aC, A4, H⟩ := H
 replace H := qH H; obtain ⟨aF, A5, H⟩ := H
 replace H := qH H; obtain ⟨aD, A6, H⟩ := H
 replace H := qH H; obtain ⟨aG, A7, H⟩ := H
 replace H := qH H; obtain ⟨aI, A8, H⟩ := H
 replace H := qH H; obtain ⟨aJ, A9, H⟩ := H
 replace H := qH H; obtain ⟨aK, b0, H⟩ := H
 replace H := qH H; obtain ⟨aL, b1, H⟩ := H
 replace H := qH H; obtain ⟨aM, b2, H⟩ := H
 replace H := qH H; obtain ⟨aN, b3, H⟩ := H
 obtain rfl := Option.some.inj H; go_enter Try.func98, Try.ntmps98; go_wp2_with (first | ((with_reducible refine gc 53 rfl ?_); refine gx 12 Try.func53 (spec_l7Contacts.calls (qC HR0.out) aH.out A3.out) ?_; rintro b4 c1 ⟨a0, hb⟩; have a3 := lo a0 HB; replace HB := bS HB hb; clear hb; obtain ⟨b5, b6, aQ⟩ := Kd.R_slice a3.out; subst aQ) | ((with_reducible refine gc 52 rfl ?_); refine gx 15 Try.func52 (spec_l7Groups.calls (qC (Kd.C_below HR0.out HB.out)) aH.out (qC (rr a3)) ((rc a3)) A4.out) ?_; rintro b7 c2 ⟨a0, hb⟩; have a4 := lo a0 HB; replace a3 := rb a3 hb; replace HB := bS HB hb; clear hb; obtain ⟨b8, b9, aR⟩ := Kd.R_slice a4.out; subst aR) | ((with_reducible refine gc 57 rfl ?_); refine gx 18 Try.func57 (spec_l7Awake.calls (qC (Kd.C_below HR0.out HB.out)) aH.out (qC (rr a4)) ((rc a4)) A5.out) ?_; rintro bA c3 ⟨a0, hb⟩; have a5 := lo a0 HB; replace a3 := rb a3 hb; replace a4 := rb a4 hb; replace HB := bS HB hb; clear hb; obtain ⟨bB, bC, aS⟩ := Kd.R_slice a5.out; subst aS) | ((with_reducible refine gc 114 rfl ?_); refine gx 22 Try.func114 (spec_l9Wake.calls (qC (Kd.C_below HR0.out HB.out)) aH.out (qC (rr a4)) ((rc a4)) (qC (rr a5)) ((rc a5)) A6.out) ?_; rintro bD c4 ⟨a0, hb⟩; have a2 := lo a0 HB; replace a3 := rb a3 hb; replace a4 := rb a4 hb; replace a5 := rb a5 hb; replace HB := bS HB hb; clear hb; obtain ⟨bE, bF, aT⟩ := Kd.R_slice a2.out; subst aT) | ((with_reducible refine gc 115 rfl ?_); refine gx 25 Try.func115 (spec_l9Live.calls (qC (rr a2)) ((rc a2)) (qC (rr a3)) ((rc a3)) A7.out) ?_; rintro bG c5 ⟨a0, hb⟩; have a7 := lo (rn a0 a3) HB; replace a3 := re a3 a0 hb; replace a4 := rb a4 hb; replace a5 := rb a5 hb; replace a2 := rb a2 hb; replace HB := bS HB hb; clear hb) | ((with_reducible refine gc 117 rfl ?_); refine gx 28 Try.func117 (spec_l9Pull.calls (qC (rr a2)) ((rc a2)) A8.out) ?_; rintro bH c6 ⟨a0, hb⟩; have a6 := lo (rn a0 a2) HB; replace a3 := rb a3 hb; replace a4 := rb a4 hb; replace a5 := rb a5 hb; replace a2 := re a2 a0 hb; replace a7 := rb a7 hb; replace HB := bS HB hb; clear hb; obtain ⟨bI, bJ, aU⟩ := Kd.R_slice a6.out; subst aU; obtain ⟨bK, bL, aV⟩ := Kd.R_slice a7.out; subst aV) | ((with_reducible refine gc 116 rfl ?_); refine gx 30 Try.func116 (spec_l8All.calls (qC (rr a6)) ((rc a6)) (qC (rr a7)) ((rc a7)) A9.out) ?_; rintro bM c7 ⟨a0, hb⟩; have a8 := lo (rn (rn a0 a2) a6) HB; replace a3 := rb a3 hb; replace a4 := rb a4 hb; replace a5 := rb a5 hb; replace a2 := re a2 a0 hb; replace a7 := rb a7 hb; replace a6 := re a6 a0 hb; replace HB := bS HB hb; clear hb; obtain ⟨bN, bO, aW⟩ := Kd.R_slice a8.out; subst aW) | ((with_reducible refine gc 119 rfl ?_); refine gx 32 Try.func119 (spec_l9Moves.calls (qC (rr a8)) ((rc a8)) b0.out) ?_; rintro bP c8 ⟨a0, hb⟩; have a9 := lo (rn (rn (rn a0 a2) a6) a8) HB; replace a3 := rb a3 hb; replace a4 := rb a4 hb; replace a5 := rb a5 hb; replace a2 := re a2 a0 hb; replace a7 := rb a7 hb; replace a6 := re a6 a0 hb; replace a8 := re a8 a0 hb; replace HB := bS HB hb; clear hb; obtain ⟨bQ, bR, aX⟩ := Kd.R_slice a9.out; subst aX) | ((with_reducible refine gc 118 rfl ?_); refine gx 34 Try.func118 (spec_l8Aparts.calls (qC (rr a9)) ((rc a9)) (qC (rr a7)) ((rc a7)) b1.out) ?_; rintro bT c9 ⟨a0, hb⟩; have aA := lo (rn (rn (rn (rn a0 a2) a6) a8) a9) HB; replace a3 := rb a3 hb; replace a4 := rb a4 hb; replace a5 := rb a5 hb; replace a2 := re a2 a0 hb; replace a7 := rb a7 hb; replace a6 := re a6 a0 hb; replace a8 := re a8 a0 hb; replace a9 := re a9 a0 hb; replace HB := bS HB hb; clear hb; obtain ⟨bU, bV, aY⟩ := Kd.R_slice aA.out; subst aY) | ((with_reducible refine gc 121 rfl ?_); refine gx 37 Try.func121 (spec_l9Quiet.calls (qC (rr aA)) ((rc aA)) (qC (rr a2)) ((rc a2)) b2.out) ?_; rintro bW cA ⟨a0, hb⟩; have aB := lo (rn (rn (rn (rn (rn a0 a2) a6) a8) a9) aA) HB; replace a3 := rb a3 hb; replace a4 := rb a4 hb; replace a5 := rb a5 hb; replace a2 := re a2 a0 hb; replace a7 := rb a7 hb; replace a6 := re a6 a0 hb; replace a8 := re a8 a0 hb; replace a9 := re a9 a0 hb; replace aA := re aA a0 hb; replace HB := bS HB hb; clear hb; obtain ⟨bX, bY, aZ⟩ := Kd.R_slice aB.out; subst aZ) | ((with_reducible refine gc 120 rfl ?_); refine gx 40 Try.func120 (spec_l9Sleep.calls (qC (rr aB)) ((rc aB)) (qC (rr a4)) ((rc a4)) (qC (rr a5)) ((rc a5)) b3.out) ?_; rintro bZ cB ⟨a0, hb⟩; have aO := lo (rn (rn (rn (rn (rn (rn a0 a2) a6) a8) a9) aA) aB) HB; replace a3 := rb a3 hb; replace a4 := rb a4 hb; replace a5 := rb a5 hb; replace a2 := re a2 a0 hb; replace a7 := rb a7 hb; replace a6 := re a6 a0 hb; replace a8 := re a8 a0 hb; replace a9 := re a9 a0 hb; replace aA := re aA a0 hb; replace aB := re aB a0 hb; replace HB := bS HB hb; clear hb))
 go_ret
 exact ⟨_, qE, by (with_reducible repeat (first | apply Kd.R_alloc | apply Kd.R_drewN | apply Kd.R_drew)); exact Kd.R_mono aO.out (fun _ hk => trivial), qL HB⟩
end Go.Proofs.Ytdngjedhbnoaoaa.PBig
