/- What these functions compute, each walked once: laws_FnGroups; for all arguments and worlds, under the conditions that each theorem names. -/
import Derived.Test.YtdngjedhbnoaoaaSq
import Derived.Test.YtdngjedhbnoaoaaPBigx913
import Derived.Test.YtdngjedhbnoaoaaPBigx914
import Derived.Test.YtdngjedhbnoaoaaPBigx916
import Derived.Test.YtdngjedhbnoaoaaPBigx917
namespace Go.Proofs.Ytdngjedhbnoaoaa.PBig
open Go.RowKit Go.Proofs.YtdngjedhbnoaoaaW.PrintWords Go.Proofs.YtdngjedhbnoaoaaW.PrintLast Go.Proofs.YtdngjedhbnoaoaaW.PrintMore
attribute [local go_sem] max2_int min2_int max_two min_two max_three min_three max_four min_four
set_option linter.unusedVariables false
set_option linter.unusedSimpArgs false
set_option maxHeartbeats 8000000
set_option maxRecDepth 100000

/-! ### laws_FnGroups: function 12 -/
mutual
def laws_FnGroups.j0 : Nat → List S41 → List Int → Bool → Option (Bool)
  | 0, _, _, _ => none
  | k + 1, x3, x4, fC => if fC = true then ((spec_Groups.f k x3).bind fun dJ => ((laws_pqInts.f k x4 dJ).bind fun dK => (some dK))) else (laws_FnGroups.l0 k x3 x4 (-1) 0)
def laws_FnGroups.l0 : Nat → List S41 → List Int → Int → Int → Option (Bool)
  | 0, _, _, _, _ => none
  | k + 1, x3, x4, x5, x6 => if x6 < (x4.length : Int) then (if 0 ≤ x6 then (if x6 < (x3.length : Int) then (if ((decide ((rd x4 x6) < 0)) != (((rd_T41 x3 x6).f4) == 0)) = true then (laws_FnGroups.j2 k x3 x4 x5 x6 true) else (if (rd x4 x6) > (wrap64 (x5 + 1)) then (laws_FnGroups.j2 k x3 x4 x5 x6 true) else (laws_FnGroups.j2 k x3 x4 x5 x6 (decide ((rd x4 x6) < (-1)))))) else none) else none) else ((impl_Contacts.f k x3).bind fun dL => (laws_FnGroups.l1 k x4 dL 0))
def laws_FnGroups.j2 : Nat → List S41 → List Int → Int → Int → Bool → Option (Bool)
  | 0, _, _, _, _, _ => none
  | k + 1, x3, x4, x5, x6, fD => if fD = true then (some false) else (if 0 ≤ x6 then (if x6 < (x4.length : Int) then (if (rd x4 x6) > x5 then (laws_FnGroups.l0 k x3 x4 (rd x4 x6) (wrap64 (x6 + 1))) else (laws_FnGroups.l0 k x3 x4 x5 (wrap64 (x6 + 1)))) else none) else none)
def laws_FnGroups.l1 : Nat → List Int → List S37 → Int → Option (Bool)
  | 0, _, _, _ => none
  | k + 1, x4, x7, x8 => if x8 < (x7.length : Int) then (if 0 ≤ x8 then (if 0 ≤ ((rd_T37 x7 x8).f0) then (if ((rd_T37 x7 x8).f0) < (x4.length : Int) then (if 0 ≤ ((rd_T37 x7 x8).f1) then (if ((rd_T37 x7 x8).f1) < (x4.length : Int) then (if (rd x4 ((rd_T37 x7 x8).f0)) ≥ 0 then (if (rd x4 ((rd_T37 x7 x8).f1)) ≥ 0 then (if (rd x4 ((rd_T37 x7 x8).f0)) = (rd x4 ((rd_T37 x7 x8).f1)) then (laws_FnGroups.l1 k x4 x7 (wrap64 (x8 + 1))) else (some false)) else (laws_FnGroups.l1 k x4 x7 (wrap64 (x8 + 1)))) else (laws_FnGroups.l1 k x4 x7 (wrap64 (x8 + 1)))) else none) else none) else none) else none) else none) else (some true)
end
def laws_FnGroups.f (k : Nat) (l0 : List Int) : Option (Bool) := if (l0.length : Int) > 1048576 then (some true) else ((spec_DrawGroups.f k l0).bind fun aW => ((impl_Groups.f k aW).bind fun b7 => ((spec_Groups.f k aW).bind fun dM => ((laws_pqInts.f k b7 dM).bind fun dN => (if dN = true then ((spec_BodiesOk.f k aW).bind fun dO => (laws_FnGroups.j0 k aW b7 (!dO))) else (laws_FnGroups.j0 k aW b7 true))))))
theorem laws_FnGroups.calls {k : Nat} {A0 : Option Addr} {c0 : Nat} {l0 : List Int} {r : Bool} {w : World} (hr0 : Kd.C (Kd.int .u8) w A0 l0.length l0) (hc0 : l0.length ≤ c0) (h : laws_FnGroups.f k l0 = some r) :
  Calls Try.prog 12 #[.slice A0 l0.length c0] w fun e w' => e = .returned (.bool r) ∧ Below w.heap.size w w' := by
 have HR0 := az hr0; have cW := az hc0; clear hr0 hc0; have HB := br w
 unfold laws_FnGroups.f at h
 have H := h; clear h; by_cases aE : (l0.length : Int) > 1048576; rw [if_pos aE] at H; have aG : decide (1048576 < (l0.length : Int)) = true := decide_eq_true aE; have aH : decide (1048576 < l0.length) = true := decide_eq_true (by omega); clear aE; obtain rfl := Option.some.inj H; refine ?L1; rotate_left; rw [if_neg aE] at H; have aG : decide (1048576 < (l0.length : Int)) = false := decide_eq_false aE; have aH : decide (1048576 < l0.length) = false := decide_eq_false (by omega); clear aE; replace H := qH H; obtain ⟨a8, b8, H⟩ := H
 replace H := qH H; obtain ⟨a1, b9, H⟩ := H
 refine ?L19
 rotate_right
 case L1 =>
  go_enter Try.func12, Try.ntmps12; go_wp2
  repeat (go_quiet (fail); try go_wp2)
  go_ret
  exact ⟨qE, qL HB⟩
 case L19 =>
  have cX := az H; clear H; go_enter Try.func12, Try.ntmps12
  go_upto_region 5 with (first | (go_at_call 13; (with_reducible refine (spec_DrawGroups.calls (qC HR0.out) cW.out b8.out).mono ?_); rintro e w6 ⟨cE, rfl, a9, hb⟩; have a3 := lo a9 HB; replace HB := bS HB hb; clear hb; obtain ⟨bW, bX, bY⟩ := Kd.R_slice a3.out; subst bY) | (go_at_call 14; (with_reducible refine (impl_Groups.calls (qC (rr a3)) ((rc a3)) b9.out).mono ?_); rintro e w8 ⟨b2, rfl, a9, hb⟩; have a7 := lo a9 HB; replace a3 := rb a3 hb; replace HB := bS HB hb; clear hb))
  repeat (go_quiet (first | (go_at_call 13; (with_reducible refine (spec_DrawGroups.calls (qC HR0.out) cW.out b8.out).mono ?_); rintro e w6 ⟨cE, rfl, a9, hb⟩; have a3 := lo a9 HB; replace HB := bS HB hb; clear hb; obtain ⟨bW, bX, bY⟩ := Kd.R_slice a3.out; subst bY) | (go_at_call 14; (with_reducible refine (impl_Groups.calls (qC (rr a3)) ((rc a3)) b9.out).mono ?_); rintro e w8 ⟨b2, rfl, a9, hb⟩; have a7 := lo a9 HB; replace a3 := rb a3 hb; replace HB := bS HB hb; clear hb)); go_upto_region 5 with (first | (go_at_call 13; (with_reducible refine (spec_DrawGroups.calls (qC HR0.out) cW.out b8.out).mono ?_); rintro e w6 ⟨cE, rfl, a9, hb⟩; have n0_ := lo a9 HB; have n1_ := bS HB hb; clear HB; have a3 := n0_; have HB := n1_; clear n0_ n1_; obtain ⟨bW, bX, bY⟩ := Kd.R_slice a3.out; subst bY) | (go_at_call 14; (with_reducible refine (impl_Groups.calls (qC (rr a3)) ((rc a3)) b9.out).mono ?_); rintro e w8 ⟨b2, rfl, a9, hb⟩; have n0_ := rb a3 hb; have n1_ := lo a9 HB; have n2_ := bS HB hb; clear a3; clear HB; have a3 := n0_; have a7 := n1_; have HB := n2_; clear n0_ n1_ n2_)))
  (try simp only [Act.put, List.setIfInBounds_toArray, List.set_cons_zero, List.set_cons_succ])
  go_cut [27] (fun fE wc => ∃ (kq : Nat) (b3 : Bool), fE = .bool b3 ∧ Aside0 (laws_FnGroups.j0 kq a8 a1 b3 = some r) ∧ Aside0 (kq ≤ k) ∧ Aside0 (Kd.R k41 41 wc w.heap.size (fun _ => True) (.slice bW a8.length bX) a8) ∧ Aside0 (Kd.R (Kd.int .i64) 3 wc w.heap.size (fun _ => True) b2 a1) ∧ Aside0 (Below w.heap.size w wc))
  case first =>
   have H := cX.out; clear cX; replace H := qH H; obtain ⟨dP, bA, H⟩ := H
   replace H := qH H; obtain ⟨cF, aI, H⟩ := H
   by_cases b4 : cF = true; subst b4; replace H := qT H; replace H := qH H; obtain ⟨dQ, dR, H⟩ := H
   have H' := az H; clear H; refine ?L2; rotate_left; replace b4 := Bool.eq_false_iff.mpr b4; subst b4; replace H := qU H; have H' := az H; clear H; refine ?L3
   rotate_right
   case' L2 | L3 =>
    go_wp2_with (first | (go_at_call 16; (with_reducible refine (spec_Groups.calls (qC (rr a3)) ((rc a3)) bA.out).mono ?_); rintro e fU ⟨fI, rfl, a9, hb⟩; have aB := lo (rn a9 a7) HB; replace a3 := rb a3 hb; replace a7 := re a7 a9 hb; replace HB := bS HB hb; clear hb; obtain ⟨fK, fL, e4⟩ := Kd.R_slice a7.out; subst e4; obtain ⟨fM, fN, e5⟩ := Kd.R_slice aB.out; subst e5) | (go_at_call 15; (with_reducible refine (laws_pqInts.calls (r := true) (qC (rr a7)) ((rc a7)) (qC (rr aB)) ((rc aB)) aI.out).mono ?_); rintro e w' ⟨rfl, ⟨nd, rfl⟩⟩; (try first | exact ⟨rfl, _, World.drewN_drewN _ _ _⟩ | exact ⟨rfl, _, Eq.trans (World.drewN_drewN _ _ _) (congrArg (World.drewN _) (Nat.add_assoc _ _ _))⟩)) | (go_at_call 17; (with_reducible refine (spec_BodiesOk.calls (qC (rr a3)) ((rc a3)) dR.out).mono ?_); rintro e fV ⟨rfl, hb⟩; replace a3 := rb a3 hb; replace a7 := rb a7 hb; replace aB := rb aB hb; replace HB := bS HB hb; clear hb) | (go_quiet (first | (go_at_call 15; (with_reducible refine (laws_pqInts.calls (r := true) (qC (rr a7)) ((rc a7)) (qC (rr aB)) ((rc aB)) aI.out).mono ?_); rintro e w' ⟨rfl, ⟨nd, rfl⟩⟩; (try first | exact ⟨rfl, _, World.drewN_drewN _ _ _⟩ | exact ⟨rfl, _, Eq.trans (World.drewN_drewN _ _ _) (congrArg (World.drewN _) (Nat.add_assoc _ _ _))⟩)))) | (go_at_call 15; (with_reducible refine (laws_pqInts.calls (r := false) (qC (rr a7)) ((rc a7)) (qC (rr aB)) ((rc aB)) aI.out).mono ?_); rintro e w' ⟨rfl, ⟨nd, rfl⟩⟩; (try first | exact ⟨rfl, _, World.drewN_drewN _ _ _⟩ | exact ⟨rfl, _, Eq.trans (World.drewN_drewN _ _ _) (congrArg (World.drewN _) (Nat.add_assoc _ _ _))⟩)) | (go_quiet (first | (go_at_call 15; (with_reducible refine (laws_pqInts.calls (r := false) (qC (rr a7)) ((rc a7)) (qC (rr aB)) ((rc aB)) aI.out).mono ?_); rintro e w' ⟨rfl, ⟨nd, rfl⟩⟩; (try first | exact ⟨rfl, _, World.drewN_drewN _ _ _⟩ | exact ⟨rfl, _, Eq.trans (World.drewN_drewN _ _ _) (congrArg (World.drewN _) (Nat.add_assoc _ _ _))⟩)))))
    go_meet
   case L2 =>
    exact ⟨_, (!dQ), qG, H', ⟨qO⟩, ⟨qR a3⟩, ⟨by (with_reducible repeat (first | apply Kd.R_alloc | apply Kd.R_drewN | apply Kd.R_drew)); exact Kd.R_mono a7.out (fun _ hk => trivial)⟩, ⟨qL HB⟩⟩
   case L3 =>
    exact ⟨_, (true), qG, H', ⟨qO⟩, ⟨qR a3⟩, ⟨by (with_reducible repeat (first | apply Kd.R_alloc | apply Kd.R_drewN | apply Kd.R_drew)); exact Kd.R_mono a7.out (fun _ hk => trivial)⟩, ⟨qL HB⟩⟩
  case rest =>
   clear cX; obtain ⟨kq, b3, rfl, HA, aX, aA, a6, HB⟩ := hcut
   obtain ⟨e2, rfl⟩ := qz kq HA
   have H := HA.out; clear HA; simp only [laws_FnGroups.j0] at H; by_cases aJ : b3 = true; subst aJ; replace H := qT H; replace H := qH H; obtain ⟨dP, bA, H⟩ := H
   replace H := qH H; obtain ⟨cF, aI, H⟩ := H
   obtain rfl := Option.some.inj H; refine ?L4; rotate_left; replace aJ := Bool.eq_false_iff.mpr aJ; subst aJ; replace H := qU H; have H' := az H; clear H; refine ?L18
   rotate_right
   case L4 =>
    go_wp2_with (first | (go_at_call 16; (with_reducible refine (spec_Groups.calls (qC (rr aA)) ((rc aA)) bA.out).mono ?_); rintro e fW ⟨fJ, rfl, a9, hb⟩; have aP := lo (rn a9 a6) HB; replace aA := rb aA hb; replace a6 := re a6 a9 hb; replace HB := bS HB hb; clear hb; obtain ⟨fO, fP, e6⟩ := Kd.R_slice a6.out; subst e6; obtain ⟨fQ, fR, e7⟩ := Kd.R_slice aP.out; subst e7) | (go_at_call 15; (with_reducible refine (laws_pqInts.calls (qC (rr a6)) ((rc a6)) (qC (rr aP)) ((rc aP)) aI.out).mono ?_); rintro e w' ⟨rfl, ⟨nd, rfl⟩⟩; (try first | exact ⟨rfl, _, World.drewN_drewN _ _ _⟩ | exact ⟨rfl, _, Eq.trans (World.drewN_drewN _ _ _) (congrArg (World.drewN _) (Nat.add_assoc _ _ _))⟩)) | (go_quiet (first | (go_at_call 15; (with_reducible refine (laws_pqInts.calls (qC (rr a6)) ((rc a6)) (qC (rr aP)) ((rc aP)) aI.out).mono ?_); rintro e w' ⟨rfl, ⟨nd, rfl⟩⟩; (try first | exact ⟨rfl, _, World.drewN_drewN _ _ _⟩ | exact ⟨rfl, _, Eq.trans (World.drewN_drewN _ _ _) (congrArg (World.drewN _) (Nat.add_assoc _ _ _))⟩)))))
    go_ret
    exact ⟨qE, qL HB⟩
   case L18 =>
    go_wp2
    repeat (go_quiet (fail); try go_wp2)
    go_loopg [5, 6] e2 (fun kq v5 v6 w' => ∃ (aF : Int) (a2 : Int), v5 = .int .i64 aF ∧ v6 = .int .i64 a2 ∧ Aside0 (laws_FnGroups.l0 kq a8 a1 aF a2 = some r) ∧ Aside0 (kq ≤ e2) ∧ Aside0 (Kd.R k41 41 w' w.heap.size (fun _ => True) (.slice bW a8.length bX) a8) ∧ Aside0 (Kd.R (Kd.int .i64) 3 w' w.heap.size (fun _ => True) b2 a1) ∧ Aside0 (Below w.heap.size w w'))
    case atStart => exact ⟨((-1)), (0), qG, qG, H', ⟨Nat.le_refl _⟩, ⟨qR aA⟩, ⟨qR a6⟩, ⟨qL HB⟩⟩
    case round =>
     clear H'; obtain ⟨aF, a2, rfl, rfl, HA, aY, aA, a6, HB⟩ := hrel
     obtain ⟨k2, rfl⟩ := qz gk HA
     have H := HA.out; clear HA; simp only [laws_FnGroups.l0] at H; replace H := qc H; obtain ⟨aQ, H⟩ | ⟨aQ, H⟩ := H; refine ?L11; rotate_left; replace H := qH H; obtain ⟨a4, dS, H⟩ := H
     have H' := az H; clear H; refine ?L17
     rotate_right
     case L11 =>
      have c2 := az H; clear H; obtain ⟨e8, e9, eA⟩ := Kd.R_slice a6.out; subst eA
      go_upto_region 11 with (fail)
      repeat (go_quiet (fail); go_upto_region 11 with (fail))
      go_cut [65] (fun fG wc => ∃ (kq : Nat) (aZ : Bool), fG = .bool aZ ∧ Aside0 (laws_FnGroups.j2 kq a8 a1 aF a2 aZ = some r) ∧ Aside0 (kq ≤ k2) ∧ Aside0 (Kd.R k41 41 wc w.heap.size (fun _ => True) (.slice bW a8.length bX) a8) ∧ Aside0 (Kd.R (Kd.int .i64) 3 wc w.heap.size (fun _ => True) (.slice e8 a1.length e9) a1) ∧ Aside0 (Below w.heap.size w wc))
      case first =>
       have H := c2.out; clear c2; replace H := qd H; obtain ⟨b1, H⟩ := H; (first | rw [b1] | (simp only [i64_w, i32_w]; rw [b1]) | skip); replace H := qd H; obtain ⟨eV, H⟩ := H; by_cases aD : ((decide ((rd a1 a2) < 0)) != (((rd_T41 a8 a2).f4) == 0)) = true; rw [if_pos aD] at H; have cM : ((decide ((rd a1 a2) < 0)) != (((rd_T41 a8 a2).f4) == 0)) = true := aD; refine ?L5; rotate_left; rw [if_neg aD] at H
       have cM : ((decide ((rd a1 a2) < 0)) != (((rd_T41 a8 a2).f4) == 0)) = false := by simpa using aD
       (try (have cN : decide ((decide ((rd a1 a2) < 0)) = (((rd_T41 a8 a2).f4) == 0)) = true := by simpa using aD)); (try (have cO : ((decide ((rd a1 a2) < 0)) == (((rd_T41 a8 a2).f4) == 0)) = true := by simpa using aD)); clear aD; replace H := qc H; obtain ⟨cP, H⟩ | ⟨cP, H⟩ := H; have H' := az H; clear H; refine ?L6; rotate_left; have H' := az H; clear H; refine ?L7
       rotate_right 2
       case L5 =>
        (try (have cN : decide ((decide ((rd a1 a2) < 0)) = (((rd_T41 a8 a2).f4) == 0)) = false := by simpa using aD)); (try (have cO : ((decide ((rd a1 a2) < 0)) == (((rd_T41 a8 a2).f4) == 0)) = false := by simpa using aD)); (try (have eW : ¬ ((decide ((rd a1 a2) < 0)) = (((rd_T41 a8 a2).f4) == 0)) := by simpa using aD)); clear aD; have H' := az H; clear H; obtain ⟨aK, aL, b6, bB, c3⟩ := ayi (rr a6) a2; cases bB; obtain ⟨aM, aN, cY, bC, c4, c5, c6, c7, c8, c9, cA, cB, cC, cD, bZ, c1⟩ := ay41 (rr aA) a2; cases bC; go_wp2
        repeat (go_quiet (fail); try go_wp2)
        go_meet
        exact ⟨_, (true), qG, H', ⟨mb aX aY⟩, ⟨qR aA⟩, ⟨qR a6⟩, ⟨qL HB⟩⟩
       case' L6 | L7 =>
        obtain ⟨aK, aL, b6, bB, c3⟩ := ayi (rr a6) a2; cases bB; obtain ⟨aM, aN, cY, bC, c4, c5, c6, c7, c8, c9, cA, cB, cC, cD, bZ, c1⟩ := ay41 (rr aA) a2; cases bC; obtain ⟨bD, bE, cZ, dT, eB⟩ := ayi (rr a6) a2; obtain rfl : b6 = cZ := (by injection dT)
       case L6 =>
        go_wp2
        repeat (go_quiet (fail); try go_wp2)
        go_meet
        exact ⟨_, (true), qG, H', ⟨mb aX aY⟩, ⟨qR aA⟩, ⟨qR a6⟩, ⟨qL HB⟩⟩
       case L7 =>
        obtain ⟨bF, bG, dA, dU, eC⟩ := ayi (rr a6) a2; obtain rfl : b6 = dA := (by injection dU); go_wp2
        repeat (go_quiet (fail); try go_wp2)
        go_meet
        exact ⟨_, (decide ((rd a1 a2) < (-1))), qG, H', ⟨mb aX aY⟩, ⟨qR aA⟩, ⟨qR a6⟩, ⟨qL HB⟩⟩
      case rest =>
       clear c2; obtain ⟨kq, aZ, rfl, HA, bH, aA, a6, HB⟩ := hcut
       obtain ⟨dB, rfl⟩ := qz kq HA
       have H := HA.out; clear HA; simp only [laws_FnGroups.j2] at H; by_cases b5 : aZ = true; subst b5; replace H := qT H; obtain rfl := Option.some.inj H; refine ?L8; rotate_left; replace b5 := Bool.eq_false_iff.mpr b5; subst b5; replace H := qU H; replace H := qd H; obtain ⟨b1, H⟩ := H; replace H := qd H; obtain ⟨aQ, H⟩ := H; replace H := qc H; obtain ⟨cQ, H⟩ | ⟨cQ, H⟩ := H; have H' := az H; clear H; refine ?L9; rotate_left; have H' := az H; clear H; refine ?L10
       rotate_right 2
       case L8 =>
        go_wp2
        repeat (go_quiet (fail); try go_wp2)
        go_ret
        exact ⟨qE, qL HB⟩
       case' L9 | L10 =>
        obtain ⟨bI, bJ, dC, dV, eD⟩ := ayi (rr a6) a2; cases dV
       case L9 =>
        obtain ⟨bK, bL, dD, dW, eE⟩ := ayi (rr a6) a2; obtain rfl : dC = dD := (by injection dW); go_wp2
        repeat (go_quiet (fail); try go_wp2)
        go_roundg dB
        case measure => exact mc aX aY bH
        exact ⟨(rd a1 a2), (wrap64 (a2 + 1)), qG, qG, H', ⟨mc aX aY bH⟩, ⟨qR aA⟩, ⟨qR a6⟩, ⟨qL HB⟩⟩
       case L10 =>
        go_wp2
        repeat (go_quiet (fail); try go_wp2)
        go_roundg dB
        case measure => exact mc aX aY bH
        exact ⟨(aF), (wrap64 (a2 + 1)), qG, qG, H', ⟨mc aX aY bH⟩, ⟨qR aA⟩, ⟨qR a6⟩, ⟨qL HB⟩⟩
     case L17 =>
      obtain ⟨eF, eG, eH⟩ := Kd.R_slice a6.out; subst eH; go_wp2_with (first | (go_at_call 18; (with_reducible refine (impl_Contacts.calls (qC (rr aA)) ((rc aA)) dS.out).mono ?_); rintro e fX ⟨dX, rfl, a9, hb⟩; have dE := lo a9 HB; replace aA := rb aA hb; replace a6 := rb a6 hb; replace HB := bS HB hb; clear hb) | (go_quiet (fail)))
      go_loopg [8] k2 (fun kq v8 w' => ∃ (a5 : Int), v8 = .int .i64 a5 ∧ Aside0 (laws_FnGroups.l1 kq a1 a4 a5 = some r) ∧ Aside0 (kq ≤ k2) ∧ Aside0 (Kd.R (Kd.int .i64) 3 w' w.heap.size (fun _ => True) (.slice eF a1.length eG) a1) ∧ Aside0 (Kd.R k37 37 w' w.heap.size (fun _ => True) dX a4) ∧ Aside0 (Below w.heap.size w w'))
      case atStart => exact ⟨(0), qG, H', ⟨Nat.le_refl _⟩, ⟨qR a6⟩, ⟨qR dE⟩, ⟨qL HB⟩⟩
      case round =>
       clear H'; obtain ⟨a5, rfl, HA, e3, a6, bM, HB⟩ := hrel
       obtain ⟨k3, rfl⟩ := qz gk HA
       have H := HA.out; clear HA; simp only [laws_FnGroups.l1] at H; replace H := qc H; obtain ⟨cR, H⟩ | ⟨cR, H⟩ := H; replace H := qd H; obtain ⟨eX, H⟩ := H; replace H := qd H; obtain ⟨eY, H⟩ := H; replace H := qd H; obtain ⟨eZ, H⟩ := H; replace H := qd H; obtain ⟨fA, H⟩ := H; replace H := qd H; obtain ⟨fB, H⟩ := H; replace H := qc H; obtain ⟨cS, H⟩ | ⟨cS, H⟩ := H; replace H := qc H; obtain ⟨cT, H⟩ | ⟨cT, H⟩ := H; by_cases aO : (rd a1 ((rd_T37 a4 a5).f0)) = (rd a1 ((rd_T37 a4 a5).f1)); rw [if_pos aO] at H; have cU : ((rd a1 ((rd_T37 a4 a5).f0)) == (rd a1 ((rd_T37 a4 a5).f1))) = true := beq_iff_eq.mpr aO; have cV : ((rd a1 ((rd_T37 a4 a5).f0)) != (rd a1 ((rd_T37 a4 a5).f1))) = false := bne_eq_false_iff_eq.mpr aO; clear aO; have H' := az H; clear H; refine ?L12; rotate_left; rw [if_neg aO] at H; have cU : ((rd a1 ((rd_T37 a4 a5).f0)) == (rd a1 ((rd_T37 a4 a5).f1))) = false := beq_eq_false_iff_ne.mpr aO; have cV : ((rd a1 ((rd_T37 a4 a5).f0)) != (rd a1 ((rd_T37 a4 a5).f1))) = true := bne_iff_ne.mpr aO; obtain rfl := Option.some.inj H; refine ?L13
       rotate_right
       rotate_left 2
       have H' := az H; clear H; refine ?L14
       rotate_right 2
       rotate_left 3
       have H' := az H; clear H; refine ?L15
       rotate_right 3
       rotate_left 4
       obtain rfl := Option.some.inj H; refine ?L16
       rotate_right 4
       case' L12 | L13 | L14 | L15 | L16 =>
        obtain ⟨fS, fT, eI⟩ := Kd.R_slice bM.out; subst eI
       case' L12 | L13 | L14 | L15 =>
        obtain ⟨bN, bO, dF, dY, eJ, eK, eL, eM, eN⟩ := ay37 (rr bM) a5; cases dY; have bP : 0 ≤ (((rd_T37 a4 a5).f0) : Int) := qD; have bQ : ((rd_T37 a4 a5).f0) < (a1.length : Int) := qD; obtain ⟨dG, dZ, eO⟩ := Kd.at_int (rr a6) ((rd_T37 a4 a5).f0) bP bQ; cases dZ; replace bP := eq_true bP; replace bQ := eq_true bQ; obtain ⟨bR, bT, dH, e0, eP, eQ, eR, eS, eT⟩ := ay37 (rr bM) a5; obtain rfl : dF = dH := (by injection e0); have bU : 0 ≤ (((rd_T37 a4 a5).f1) : Int) := qD; have bV : ((rd_T37 a4 a5).f1) < (a1.length : Int) := qD; obtain ⟨dI, e1, eU⟩ := Kd.at_int (rr a6) ((rd_T37 a4 a5).f1) bU bV; obtain rfl : dG = dI := (by injection e1); replace bU := eq_true bU; replace bV := eq_true bV; go_wp2
        repeat (go_quiet (fail); try go_wp2)
       case' L12 | L14 | L15 =>
        go_roundg k3
        case measure => exact mc aX aY e3
        exact ⟨(wrap64 (a5 + 1)), qG, H', ⟨mc aX aY e3⟩, ⟨qR a6⟩, ⟨qR bM⟩, ⟨qL HB⟩⟩
       case L13 =>
        go_ret
        exact ⟨qE, qL HB⟩
       case L16 =>
        go_wp2
        repeat (go_quiet (fail); try go_wp2)
        go_ret
        exact ⟨qE, qL HB⟩

/-- THE ONE PURE STATEMENT of laws_FnGroups: yours. -/
def laws_FnGroups.Pure : Prop := ∀ (l0 : List Int), l0.length ≤ maxLen → l0.length * 1 ≤ 140737488351232 → (∀ x ∈ l0, (Lit.int .u8 x).wf = true) → ∃ k, laws_FnGroups.f k l0 = some true
theorem laws_FnGroups.walk (P : laws_FnGroups.Pure) (a0 : Option Addr) (len0 cap0 : Nat) (z0 : List Int) (w : World) (w0 : (a0 = none ∧ len0 = 0 ∧ cap0 = 0 ∧ z0 = []) ∨ ∃ x, a0 = some x ∧ len0 ≤ cap0 ∧ cap0 ≤ maxLen ∧ z0.length = cap0 ∧ (∀ i, i < z0.length → w.cell? (x.add i) = some (.int .u8 (z0.getD i 0))) ∧ ∀ n ∈ z0, (Lit.int .u8 n).wf = true) (y0 : len0 * 1 ≤ 140737488351232) :
  Calls Try.prog 12 #[.slice a0 len0 cap0] w fun e w' => e = .returned (.bool true) ∧ Below w.heap.size w w' := by
 obtain ⟨l0, rfl, hr0, hm0, fH, hc0⟩ := ReadsInt.ofRowC w0
 obtain ⟨k, h⟩ := P l0 hm0 y0 fH
 refine (laws_FnGroups.calls (k := k) (l0 := l0) (r := true) (w := w) (Kd.C_of_reads (d := (0 : Int)) (h1 := fun _ => rfl) hr0) hc0 h).mono ?_
 rintro e w' ⟨rfl, hd⟩
 exact ⟨rfl, hd⟩
end Go.Proofs.Ytdngjedhbnoaoaa.PBig
