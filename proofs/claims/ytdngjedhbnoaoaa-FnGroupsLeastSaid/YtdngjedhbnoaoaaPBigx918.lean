/- What these functions compute, each walked once: laws_FnGroupsLeast; for all arguments and worlds, under the conditions that each theorem names. -/
import Derived.Test.YtdngjedhbnoaoaaSq
import Derived.Test.YtdngjedhbnoaoaaPBigx913
import Derived.Test.YtdngjedhbnoaoaaPBigx914
import Derived.Test.YtdngjedhbnoaoaaPBigx916
import Derived.Test.YtdngjedhbnoaoaaPBigx917
namespace Go.Proofs.Ytdngjedhbnoaoaa.PBig
open Go.RowKit Go.Proofs.YtdngjedhbnoaoaaW.PrintWords Go.Proofs.YtdngjedhbnoaoaaW.PrintLast Go.Proofs.YtdngjedhbnoaoaaW.PrintMore
attribute [local go_sem] max2_int min2_int max_two min_two max_three min_three max_four min_four
set_option linter.unusedVariables false
set_option linter.unusedSimpArgs false
set_option maxHeartbeats 8000000
set_option maxRecDepth 100000

/-! ### laws_FnGroupsLeast: function 3 -/
mutual
def laws_FnGroupsLeast.j0 : Nat → List S41 → List Int → Bool → Option (Bool)
  | 0, _, _, _ => none
  | k + 1, x3, x4, hK => if hK = true then ((spec_Groups.f k x3).bind fun eT => ((laws_pqInts.f k x4 eT).bind fun eU => (some eU))) else ((impl_Contacts.f k x3).bind fun eV => (laws_FnGroupsLeast.l0 k x3 x4 eV 0))
def laws_FnGroupsLeast.l0 : Nat → List S41 → List Int → List S37 → Int → Option (Bool)
  | 0, _, _, _, _ => none
  | k + 1, x3, x4, x5, x6 => if x6 < (x3.length : Int) then (if 0 ≤ x6 then (if x6 < (x4.length : Int) then (if (rd x4 x6) < 0 then (laws_FnGroupsLeast.l0 k x3 x4 x5 (wrap64 (x6 + 1))) else (if 0 ≤ (x3.length : Int) then (if ((x3.length : Int) : Int).toNat ≤ 281474976710656 then ((some (List.replicate ((x3.length : Int) : Int).toNat false : List Bool)).bind fun dK => (if x6 < (dK.length : Int) then (laws_FnGroupsLeast.l1 k x3 x4 x5 x6 (dK.set (x6 : Int).toNat true) 0) else none)) else none) else none)) else none) else none) else (some true)
def laws_FnGroupsLeast.l1 : Nat → List S41 → List Int → List S37 → Int → List Bool → Int → Option (Bool)
  | 0, _, _, _, _, _, _ => none
  | k + 1, x3, x4, x5, x6, x7, x8 => if x8 < (x3.length : Int) then (laws_FnGroupsLeast.l2 k x3 x4 x5 x6 x7 x8 0) else (laws_FnGroupsLeast.l3 k x3 x4 x5 x6 x7 0)
def laws_FnGroupsLeast.l2 : Nat → List S41 → List Int → List S37 → Int → List Bool → Int → Int → Option (Bool)
  | 0, _, _, _, _, _, _, _ => none
  | k + 1, x3, x4, x5, x6, x7, x8, x9 => if x9 < (x5.length : Int) then (if 0 ≤ x9 then (if 0 ≤ ((rd_T37 x5 x9).f0) then (if ((rd_T37 x5 x9).f0) < (x3.length : Int) then (if ((rd_T41 x3 ((rd_T37 x5 x9).f0)).f4) > 0 then (if 0 ≤ ((rd_T37 x5 x9).f1) then (if ((rd_T37 x5 x9).f1) < (x3.length : Int) then (if ((rd_T41 x3 ((rd_T37 x5 x9).f1)).f4) > 0 then (if ((rd_T37 x5 x9).f0) < (x7.length : Int) then (if rdOf false x7 ((rd_T37 x5 x9).f0) = true then (if ((rd_T37 x5 x9).f1) < (x7.length : Int) then (laws_FnGroupsLeast.l2 k x3 x4 x5 x6 ((x7.set (((rd_T37 x5 x9).f0) : Int).toNat true).set (((rd_T37 x5 x9).f1) : Int).toNat true) x8 (wrap64 (x9 + 1))) else none) else (if ((rd_T37 x5 x9).f1) < (x7.length : Int) then (if rdOf false x7 ((rd_T37 x5 x9).f1) = true then (laws_FnGroupsLeast.l2 k x3 x4 x5 x6 ((x7.set (((rd_T37 x5 x9).f0) : Int).toNat true).set (((rd_T37 x5 x9).f1) : Int).toNat true) x8 (wrap64 (x9 + 1))) else (laws_FnGroupsLeast.l2 k x3 x4 x5 x6 x7 x8 (wrap64 (x9 + 1)))) else none)) else none) else (laws_FnGroupsLeast.l2 k x3 x4 x5 x6 x7 x8 (wrap64 (x9 + 1)))) else none) else none) else (laws_FnGroupsLeast.l2 k x3 x4 x5 x6 x7 x8 (wrap64 (x9 + 1)))) else none) else none) else none) else (laws_FnGroupsLeast.l1 k x3 x4 x5 x6 x7 (wrap64 (x8 + 1)))
def laws_FnGroupsLeast.l3 : Nat → List S41 → List Int → List S37 → Int → List Bool → Int → Option (Bool)
  | 0, _, _, _, _, _, _ => none
  | k + 1, x3, x4, x5, x6, x7, c5 => if c5 < (x3.length : Int) then (if 0 ≤ c5 then (if c5 < (x4.length : Int) then (if 0 ≤ x6 then (if x6 < (x4.length : Int) then (if (rd x4 c5) = (rd x4 x6) then (if c5 < (x7.length : Int) then (if rdOf false x7 c5 = true then (laws_FnGroupsLeast.l3 k x3 x4 x5 x6 x7 (wrap64 (c5 + 1))) else (some false)) else none) else (laws_FnGroupsLeast.l3 k x3 x4 x5 x6 x7 (wrap64 (c5 + 1)))) else none) else none) else none) else none) else (laws_FnGroupsLeast.l0 k x3 x4 x5 (wrap64 (x6 + 1)))
end
def laws_FnGroupsLeast.f (k : Nat) (l0 : List Int) : Option (Bool) := if (l0.length : Int) > 1048576 then (some true) else ((spec_DrawGroups.f k l0).bind fun bP => ((impl_Groups.f k bP).bind fun cJ => ((spec_Groups.f k bP).bind fun eW => ((laws_pqInts.f k cJ eW).bind fun eX => (if eX = true then ((spec_BodiesOk.f k bP).bind fun eY => (laws_FnGroupsLeast.j0 k bP cJ (!eY))) else (laws_FnGroupsLeast.j0 k bP cJ true))))))
theorem laws_FnGroupsLeast.calls {k : Nat} {A0 : Option Addr} {c0 : Nat} {l0 : List Int} {r : Bool} {w : World} (hr0 : Kd.C (Kd.int .u8) w A0 l0.length l0) (hc0 : l0.length ≤ c0) (h : laws_FnGroupsLeast.f k l0 = some r) :
  Calls Try.prog 3 #[.slice A0 l0.length c0] w fun e w' => e = .returned (.bool r) ∧ Below w.heap.size w w' := by
 have HR0 := az hr0; have e4 := az hc0; clear hr0 hc0; have HB := br w
 unfold laws_FnGroupsLeast.f at h
 have H := h; clear h; by_cases aQ : (l0.length : Int) > 1048576; rw [if_pos aQ] at H; have aZ : decide (1048576 < (l0.length : Int)) = true := decide_eq_true aQ; have b0 : decide (1048576 < l0.length) = true := decide_eq_true (by omega); clear aQ; obtain rfl := Option.some.inj H; refine ?L1; rotate_left; rw [if_neg aQ] at H; have aZ : decide (1048576 < (l0.length : Int)) = false := decide_eq_false aQ; have b0 : decide (1048576 < l0.length) = false := decide_eq_false (by omega); clear aQ; replace H := qH H; obtain ⟨a4, cK, H⟩ := H
 replace H := qH H; obtain ⟨a8, cL, H⟩ := H
 refine ?L21
 rotate_right
 case L1 =>
  go_enter Try.func3, Try.ntmps3; go_wp2
  repeat (go_quiet (fail); try go_wp2)
  go_ret
  exact ⟨qE, qL HB⟩
 case L21 =>
  have e5 := az H; clear H; go_enter Try.func3, Try.ntmps3
  go_upto_region 5 with (first | (go_at_call 13; (with_reducible refine (spec_DrawGroups.calls (qC HR0.out) e4.out cK.out).mono ?_); rintro e w6 ⟨dL, rfl, aJ, hb⟩; have aD := lo aJ HB; replace HB := bS HB hb; clear hb; obtain ⟨cD, cE, dF⟩ := Kd.R_slice aD.out; subst dF) | (go_at_call 14; (with_reducible refine (impl_Groups.calls (qC (rr aD)) ((rc aD)) cL.out).mono ?_); rintro e w8 ⟨c8, rfl, aJ, hb⟩; have aG := lo aJ HB; replace aD := rb aD hb; replace HB := bS HB hb; clear hb))
  repeat (go_quiet (first | (go_at_call 13; (with_reducible refine (spec_DrawGroups.calls (qC HR0.out) e4.out cK.out).mono ?_); rintro e w6 ⟨dL, rfl, aJ, hb⟩; have aD := lo aJ HB; replace HB := bS HB hb; clear hb; obtain ⟨cD, cE, dF⟩ := Kd.R_slice aD.out; subst dF) | (go_at_call 14; (with_reducible refine (impl_Groups.calls (qC (rr aD)) ((rc aD)) cL.out).mono ?_); rintro e w8 ⟨c8, rfl, aJ, hb⟩; have aG := lo aJ HB; replace aD := rb aD hb; replace HB := bS HB hb; clear hb)); go_upto_region 5 with (first | (go_at_call 13; (with_reducible refine (spec_DrawGroups.calls (qC HR0.out) e4.out cK.out).mono ?_); rintro e w6 ⟨dL, rfl, aJ, hb⟩; have n0_ := lo aJ HB; have n1_ := bS HB hb; clear HB; have aD := n0_; have HB := n1_; clear n0_ n1_; obtain ⟨cD, cE, dF⟩ := Kd.R_slice aD.out; subst dF) | (go_at_call 14; (with_reducible refine (impl_Groups.calls (qC (rr aD)) ((rc aD)) cL.out).mono ?_); rintro e w8 ⟨c8, rfl, aJ, hb⟩; have n0_ := rb aD hb; have n1_ := lo aJ HB; have n2_ := bS HB hb; clear aD; clear HB; have aD := n0_; have aG := n1_; have HB := n2_; clear n0_ n1_ n2_)))
  (try simp only [Act.put, List.setIfInBounds_toArray, List.set_cons_zero, List.set_cons_succ])
  go_cut [29] (fun hL wc => ∃ (kq : Nat) (c9 : Bool), hL = .bool c9 ∧ Aside0 (laws_FnGroupsLeast.j0 kq a4 a8 c9 = some r) ∧ Aside0 (kq ≤ k) ∧ Aside0 (Kd.R k41 41 wc w.heap.size (fun _ => True) (.slice cD a4.length cE) a4) ∧ Aside0 (Kd.R (Kd.int .i64) 3 wc w.heap.size (fun _ => True) c8 a8) ∧ Aside0 (Below w.heap.size w wc))
  case first =>
   have H := e5.out; clear e5; replace H := qH H; obtain ⟨a1, bQ, H⟩ := H
   replace H := qH H; obtain ⟨dM, b6, H⟩ := H
   by_cases cA : dM = true; subst cA; replace H := qT H; replace H := qH H; obtain ⟨eZ, fA, H⟩ := H
   have H' := az H; clear H; refine ?L2; rotate_left; replace cA := Bool.eq_false_iff.mpr cA; subst cA; replace H := qU H; have H' := az H; clear H; refine ?L3
   rotate_right
   case' L2 | L3 =>
    go_wp2_with (first | (go_at_call 16; (with_reducible refine (spec_Groups.calls (qC (rr aD)) ((rc aD)) bQ.out).mono ?_); rintro e jH ⟨hS, rfl, aJ, hb⟩; have aK := lo (rn aJ aG) HB; replace aD := rb aD hb; replace aG := re aG aJ hb; replace HB := bS HB hb; clear hb; obtain ⟨hW, hX, fT⟩ := Kd.R_slice aG.out; subst fT; obtain ⟨hY, hZ, fU⟩ := Kd.R_slice aK.out; subst fU) | (go_at_call 15; (with_reducible refine (laws_pqInts.calls (r := true) (qC (rr aG)) ((rc aG)) (qC (rr aK)) ((rc aK)) b6.out).mono ?_); rintro e w' ⟨rfl, ⟨nd, rfl⟩⟩; (try first | exact ⟨rfl, _, World.drewN_drewN _ _ _⟩ | exact ⟨rfl, _, Eq.trans (World.drewN_drewN _ _ _) (congrArg (World.drewN _) (Nat.add_assoc _ _ _))⟩)) | (go_at_call 17; (with_reducible refine (spec_BodiesOk.calls (qC (rr aD)) ((rc aD)) fA.out).mono ?_); rintro e jI ⟨rfl, hb⟩; replace aD := rb aD hb; replace aG := rb aG hb; replace aK := rb aK hb; replace HB := bS HB hb; clear hb) | (go_quiet (first | (go_at_call 15; (with_reducible refine (laws_pqInts.calls (r := true) (qC (rr aG)) ((rc aG)) (qC (rr aK)) ((rc aK)) b6.out).mono ?_); rintro e w' ⟨rfl, ⟨nd, rfl⟩⟩; (try first | exact ⟨rfl, _, World.drewN_drewN _ _ _⟩ | exact ⟨rfl, _, Eq.trans (World.drewN_drewN _ _ _) (congrArg (World.drewN _) (Nat.add_assoc _ _ _))⟩)))) | (go_at_call 15; (with_reducible refine (laws_pqInts.calls (r := false) (qC (rr aG)) ((rc aG)) (qC (rr aK)) ((rc aK)) b6.out).mono ?_); rintro e w' ⟨rfl, ⟨nd, rfl⟩⟩; (try first | exact ⟨rfl, _, World.drewN_drewN _ _ _⟩ | exact ⟨rfl, _, Eq.trans (World.drewN_drewN _ _ _) (congrArg (World.drewN _) (Nat.add_assoc _ _ _))⟩)) | (go_quiet (first | (go_at_call 15; (with_reducible refine (laws_pqInts.calls (r := false) (qC (rr aG)) ((rc aG)) (qC (rr aK)) ((rc aK)) b6.out).mono ?_); rintro e w' ⟨rfl, ⟨nd, rfl⟩⟩; (try first | exact ⟨rfl, _, World.drewN_drewN _ _ _⟩ | exact ⟨rfl, _, Eq.trans (World.drewN_drewN _ _ _) (congrArg (World.drewN _) (Nat.add_assoc _ _ _))⟩)))))
    go_meet
   case L2 =>
    exact ⟨_, (!eZ), qG, H', ⟨qO⟩, ⟨qR aD⟩, ⟨by (with_reducible repeat (first | apply Kd.R_alloc | apply Kd.R_drewN | apply Kd.R_drew)); exact Kd.R_mono aG.out (fun _ hk => trivial)⟩, ⟨qL HB⟩⟩
   case L3 =>
    exact ⟨_, (true), qG, H', ⟨qO⟩, ⟨qR aD⟩, ⟨by (with_reducible repeat (first | apply Kd.R_alloc | apply Kd.R_drewN | apply Kd.R_drew)); exact Kd.R_mono aG.out (fun _ hk => trivial)⟩, ⟨qL HB⟩⟩
  case rest =>
   clear e5; obtain ⟨kq, c9, rfl, HA, aO, a7, a6, HB⟩ := hcut
   obtain ⟨fO, rfl⟩ := qz kq HA
   have H := HA.out; clear HA; simp only [laws_FnGroupsLeast.j0] at H; by_cases b2 : c9 = true; subst b2; replace H := qT H; replace H := qH H; obtain ⟨a1, bQ, H⟩ := H
   replace H := qH H; obtain ⟨dM, b6, H⟩ := H
   obtain rfl := Option.some.inj H; refine ?L4; rotate_left; replace b2 := Bool.eq_false_iff.mpr b2; subst b2; replace H := qU H; replace H := qH H; obtain ⟨a1, bQ, H⟩ := H
   have H' := az H; clear H; refine ?L20
   rotate_right
   case L4 =>
    go_wp2_with (first | (go_at_call 16; (with_reducible refine (spec_Groups.calls (qC (rr a7)) ((rc a7)) bQ.out).mono ?_); rintro e jJ ⟨hU, rfl, aJ, hb⟩; have bA := lo (rn aJ a6) HB; replace a7 := rb a7 hb; replace a6 := re a6 aJ hb; replace HB := bS HB hb; clear hb; obtain ⟨jA, jB, fV⟩ := Kd.R_slice a6.out; subst fV; obtain ⟨jC, jD, fW⟩ := Kd.R_slice bA.out; subst fW) | (go_at_call 15; (with_reducible refine (laws_pqInts.calls (qC (rr a6)) ((rc a6)) (qC (rr bA)) ((rc bA)) b6.out).mono ?_); rintro e w' ⟨rfl, ⟨nd, rfl⟩⟩; (try first | exact ⟨rfl, _, World.drewN_drewN _ _ _⟩ | exact ⟨rfl, _, Eq.trans (World.drewN_drewN _ _ _) (congrArg (World.drewN _) (Nat.add_assoc _ _ _))⟩)) | (go_quiet (first | (go_at_call 15; (with_reducible refine (laws_pqInts.calls (qC (rr a6)) ((rc a6)) (qC (rr bA)) ((rc bA)) b6.out).mono ?_); rintro e w' ⟨rfl, ⟨nd, rfl⟩⟩; (try first | exact ⟨rfl, _, World.drewN_drewN _ _ _⟩ | exact ⟨rfl, _, Eq.trans (World.drewN_drewN _ _ _) (congrArg (World.drewN _) (Nat.add_assoc _ _ _))⟩)))))
    go_ret
    exact ⟨qE, qL HB⟩
   case L20 =>
    go_wp2_with (first | (go_at_call 18; (with_reducible refine (impl_Contacts.calls (qC (rr a7)) ((rc a7)) bQ.out).mono ?_); rintro e jK ⟨cB, rfl, aJ, hb⟩; have e6 := lo aJ HB; replace a7 := rb a7 hb; replace a6 := rb a6 hb; replace HB := bS HB hb; clear hb) | (go_quiet (fail)))
    go_loopg [6] fO (fun kq v6 w' => ∃ (a9 : Int), v6 = .int .i64 a9 ∧ Aside0 (laws_FnGroupsLeast.l0 kq a4 a8 a1 a9 = some r) ∧ Aside0 (kq ≤ fO) ∧ Aside0 (Kd.R k41 41 w' w.heap.size (fun _ => True) (.slice cD a4.length cE) a4) ∧ Aside0 (Kd.R (Kd.int .i64) 3 w' w.heap.size (fun _ => True) c8 a8) ∧ Aside0 (Kd.R k37 37 w' w.heap.size (fun _ => True) cB a1) ∧ Aside0 (Below w.heap.size w w'))
    case atStart => exact ⟨(0), qG, H', ⟨Nat.le_refl _⟩, ⟨qR a7⟩, ⟨qR a6⟩, ⟨qR e6⟩, ⟨qL HB⟩⟩
    case round =>
     clear H'; obtain ⟨a9, rfl, HA, aP, a7, a6, aA, HB⟩ := hrel
     obtain ⟨k2, rfl⟩ := qz gk HA
     have H := HA.out; clear HA; simp only [laws_FnGroupsLeast.l0] at H; replace H := qc H; obtain ⟨bE, H⟩ | ⟨bE, H⟩ := H; replace H := qd H; obtain ⟨bF, H⟩ := H; replace H := qd H; obtain ⟨bG, H⟩ := H; replace H := qc H; obtain ⟨bH, H⟩ | ⟨bH, H⟩ := H; have H' := az H; clear H; refine ?L5; rotate_left; replace H := qif H; obtain ⟨bI, H⟩ := H; have bY := eq_true bI; have bZ : decide (0 ≤ (a4.length : Int)) = true := decide_eq_true bI; clear bI; replace H := qif H; obtain ⟨bJ, H⟩ := H; have c1 := eq_true bJ; have c2 : decide (((a4.length : Int) : Int).toNat ≤ 281474976710656) = true := decide_eq_true bJ; clear bJ; obtain ⟨aU, bB⟩ : ∃ y_ : List Bool, y_ = (List.replicate ((a4.length : Int) : Int).toNat false) := ⟨_, rfl⟩
     replace H : (if a9 < (aU.length : Int) then (laws_FnGroupsLeast.l1 k2 a4 a8 a1 a9 (aU.set (a9 : Int).toNat true) 0) else none) = some r := qs H bB
     have dG := az bB; clear bB; replace H := qd H; obtain ⟨c3, H⟩ := H; obtain ⟨cM, bC⟩ : ∃ y_ : List Bool, y_ = (aU.set (a9 : Int).toNat true) := ⟨_, rfl⟩
     replace H : (laws_FnGroupsLeast.l1 k2 a4 a8 a1 a9 cM 0) = some r := qs H bC
     have e7 := az bC; clear bC; have H' := az H; clear H; refine ?L18
     rotate_right
     rotate_left 2
     obtain rfl := Option.some.inj H; refine ?L19
     rotate_right 2
     case' L5 | L18 =>
      obtain ⟨jE, dJ, fX⟩ := Kd.R_slice a6.out; subst fX; obtain ⟨cN, cO, bD, fB, fY⟩ := ayi (rr a6) a9; cases fB
     case L5 =>
      go_wp2
      repeat (go_quiet (fail); try go_wp2)
      go_roundg k2
      case measure => exact mb aO aP
      exact ⟨(wrap64 (a9 + 1)), qG, H', ⟨mb aO aP⟩, ⟨qR a7⟩, ⟨qR a6⟩, ⟨qR aA⟩, ⟨qL HB⟩⟩
     case L18 =>
      go_wp2_with (first | ((with_reducible refine gd 49 rfl ?_); refine Kd.R_make Kd.bool _ 4 rfl (N := 49) rfl 31 _ _ rfl (a4.length : Int) rfl rfl Try.underlying31 (.bool false) 1 info4 rfl (by decide) (by omega) false (ok := fun _ => True) (okp := fun _ => True) rfl (fun _ hk => hk) trivial (of_decide_eq_true (by first | (with_reducible assumption) | assumption)) (Nat.le_trans (Nat.mul_le_mul_right _ (of_decide_eq_true (by first | (with_reducible assumption) | assumption) : (a4.length : Int).toNat ≤ 281474976710656)) (by omega)) (Below.refl _ _) (Nat.le_refl _) ?_; intro hV dH cF hb hg_ hnew_; clear hg_ hnew_; (first | rw [← dG.out] at cF | (simp only [Int.reduceToNat] at cF; rw [← dG.out] at cF)); have aI := lo cF HB; replace a7 := rb a7 hb; replace a6 := rb a6 hb; replace aA := rb aA hb; replace HB := bS HB hb; clear hb cF; have bT : 0 ≤ (a9 : Int) := qD; have bU : (a9 : Int) < ((aU.length : Int) : Int) := qD; obtain ⟨aE, aH, e8, e9, fZ, cl36, HG36⟩ := Kd.R_form aI.out (by omega); (first | cases e8 | (injection e8 with ea_ en_ ec_; (first | subst ea_ | (injection ea_ with ea_; subst ea_)); subst ec_; clear en_)); have GB36 := az e9; have GG36 := az HG36; clear e9 fZ HG36; obtain ⟨cG, hf36_0⟩ := Kd.R_celln false aI.out (a9 : Int) bT bU; replace bT := eq_true bT; replace bU := eq_true bU; obtain ⟨fC, hz40_⟩ := Kd.R_celln false aI.out (a9 : Int) (of_decide_eq_true (by first | (with_reducible assumption) | assumption)) (of_decide_eq_true (by first | (with_reducible assumption) | assumption)); have HP40 := Kd.R_putg aI.out (a9 : Int) true) | ((with_reducible refine gs 4 52 rfl ?_); (try (rw [drewN_self dH]; generalize hq_ : World.drewN dH _ = dH; have n0_ := az (Kd.R_at hq_ a7.out); have n1_ := az (Kd.R_at hq_ a6.out); have n2_ := az (Kd.R_at hq_ aA.out); have n3_ := az (Kd.R_at hq_ aI.out); have n4_ := az (below_at hq_ HB.out); clear hq_ a7 a6 aA aI HB; have a7 := n0_; have a6 := n1_; have aA := n2_; have aI := n3_; have HB := n4_; clear n0_ n1_ n2_ n3_ n4_; (try (obtain ⟨fC, hz40_⟩ := Kd.R_celln false aI.out (a9 : Int) (of_decide_eq_true (by first | (with_reducible assumption) | assumption)) (of_decide_eq_true (by first | (with_reducible assumption) | assumption)))); (try (have HP40 := Kd.R_putg aI.out (a9 : Int) true)))); refine sw 4 52 (dH.setCell ⟨aE, (a9 : Int).toNat, none⟩ (.bool true)) ?_; intro eA hw; have hg : dH.grownBy eA (some aE) := (by rw [hw]; exact HP40.2); have hp_ : Kd.R Kd.bool 4 eA w.heap.size (fun _ => True) (.slice (some ⟨aE, 0, none⟩) aU.length aH) cM := (by rw [hw, e7.out]; exact HP40.1); clear HP40; replace a7 := ro a7 aI hg; replace a6 := ro a6 aI hg; replace aA := ro aA aI hg; replace aI := az (hp_); replace HB := az ((by rw [hw]; exact below_set (HB.out) GB36.out : Below w.heap.size w eA)); clear hg hw hp_) | (go_quiet (fail)))
      go_loopg [8] k2 (fun kq v8 w' => ∃ (aV : List Bool) (aN : Int), v8 = .int .i64 aN ∧ Aside0 (laws_FnGroupsLeast.l1 kq a4 a8 a1 a9 aV aN = some r) ∧ Aside0 (kq ≤ k2) ∧ Aside0 (Kd.R k41 41 w' w.heap.size (fun _ => True) (.slice cD a4.length cE) a4) ∧ Aside0 (Kd.R (Kd.int .i64) 3 w' w.heap.size (fun _ => True) (.slice (some bD) a8.length dJ) a8) ∧ Aside0 (Kd.R k37 37 w' w.heap.size (fun _ => True) cB a1) ∧ Aside0 (Kd.R Kd.bool 4 w' w.heap.size (fun _ => True) (.slice (some ⟨aE, 0, none⟩) aU.length aH) aV) ∧ Aside0 (Below w.heap.size w w'))
      case atStart => exact ⟨(cM), (0), qG, H', ⟨Nat.le_refl _⟩, ⟨qR a7⟩, ⟨qR a6⟩, ⟨qR aA⟩, ⟨qR aI⟩, ⟨qL HB⟩⟩
      case round =>
       clear H'; obtain ⟨aV, aN, rfl, HA, aT, a7, a6, aA, a3, HB⟩ := hrel; have a5 := ra a3; rw [a5] at a3; (try simp only [a5]); (try simp only [a5] at a7); (try simp only [a5] at a6); (try simp only [a5] at aA)
       obtain ⟨k3, rfl⟩ := qz gk HA
       have H := HA.out; clear HA; simp only [laws_FnGroupsLeast.l1] at H; replace H := qc H; obtain ⟨c4, H⟩ | ⟨c4, H⟩ := H; have H' := az H; clear H; refine ?L12; rotate_left; have H' := az H; clear H; refine ?L17
       rotate_right
       case' L12 | L17 =>
        go_wp2
        repeat (go_quiet (fail); try go_wp2)
       case L12 =>
        go_loopg [9] k3 (fun kq v9 w' => ∃ (aB : List Bool) (a2 : Int), v9 = .int .i64 a2 ∧ Aside0 (laws_FnGroupsLeast.l2 kq a4 a8 a1 a9 aB aN a2 = some r) ∧ Aside0 (kq ≤ k3) ∧ Aside0 (Kd.R k41 41 w' w.heap.size (fun _ => True) (.slice cD a4.length cE) a4) ∧ Aside0 (Kd.R (Kd.int .i64) 3 w' w.heap.size (fun _ => True) (.slice (some bD) a8.length dJ) a8) ∧ Aside0 (Kd.R k37 37 w' w.heap.size (fun _ => True) cB a1) ∧ Aside0 (Kd.R Kd.bool 4 w' w.heap.size (fun _ => True) (.slice (some ⟨aE, 0, none⟩) aV.length aH) aB) ∧ Aside0 (Below w.heap.size w w'))
        case atStart => exact ⟨(aV), (0), qG, H', ⟨Nat.le_refl _⟩, ⟨by (try simp only [a5]); (with_reducible repeat (first | apply Kd.R_alloc | apply Kd.R_drewN | apply Kd.R_drew)); exact a7.out⟩, ⟨by (try simp only [a5]); (with_reducible repeat (first | apply Kd.R_alloc | apply Kd.R_drewN | apply Kd.R_drew)); exact a6.out⟩, ⟨by (try simp only [a5]); (with_reducible repeat (first | apply Kd.R_alloc | apply Kd.R_drewN | apply Kd.R_drew)); exact aA.out⟩, ⟨by (try simp only [a5]); (with_reducible repeat (first | apply Kd.R_alloc | apply Kd.R_drewN | apply Kd.R_drew)); exact a3.out⟩, ⟨qL HB⟩⟩
        case round =>
         clear H'; obtain ⟨aB, a2, rfl, HA, aR, a7, a6, aA, a3, HB⟩ := hrel; have aC := ra a3; rw [aC] at a3; (try simp only [aC]); (try simp only [aC] at a7); (try simp only [aC] at a6); (try simp only [aC] at aA)
         obtain ⟨k4, rfl⟩ := qz gk HA
         have H := HA.out; clear HA; simp only [laws_FnGroupsLeast.l2] at H; replace H := qc H; obtain ⟨dX, H⟩ | ⟨dX, H⟩ := H; replace H := qd H; obtain ⟨gZ, H⟩ := H; replace H := qd H; obtain ⟨hA, H⟩ := H; replace H := qd H; obtain ⟨hD, H⟩ := H; replace H := qc H; obtain ⟨dY, H⟩ | ⟨dY, H⟩ := H; replace H := qd H; obtain ⟨hE, H⟩ := H; replace H := qd H; obtain ⟨hF, H⟩ := H; replace H := qc H; obtain ⟨dZ, H⟩ | ⟨dZ, H⟩ := H; replace H := qd H; obtain ⟨hG, H⟩ := H; obtain ⟨bq7501, hbq7501⟩ : ∃ b_ : Bool, b_ = (rdOf false aB ((rd_T37 a1 a2).f0)) := ⟨_, rfl⟩
         replace H : (if bq7501 = true then (if ((rd_T37 a1 a2).f1) < (aB.length : Int) then (laws_FnGroupsLeast.l2 k4 a4 a8 a1 a9 ((aB.set (((rd_T37 a1 a2).f0) : Int).toNat true).set (((rd_T37 a1 a2).f1) : Int).toNat true) aN (wrap64 (a2 + 1))) else none) else (if ((rd_T37 a1 a2).f1) < (aB.length : Int) then (if rdOf false aB ((rd_T37 a1 a2).f1) = true then (laws_FnGroupsLeast.l2 k4 a4 a8 a1 a9 ((aB.set (((rd_T37 a1 a2).f0) : Int).toNat true).set (((rd_T37 a1 a2).f1) : Int).toNat true) aN (wrap64 (a2 + 1))) else (laws_FnGroupsLeast.l2 k4 a4 a8 a1 a9 aB aN (wrap64 (a2 + 1)))) else none)) = some r := by rw [← hbq7501] at H; exact H
         have Nbq7501 := az hbq7501; clear hbq7501; by_cases aY : bq7501 = true; subst aY; replace H := qT H; obtain ⟨bN, aS⟩ : ∃ y_ : List Bool, y_ = (aB.set (((rd_T37 a1 a2).f0) : Int).toNat true) := ⟨_, rfl⟩; (try replace H := qW H); (try dsimp only at H); (try rw [← aS] at H); have cH := az aS; clear aS; replace H := qd H; obtain ⟨e0, H⟩ := H; obtain ⟨b7, aL⟩ : ∃ y_ : List Bool, y_ = (bN.set (((rd_T37 a1 a2).f1) : Int).toNat true) := ⟨_, rfl⟩
         replace H : (laws_FnGroupsLeast.l2 k4 a4 a8 a1 a9 b7 aN (wrap64 (a2 + 1))) = some r := qs H aL
         have cI := az aL; clear aL; have H' := az H; clear H; refine ?L6; rotate_left; replace aY := Bool.eq_false_iff.mpr aY; subst aY; replace H := qU H; replace H := qd H; obtain ⟨e0, H⟩ := H; obtain ⟨bq7502, hbq7502⟩ : ∃ b_ : Bool, b_ = (rdOf false aB ((rd_T37 a1 a2).f1)) := ⟨_, rfl⟩
         replace H : (if bq7502 = true then (laws_FnGroupsLeast.l2 k4 a4 a8 a1 a9 ((aB.set (((rd_T37 a1 a2).f0) : Int).toNat true).set (((rd_T37 a1 a2).f1) : Int).toNat true) aN (wrap64 (a2 + 1))) else (laws_FnGroupsLeast.l2 k4 a4 a8 a1 a9 aB aN (wrap64 (a2 + 1)))) = some r := by rw [← hbq7502] at H; exact H
         have Nbq7502 := az hbq7502; clear hbq7502; by_cases cC : bq7502 = true; subst cC; replace H := qT H; obtain ⟨bN, aS⟩ : ∃ y_ : List Bool, y_ = (aB.set (((rd_T37 a1 a2).f0) : Int).toNat true) := ⟨_, rfl⟩
         replace H : (laws_FnGroupsLeast.l2 k4 a4 a8 a1 a9 (bN.set (((rd_T37 a1 a2).f1) : Int).toNat true) aN (wrap64 (a2 + 1))) = some r := qs H aS
         have cH := az aS; clear aS; obtain ⟨b7, aL⟩ : ∃ y_ : List Bool, y_ = (bN.set (((rd_T37 a1 a2).f1) : Int).toNat true) := ⟨_, rfl⟩
         replace H : (laws_FnGroupsLeast.l2 k4 a4 a8 a1 a9 b7 aN (wrap64 (a2 + 1))) = some r := qs H aL
         have cI := az aL; clear aL; have H' := az H; clear H; refine ?L7; rotate_left; replace cC := Bool.eq_false_iff.mpr cC; subst cC; replace H := qU H; have H' := az H; clear H; refine ?L8
         rotate_right 2
         rotate_left 3
         have H' := az H; clear H; refine ?L9
         rotate_right 3
         rotate_left 4
         have H' := az H; clear H; refine ?L10
         rotate_right 4
         rotate_left 5
         have H' := az H; clear H; refine ?L11
         rotate_right 5
         case' L6 | L7 | L8 | L9 | L10 | L11 =>
          obtain ⟨jF, jG, g0⟩ := Kd.R_slice aA.out; subst g0
         case' L6 | L7 | L8 | L9 | L10 =>
          obtain ⟨cP, cQ, eB, fD, g1, g2, g3, g4, g5⟩ := ay37 (rr aA) a2; cases fD; obtain ⟨cR, cS, eC, fE, g6, g7, g8, g9, gA⟩ := ay37 (rr aA) a2; obtain rfl : eB = eC := (by injection fE); have cT : 0 ≤ (((rd_T37 a1 a2).f0) : Int) := qD; have cU : ((rd_T37 a1 a2).f0) < (a4.length : Int) := qD; obtain ⟨eD, fG, gB, gC, gD, gF, gG, gH, gI, gJ, gL, gM, fP, fQ⟩ := at_T41 (rr a7) ((rd_T37 a1 a2).f0) cT cU; cases fG; replace cT := eq_true cT; replace cU := eq_true cU
         case' L6 | L7 | L8 | L9 =>
          have cV : 0 ≤ (((rd_T37 a1 a2).f1) : Int) := qD; have cW : ((rd_T37 a1 a2).f1) < (a4.length : Int) := qD; obtain ⟨eE, fH, gN, gO, gP, gQ, gR, gS, gT, gU, gV, gW, fR, fS⟩ := at_T41 (rr a7) ((rd_T37 a1 a2).f1) cV cW; obtain rfl : eD = eE := (by injection fH); replace cV := eq_true cV; replace cW := eq_true cW
         case' L6 | L7 | L8 =>
          have bW : 0 ≤ (((rd_T37 a1 a2).f0) : Int) := qD; have bX : ((rd_T37 a1 a2).f0) < (aB.length : Int) := qD; obtain ⟨dI, dT, aM⟩ := Kd.at_bool (rr a3) ((rd_T37 a1 a2).f0) bW bX; (try rw [← Nbq7501.out] at aM)
         case L6 =>
          obtain rfl : (⟨aE, 0, none⟩ : Addr) = dI := (by injection dT); (first | simp only [add_plain] at aM | simp only [add_at] at aM | simp only [Addr.add, Nat.zero_add] at aM | skip); replace bW := eq_true bW; replace bX := eq_true bX; have eF : 0 ≤ (((rd_T37 a1 a2).f0) : Int) := qD; have eG : (((rd_T37 a1 a2).f0) : Int) < ((aB.length : Int) : Int) := qD; obtain ⟨hM, hf54_0⟩ := Kd.R_celln false a3.out (((rd_T37 a1 a2).f0) : Int) eF eG; replace eF := eq_true eF; replace eG := eq_true eG; have HP58 := Kd.R_putg a3.out (((rd_T37 a1 a2).f0) : Int) true; go_wp2_with (first | ((with_reducible refine gs 4 103 rfl ?_); (try (rw [drewN_self wr]; generalize hq_ : World.drewN wr _ = wr; have n0_ := az (Kd.R_at hq_ a7.out); have n1_ := az (Kd.R_at hq_ a6.out); have n2_ := az (Kd.R_at hq_ aA.out); have n3_ := az (Kd.R_at hq_ a3.out); have n4_ := az (below_at hq_ HB.out); clear hq_ a7 a6 aA a3 HB; have a7 := n0_; have a6 := n1_; have aA := n2_; have a3 := n3_; have HB := n4_; clear n0_ n1_ n2_ n3_ n4_; (try (have HP58 := Kd.R_putg a3.out (((rd_T37 a1 a2).f0) : Int) true)))); refine sw 4 103 (wr.setCell ⟨aE, (((rd_T37 a1 a2).f0) : Int).toNat, none⟩ (.bool true)) ?_; intro c6 hw; have hg : wr.grownBy c6 (some aE) := (by rw [hw]; exact HP58.2); have hp_ : Kd.R Kd.bool 4 c6 w.heap.size (fun _ => True) (.slice (some ⟨aE, 0, none⟩) aB.length aH) bN := (by rw [hw, cH.out]; exact HP58.1); clear HP58; replace a7 := ro a7 a3 hg; replace a6 := ro a6 a3 hg; replace aA := ro aA a3 hg; replace a3 := az (hp_); replace HB := az ((by rw [hw]; exact below_set (HB.out) GB36.out : Below w.heap.size w c6)); clear hg hw hp_; have eH : 0 ≤ (((rd_T37 a1 a2).f1) : Int) := qD; have eI : (((rd_T37 a1 a2).f1) : Int) < ((aB.length : Int) : Int) := qD; obtain ⟨hO, hf56_0⟩ := Kd.R_celln false a3.out (((rd_T37 a1 a2).f1) : Int) eH eI; replace eH := eq_true eH; replace eI := eq_true eI; obtain ⟨fI, hz60_⟩ := Kd.R_celln false a3.out (((rd_T37 a1 a2).f1) : Int) (of_decide_eq_true (by first | (with_reducible assumption) | assumption)) (of_decide_eq_true (by first | (with_reducible assumption) | assumption)); have HP60 := Kd.R_putg a3.out (((rd_T37 a1 a2).f1) : Int) true) | ((with_reducible refine gs 4 106 rfl ?_); (try (rw [drewN_self c6]; generalize hq_ : World.drewN c6 _ = c6; have n0_ := az (Kd.R_at hq_ a7.out); have n1_ := az (Kd.R_at hq_ a6.out); have n2_ := az (Kd.R_at hq_ aA.out); have n3_ := az (Kd.R_at hq_ a3.out); have n4_ := az (below_at hq_ HB.out); clear hq_ a7 a6 aA a3 HB; have a7 := n0_; have a6 := n1_; have aA := n2_; have a3 := n3_; have HB := n4_; clear n0_ n1_ n2_ n3_ n4_; (try (obtain ⟨fI, hz60_⟩ := Kd.R_celln false a3.out (((rd_T37 a1 a2).f1) : Int) (of_decide_eq_true (by first | (with_reducible assumption) | assumption)) (of_decide_eq_true (by first | (with_reducible assumption) | assumption)))); (try (have HP60 := Kd.R_putg a3.out (((rd_T37 a1 a2).f1) : Int) true)))); refine sw 4 106 (c6.setCell ⟨aE, (((rd_T37 a1 a2).f1) : Int).toNat, none⟩ (.bool true)) ?_; intro eJ hw; have hg : c6.grownBy eJ (some aE) := (by rw [hw]; exact HP60.2); have hp_ : Kd.R Kd.bool 4 eJ w.heap.size (fun _ => True) (.slice (some ⟨aE, 0, none⟩) aB.length aH) b7 := (by rw [hw, cI.out]; exact HP60.1); clear HP60; replace a7 := ro a7 a3 hg; replace a6 := ro a6 a3 hg; replace aA := ro aA a3 hg; replace a3 := az (hp_); replace HB := az ((by rw [hw]; exact below_set (HB.out) GB36.out : Below w.heap.size w eJ)); clear hg hw hp_) | (go_quiet (fail)))
          (try simp only [← aC])
          go_roundg k4
          case measure => exact md aO aP aT aR
          exact ⟨(b7), (wrap64 (a2 + 1)), qG, H', ⟨md aO aP aT aR⟩, ⟨by (try simp only [a5]); (try simp only [aC]); (with_reducible repeat (first | apply Kd.R_alloc | apply Kd.R_drewN | apply Kd.R_drew)); exact a7.out⟩, ⟨by (try simp only [a5]); (try simp only [aC]); (with_reducible repeat (first | apply Kd.R_alloc | apply Kd.R_drewN | apply Kd.R_drew)); exact a6.out⟩, ⟨by (try simp only [a5]); (try simp only [aC]); (with_reducible repeat (first | apply Kd.R_alloc | apply Kd.R_drewN | apply Kd.R_drew)); exact aA.out⟩, ⟨by (try simp only [a5]); (try simp only [aC]); (with_reducible repeat (first | apply Kd.R_alloc | apply Kd.R_drewN | apply Kd.R_drew)); exact a3.out⟩, ⟨qL HB⟩⟩
         case' L7 | L8 =>
          (try rw [← Nbq7502.out] at aM); obtain rfl : (⟨aE, 0, none⟩ : Addr) = dI := (by injection dT); (first | simp only [add_plain] at aM | simp only [add_at] at aM | simp only [Addr.add, Nat.zero_add] at aM | skip); replace bW := eq_true bW; replace bX := eq_true bX; have cX : 0 ≤ (((rd_T37 a1 a2).f1) : Int) := qD; have cY : ((rd_T37 a1 a2).f1) < (aB.length : Int) := qD; obtain ⟨eK, fJ, b1⟩ := Kd.at_bool (rr a3) ((rd_T37 a1 a2).f1) cX cY; (try rw [← Nbq7501.out] at b1); (try rw [← Nbq7502.out] at b1); obtain rfl : (⟨aE, 0, none⟩ : Addr) = eK := (by injection fJ); (first | simp only [add_plain] at b1 | simp only [add_at] at b1 | simp only [Addr.add, Nat.zero_add] at b1 | skip); replace cX := eq_true cX; replace cY := eq_true cY
         case L7 =>
          have eL : 0 ≤ (((rd_T37 a1 a2).f0) : Int) := qD; have eM : (((rd_T37 a1 a2).f0) : Int) < ((aB.length : Int) : Int) := qD; obtain ⟨hP, hf65_0⟩ := Kd.R_celln false a3.out (((rd_T37 a1 a2).f0) : Int) eL eM; replace eL := eq_true eL; replace eM := eq_true eM; have HP68 := Kd.R_putg a3.out (((rd_T37 a1 a2).f0) : Int) true; go_wp2_with (first | ((with_reducible refine gs 4 103 rfl ?_); (try (rw [drewN_self wr]; generalize hq_ : World.drewN wr _ = wr; have n0_ := az (Kd.R_at hq_ a7.out); have n1_ := az (Kd.R_at hq_ a6.out); have n2_ := az (Kd.R_at hq_ aA.out); have n3_ := az (Kd.R_at hq_ a3.out); have n4_ := az (below_at hq_ HB.out); clear hq_ a7 a6 aA a3 HB; have a7 := n0_; have a6 := n1_; have aA := n2_; have a3 := n3_; have HB := n4_; clear n0_ n1_ n2_ n3_ n4_; (try (have HP68 := Kd.R_putg a3.out (((rd_T37 a1 a2).f0) : Int) true)))); refine sw 4 103 (wr.setCell ⟨aE, (((rd_T37 a1 a2).f0) : Int).toNat, none⟩ (.bool true)) ?_; intro c7 hw; have hg : wr.grownBy c7 (some aE) := (by rw [hw]; exact HP68.2); have hp_ : Kd.R Kd.bool 4 c7 w.heap.size (fun _ => True) (.slice (some ⟨aE, 0, none⟩) aB.length aH) bN := (by rw [hw, cH.out]; exact HP68.1); clear HP68; replace a7 := ro a7 a3 hg; replace a6 := ro a6 a3 hg; replace aA := ro aA a3 hg; replace a3 := az (hp_); replace HB := az ((by rw [hw]; exact below_set (HB.out) GB36.out : Below w.heap.size w c7)); clear hg hw hp_; have eN : 0 ≤ (((rd_T37 a1 a2).f1) : Int) := qD; have eO : (((rd_T37 a1 a2).f1) : Int) < ((aB.length : Int) : Int) := qD; obtain ⟨hQ, hf66_0⟩ := Kd.R_celln false a3.out (((rd_T37 a1 a2).f1) : Int) eN eO; replace eN := eq_true eN; replace eO := eq_true eO; obtain ⟨fK, hz70_⟩ := Kd.R_celln false a3.out (((rd_T37 a1 a2).f1) : Int) (of_decide_eq_true (by first | (with_reducible assumption) | assumption)) (of_decide_eq_true (by first | (with_reducible assumption) | assumption)); have HP70 := Kd.R_putg a3.out (((rd_T37 a1 a2).f1) : Int) true) | ((with_reducible refine gs 4 106 rfl ?_); (try (rw [drewN_self c7]; generalize hq_ : World.drewN c7 _ = c7; have n0_ := az (Kd.R_at hq_ a7.out); have n1_ := az (Kd.R_at hq_ a6.out); have n2_ := az (Kd.R_at hq_ aA.out); have n3_ := az (Kd.R_at hq_ a3.out); have n4_ := az (below_at hq_ HB.out); clear hq_ a7 a6 aA a3 HB; have a7 := n0_; have a6 := n1_; have aA := n2_; have a3 := n3_; have HB := n4_; clear n0_ n1_ n2_ n3_ n4_; (try (obtain ⟨fK, hz70_⟩ := Kd.R_celln false a3.out (((rd_T37 a1 a2).f1) : Int) (of_decide_eq_true (by first | (with_reducible assumption) | assumption)) (of_decide_eq_true (by first | (with_reducible assumption) | assumption)))); (try (have HP70 := Kd.R_putg a3.out (((rd_T37 a1 a2).f1) : Int) true)))); refine sw 4 106 (c7.setCell ⟨aE, (((rd_T37 a1 a2).f1) : Int).toNat, none⟩ (.bool true)) ?_; intro eP hw; have hg : c7.grownBy eP (some aE) := (by rw [hw]; exact HP70.2); have hp_ : Kd.R Kd.bool 4 eP w.heap.size (fun _ => True) (.slice (some ⟨aE, 0, none⟩) aB.length aH) b7 := (by rw [hw, cI.out]; exact HP70.1); clear HP70; replace a7 := ro a7 a3 hg; replace a6 := ro a6 a3 hg; replace aA := ro aA a3 hg; replace a3 := az (hp_); replace HB := az ((by rw [hw]; exact below_set (HB.out) GB36.out : Below w.heap.size w eP)); clear hg hw hp_) | (go_quiet (fail)))
          (try simp only [← aC])
          go_roundg k4
          case measure => exact md aO aP aT aR
          exact ⟨(b7), (wrap64 (a2 + 1)), qG, H', ⟨md aO aP aT aR⟩, ⟨by (try simp only [a5]); (try simp only [aC]); (with_reducible repeat (first | apply Kd.R_alloc | apply Kd.R_drewN | apply Kd.R_drew)); exact a7.out⟩, ⟨by (try simp only [a5]); (try simp only [aC]); (with_reducible repeat (first | apply Kd.R_alloc | apply Kd.R_drewN | apply Kd.R_drew)); exact a6.out⟩, ⟨by (try simp only [a5]); (try simp only [aC]); (with_reducible repeat (first | apply Kd.R_alloc | apply Kd.R_drewN | apply Kd.R_drew)); exact aA.out⟩, ⟨by (try simp only [a5]); (try simp only [aC]); (with_reducible repeat (first | apply Kd.R_alloc | apply Kd.R_drewN | apply Kd.R_drew)); exact a3.out⟩, ⟨qL HB⟩⟩
         case L8 =>
          go_wp2
          repeat (go_quiet (fail); try go_wp2)
          (try simp only [← aC])
          go_roundg k4
          case measure => exact md aO aP aT aR
          exact ⟨(aB), (wrap64 (a2 + 1)), qG, H', ⟨md aO aP aT aR⟩, ⟨by (try simp only [a5]); (try simp only [aC]); (with_reducible repeat (first | apply Kd.R_alloc | apply Kd.R_drewN | apply Kd.R_drew)); exact a7.out⟩, ⟨by (try simp only [a5]); (try simp only [aC]); (with_reducible repeat (first | apply Kd.R_alloc | apply Kd.R_drewN | apply Kd.R_drew)); exact a6.out⟩, ⟨by (try simp only [a5]); (try simp only [aC]); (with_reducible repeat (first | apply Kd.R_alloc | apply Kd.R_drewN | apply Kd.R_drew)); exact aA.out⟩, ⟨by (try simp only [a5]); (try simp only [aC]); (with_reducible repeat (first | apply Kd.R_alloc | apply Kd.R_drewN | apply Kd.R_drew)); exact a3.out⟩, ⟨qL HB⟩⟩
         case L9 =>
          go_wp2
          repeat (go_quiet (fail); try go_wp2)
          (try simp only [← aC])
          go_roundg k4
          case measure => exact md aO aP aT aR
          exact ⟨(aB), (wrap64 (a2 + 1)), qG, H', ⟨md aO aP aT aR⟩, ⟨by (try simp only [a5]); (try simp only [aC]); (with_reducible repeat (first | apply Kd.R_alloc | apply Kd.R_drewN | apply Kd.R_drew)); exact a7.out⟩, ⟨by (try simp only [a5]); (try simp only [aC]); (with_reducible repeat (first | apply Kd.R_alloc | apply Kd.R_drewN | apply Kd.R_drew)); exact a6.out⟩, ⟨by (try simp only [a5]); (try simp only [aC]); (with_reducible repeat (first | apply Kd.R_alloc | apply Kd.R_drewN | apply Kd.R_drew)); exact aA.out⟩, ⟨by (try simp only [a5]); (try simp only [aC]); (with_reducible repeat (first | apply Kd.R_alloc | apply Kd.R_drewN | apply Kd.R_drew)); exact a3.out⟩, ⟨qL HB⟩⟩
         case L10 =>
          go_wp2
          repeat (go_quiet (fail); try go_wp2)
          (try simp only [← aC])
          go_roundg k4
          case measure => exact md aO aP aT aR
          exact ⟨(aB), (wrap64 (a2 + 1)), qG, H', ⟨md aO aP aT aR⟩, ⟨by (try simp only [a5]); (try simp only [aC]); (with_reducible repeat (first | apply Kd.R_alloc | apply Kd.R_drewN | apply Kd.R_drew)); exact a7.out⟩, ⟨by (try simp only [a5]); (try simp only [aC]); (with_reducible repeat (first | apply Kd.R_alloc | apply Kd.R_drewN | apply Kd.R_drew)); exact a6.out⟩, ⟨by (try simp only [a5]); (try simp only [aC]); (with_reducible repeat (first | apply Kd.R_alloc | apply Kd.R_drewN | apply Kd.R_drew)); exact aA.out⟩, ⟨by (try simp only [a5]); (try simp only [aC]); (with_reducible repeat (first | apply Kd.R_alloc | apply Kd.R_drewN | apply Kd.R_drew)); exact a3.out⟩, ⟨qL HB⟩⟩
         case L11 =>
          go_wp2
          repeat (go_quiet (fail); try go_wp2)
          (try simp only [← a5, ← aC])
          go_roundg k4
          case measure => exact md aO aP aT aR
          exact ⟨(aB), (wrap64 (aN + 1)), qG, H', ⟨md aO aP aT aR⟩, ⟨by (try simp only [a5]); (try simp only [aC]); (with_reducible repeat (first | apply Kd.R_alloc | apply Kd.R_drewN | apply Kd.R_drew)); exact a7.out⟩, ⟨by (try simp only [a5]); (try simp only [aC]); (with_reducible repeat (first | apply Kd.R_alloc | apply Kd.R_drewN | apply Kd.R_drew)); exact a6.out⟩, ⟨by (try simp only [a5]); (try simp only [aC]); (with_reducible repeat (first | apply Kd.R_alloc | apply Kd.R_drewN | apply Kd.R_drew)); exact aA.out⟩, ⟨by (try simp only [a5]); (try simp only [aC]); (with_reducible repeat (first | apply Kd.R_alloc | apply Kd.R_drewN | apply Kd.R_drew)); exact a3.out⟩, ⟨qL HB⟩⟩
       case L17 =>
        go_loopg [12] k3 (fun kq v12 w' => ∃ (aF : Int), v12 = .int .i64 aF ∧ Aside0 (laws_FnGroupsLeast.l3 kq a4 a8 a1 a9 aV aF = some r) ∧ Aside0 (kq ≤ k3) ∧ Aside0 (Kd.R k41 41 w' w.heap.size (fun _ => True) (.slice cD a4.length cE) a4) ∧ Aside0 (Kd.R (Kd.int .i64) 3 w' w.heap.size (fun _ => True) (.slice (some bD) a8.length dJ) a8) ∧ Aside0 (Kd.R k37 37 w' w.heap.size (fun _ => True) cB a1) ∧ Aside0 (Kd.R Kd.bool 4 w' w.heap.size (fun _ => True) (.slice (some ⟨aE, 0, none⟩) aV.length aH) aV) ∧ Aside0 (Below w.heap.size w w'))
        case atStart => exact ⟨(0), qG, H', ⟨Nat.le_refl _⟩, ⟨by (try simp only [a5]); (with_reducible repeat (first | apply Kd.R_alloc | apply Kd.R_drewN | apply Kd.R_drew)); exact a7.out⟩, ⟨by (try simp only [a5]); (with_reducible repeat (first | apply Kd.R_alloc | apply Kd.R_drewN | apply Kd.R_drew)); exact a6.out⟩, ⟨by (try simp only [a5]); (with_reducible repeat (first | apply Kd.R_alloc | apply Kd.R_drewN | apply Kd.R_drew)); exact aA.out⟩, ⟨by (try simp only [a5]); (with_reducible repeat (first | apply Kd.R_alloc | apply Kd.R_drewN | apply Kd.R_drew)); exact a3.out⟩, ⟨qL HB⟩⟩
        case round =>
         clear H'; obtain ⟨aF, rfl, HA, aR, a7, a6, aA, a3, HB⟩ := hrel
         obtain ⟨k4, rfl⟩ := qz gk HA
         have H := HA.out; clear HA; simp only [laws_FnGroupsLeast.l3] at H; replace H := qc H; obtain ⟨e1, H⟩ | ⟨e1, H⟩ := H; replace H := qd H; obtain ⟨hH, H⟩ := H; replace H := qd H; obtain ⟨hI, H⟩ := H; replace H := qd H; obtain ⟨bF, H⟩ := H; replace H := qd H; obtain ⟨bG, H⟩ := H; by_cases b8 : (rd a8 aF) = (rd a8 a9); rw [if_pos b8] at H; have e2 : ((rd a8 aF) == (rd a8 a9)) = true := beq_iff_eq.mpr b8; have e3 : ((rd a8 aF) != (rd a8 a9)) = false := bne_eq_false_iff_eq.mpr b8; clear b8; replace H := qd H; obtain ⟨hJ, H⟩ := H; obtain ⟨bq7501, hbq7501⟩ : ∃ b_ : Bool, b_ = (rdOf false aV aF) := ⟨_, rfl⟩
         replace H : (if bq7501 = true then (laws_FnGroupsLeast.l3 k4 a4 a8 a1 a9 aV (wrap64 (aF + 1))) else (some false)) = some r := by rw [← hbq7501] at H; exact H
         have Nbq7501 := az hbq7501; clear hbq7501; by_cases aY : bq7501 = true; subst aY; replace H := qT H; have H' := az H; clear H; refine ?L13; rotate_left; replace aY := Bool.eq_false_iff.mpr aY; subst aY; replace H := qU H; obtain rfl := Option.some.inj H; refine ?L14
         rotate_right
         rotate_left 2
         rw [if_neg b8] at H; have e2 : ((rd a8 aF) == (rd a8 a9)) = false := beq_eq_false_iff_ne.mpr b8; have e3 : ((rd a8 aF) != (rd a8 a9)) = true := bne_iff_ne.mpr b8; have H' := az H; clear H; refine ?L15
         rotate_right 2
         rotate_left 3
         have H' := az H; clear H; refine ?L16
         rotate_right 3
         case' L13 | L14 | L15 =>
          obtain ⟨cZ, dA, eQ, fL, gX⟩ := ayi (rr a6) aF; obtain rfl : bD = eQ := (by injection fL); obtain ⟨dB, dC, eR, fM, gY⟩ := ayi (rr a6) a9; obtain rfl : bD = eR := (by injection fM)
         case' L13 | L14 =>
          have dD : 0 ≤ (aF : Int) := qD; have dE : aF < (aV.length : Int) := qD; obtain ⟨eS, fN, b9⟩ := Kd.at_bool (rr a3) aF dD dE; (try rw [← Nbq7501.out] at b9); obtain rfl : (⟨aE, 0, none⟩ : Addr) = eS := (by injection fN); (first | simp only [add_plain] at b9 | simp only [add_at] at b9 | simp only [Addr.add, Nat.zero_add] at b9 | skip); replace dD := eq_true dD; replace dE := eq_true dE; go_wp2
          repeat (go_quiet (fail); try go_wp2)
         case L13 =>
          go_roundg k4
          case measure => exact md aO aP aT aR
          exact ⟨(wrap64 (aF + 1)), qG, H', ⟨md aO aP aT aR⟩, ⟨by (try simp only [a5]); (with_reducible repeat (first | apply Kd.R_alloc | apply Kd.R_drewN | apply Kd.R_drew)); exact a7.out⟩, ⟨by (try simp only [a5]); (with_reducible repeat (first | apply Kd.R_alloc | apply Kd.R_drewN | apply Kd.R_drew)); exact a6.out⟩, ⟨by (try simp only [a5]); (with_reducible repeat (first | apply Kd.R_alloc | apply Kd.R_drewN | apply Kd.R_drew)); exact aA.out⟩, ⟨by (try simp only [a5]); (with_reducible repeat (first | apply Kd.R_alloc | apply Kd.R_drewN | apply Kd.R_drew)); exact a3.out⟩, ⟨qL HB⟩⟩
         case L14 =>
          go_ret
          exact ⟨qE, qL HB⟩
         case L15 =>
          go_wp2
          repeat (go_quiet (fail); try go_wp2)
          go_roundg k4
          case measure => exact md aO aP aT aR
          exact ⟨(wrap64 (aF + 1)), qG, H', ⟨md aO aP aT aR⟩, ⟨by (try simp only [a5]); (with_reducible repeat (first | apply Kd.R_alloc | apply Kd.R_drewN | apply Kd.R_drew)); exact a7.out⟩, ⟨by (try simp only [a5]); (with_reducible repeat (first | apply Kd.R_alloc | apply Kd.R_drewN | apply Kd.R_drew)); exact a6.out⟩, ⟨by (try simp only [a5]); (with_reducible repeat (first | apply Kd.R_alloc | apply Kd.R_drewN | apply Kd.R_drew)); exact aA.out⟩, ⟨by (try simp only [a5]); (with_reducible repeat (first | apply Kd.R_alloc | apply Kd.R_drewN | apply Kd.R_drew)); exact a3.out⟩, ⟨qL HB⟩⟩
         case L16 =>
          go_wp2
          repeat (go_quiet (fail); try go_wp2)
          (try simp only [← a5])
          go_roundg k4
          case measure => exact md aO aP aT aR
          exact ⟨(wrap64 (a9 + 1)), qG, H', ⟨md aO aP aT aR⟩, ⟨by (try simp only [a5]); (with_reducible repeat (first | apply Kd.R_alloc | apply Kd.R_drewN | apply Kd.R_drew)); exact a7.out⟩, ⟨by (try simp only [a5]); (with_reducible repeat (first | apply Kd.R_alloc | apply Kd.R_drewN | apply Kd.R_drew)); exact a6.out⟩, ⟨by (try simp only [a5]); (with_reducible repeat (first | apply Kd.R_alloc | apply Kd.R_drewN | apply Kd.R_drew)); exact aA.out⟩, ⟨qL HB⟩⟩
     case L19 =>
      go_wp2
      repeat (go_quiet (fail); try go_wp2)
      go_ret
      exact ⟨qE, qL HB⟩

/-- THE ONE PURE STATEMENT of laws_FnGroupsLeast: yours. -/
def laws_FnGroupsLeast.Pure : Prop := ∀ (l0 : List Int), l0.length ≤ maxLen → l0.length * 1 ≤ 140737488351232 → (∀ x ∈ l0, (Lit.int .u8 x).wf = true) → ∃ k, laws_FnGroupsLeast.f k l0 = some true
theorem laws_FnGroupsLeast.walk (P : laws_FnGroupsLeast.Pure) (a0 : Option Addr) (len0 cap0 : Nat) (z0 : List Int) (w : World) (w0 : (a0 = none ∧ len0 = 0 ∧ cap0 = 0 ∧ z0 = []) ∨ ∃ x, a0 = some x ∧ len0 ≤ cap0 ∧ cap0 ≤ maxLen ∧ z0.length = cap0 ∧ (∀ i, i < z0.length → w.cell? (x.add i) = some (.int .u8 (z0.getD i 0))) ∧ ∀ n ∈ z0, (Lit.int .u8 n).wf = true) (y0 : len0 * 1 ≤ 140737488351232) :
  Calls Try.prog 3 #[.slice a0 len0 cap0] w fun e w' => e = .returned (.bool true) ∧ Below w.heap.size w w' := by
 obtain ⟨l0, rfl, hr0, hm0, hR, hc0⟩ := ReadsInt.ofRowC w0
 obtain ⟨k, h⟩ := P l0 hm0 y0 hR
 refine (laws_FnGroupsLeast.calls (k := k) (l0 := l0) (r := true) (w := w) (Kd.C_of_reads (d := (0 : Int)) (h1 := fun _ => rfl) hr0) hc0 h).mono ?_
 rintro e w' ⟨rfl, hd⟩
 exact ⟨rfl, hd⟩
end Go.Proofs.Ytdngjedhbnoaoaa.PBig
