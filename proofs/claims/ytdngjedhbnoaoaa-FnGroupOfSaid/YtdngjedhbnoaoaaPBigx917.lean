/- What these functions compute, each walked once: impl_Groups; for all arguments and worlds, under the conditions that each theorem names. -/
import Derived.Test.YtdngjedhbnoaoaaSq
import Derived.Test.YtdngjedhbnoaoaaPBigx912
import Derived.Test.YtdngjedhbnoaoaaPBigx914
import Derived.Test.YtdngjedhbnoaoaaPBigx916
namespace Go.Proofs.Ytdngjedhbnoaoaa.PBig
open Go.RowKit Go.Proofs.YtdngjedhbnoaoaaW.PrintWords Go.Proofs.YtdngjedhbnoaoaaW.PrintLast Go.Proofs.YtdngjedhbnoaoaaW.PrintMore
attribute [local go_sem] max2_int min2_int max_two min_two max_three min_three max_four min_four
set_option linter.unusedVariables false
set_option linter.unusedSimpArgs false
set_option maxHeartbeats 8000000
set_option maxRecDepth 100000

/-! ### impl_Groups: function 14 -/
mutual
def impl_Groups.l0 : Nat → List S41 → List Int → Int → Int → Option (List Int)
  | 0, _, _, _, _ => none
  | k + 1, x0, x3, jG, g2 => if g2 < jG then (if 0 ≤ g2 then (if g2 < (x3.length : Int) then (impl_Groups.l0 k x0 (x3.set (g2 : Int).toNat (-1)) jG (wrap64 (g2 + 1))) else none) else none) else ((impl_Contacts.f k x0).bind fun hU => (impl_Groups.l1 k x0 x3 hU 0 x0 (x0.length : Int) 0))
def impl_Groups.l1 : Nat → List S41 → List Int → List S37 → Int → List S41 → Int → Int → Option (List Int)
  | 0, _, _, _, _, _, _, _ => none
  | k + 1, x0, x3, x5, x6, bZ, cT, bK => if bK < cT then (if 0 ≤ bK then (if bK < (bZ.length : Int) then ((impl_Body_fixed.f ((rd_T41 bZ bK).f0) ((rd_T41 bZ bK).f1.f0) ((rd_T41 bZ bK).f1.f1) ((rd_T41 bZ bK).f1.f2) ((rd_T41 bZ bK).f2.f0) ((rd_T41 bZ bK).f2.f1) ((rd_T41 bZ bK).f3.f0) ((rd_T41 bZ bK).f3.f1) ((rd_T41 bZ bK).f4) ((rd_T41 bZ bK).f5) ((rd_T41 bZ bK).f6) ((rd_T41 bZ bK).f7)).bind fun hV => (if hV = true then (impl_Groups.j2 k x0 x3 x5 x6 bK bZ cT bK true) else (if bK < (x3.length : Int) then (impl_Groups.j2 k x0 x3 x5 x6 bK bZ cT bK (decide ((rd x3 bK) ≥ 0))) else none))) else none) else none) else (some x3)
def impl_Groups.j2 : Nat → List S41 → List Int → List S37 → Int → Int → List S41 → Int → Int → Bool → Option (List Int)
  | 0, _, _, _, _, _, _, _, _, _ => none
  | k + 1, x0, x3, x5, x6, x7, bZ, cT, bK, lW => if lW = true then (impl_Groups.l1 k x0 x3 x5 x6 bZ cT (wrap64 (bK + 1))) else (if 0 ≤ x7 then (if x7 < (x3.length : Int) then (impl_Groups.l2 k x0 (x3.set (x7 : Int).toNat x6) x5 x6 true bZ cT bK) else none) else none)
def impl_Groups.l2 : Nat → List S41 → List Int → List S37 → Int → Bool → List S41 → Int → Int → Option (List Int)
  | 0, _, _, _, _, _, _, _, _ => none
  | k + 1, x0, x3, x5, x6, x9, bZ, cT, bK => if x9 = true then (impl_Groups.l3 k x0 x3 x5 x6 false bZ cT bK x5 (x5.length : Int) 0) else (impl_Groups.l1 k x0 x3 x5 (wrap64 (x6 + 1)) bZ cT (wrap64 (bK + 1)))
def impl_Groups.l3 : Nat → List S41 → List Int → List S37 → Int → Bool → List S41 → Int → Int → List S37 → Int → Int → Option (List Int)
  | 0, _, _, _, _, _, _, _, _, _, _, _ => none
  | k + 1, x0, x3, x5, x6, x9, bZ, cT, bK, aW, g3, aT => if aT < g3 then (if 0 ≤ aT then (if aT < (aW.length : Int) then (if 0 ≤ ((rd_T37 aW aT).f0) then (if ((rd_T37 aW aT).f0) < (x0.length : Int) then ((impl_Body_fixed.f ((rd_T41 x0 ((rd_T37 aW aT).f0)).f0) ((rd_T41 x0 ((rd_T37 aW aT).f0)).f1.f0) ((rd_T41 x0 ((rd_T37 aW aT).f0)).f1.f1) ((rd_T41 x0 ((rd_T37 aW aT).f0)).f1.f2) ((rd_T41 x0 ((rd_T37 aW aT).f0)).f2.f0) ((rd_T41 x0 ((rd_T37 aW aT).f0)).f2.f1) ((rd_T41 x0 ((rd_T37 aW aT).f0)).f3.f0) ((rd_T41 x0 ((rd_T37 aW aT).f0)).f3.f1) ((rd_T41 x0 ((rd_T37 aW aT).f0)).f4) ((rd_T41 x0 ((rd_T37 aW aT).f0)).f5) ((rd_T41 x0 ((rd_T37 aW aT).f0)).f6) ((rd_T41 x0 ((rd_T37 aW aT).f0)).f7)).bind fun hW => (if hW = true then (impl_Groups.l3 k x0 x3 x5 x6 x9 bZ cT bK aW g3 (wrap64 (aT + 1))) else (if 0 ≤ ((rd_T37 aW aT).f1) then (if ((rd_T37 aW aT).f1) < (x0.length : Int) then ((impl_Body_fixed.f ((rd_T41 x0 ((rd_T37 aW aT).f1)).f0) ((rd_T41 x0 ((rd_T37 aW aT).f1)).f1.f0) ((rd_T41 x0 ((rd_T37 aW aT).f1)).f1.f1) ((rd_T41 x0 ((rd_T37 aW aT).f1)).f1.f2) ((rd_T41 x0 ((rd_T37 aW aT).f1)).f2.f0) ((rd_T41 x0 ((rd_T37 aW aT).f1)).f2.f1) ((rd_T41 x0 ((rd_T37 aW aT).f1)).f3.f0) ((rd_T41 x0 ((rd_T37 aW aT).f1)).f3.f1) ((rd_T41 x0 ((rd_T37 aW aT).f1)).f4) ((rd_T41 x0 ((rd_T37 aW aT).f1)).f5) ((rd_T41 x0 ((rd_T37 aW aT).f1)).f6) ((rd_T41 x0 ((rd_T37 aW aT).f1)).f7)).bind fun hX => (if hX = true then (impl_Groups.l3 k x0 x3 x5 x6 x9 bZ cT bK aW g3 (wrap64 (aT + 1))) else (if ((rd_T37 aW aT).f0) < (x3.length : Int) then (if ((rd_T37 aW aT).f1) < (x3.length : Int) then (if (((rd x3 ((rd_T37 aW aT).f0)) == x6) == ((rd x3 ((rd_T37 aW aT).f1)) == x6)) = true then (impl_Groups.l3 k x0 x3 x5 x6 x9 bZ cT bK aW g3 (wrap64 (aT + 1))) else (impl_Groups.l3 k x0 ((x3.set (((rd_T37 aW aT).f0) : Int).toNat x6).set (((rd_T37 aW aT).f1) : Int).toNat x6) x5 x6 true bZ cT bK aW g3 (wrap64 (aT + 1)))) else none) else none))) else none) else none))) else none) else none) else none) else none) else (impl_Groups.l2 k x0 x3 x5 x6 x9 bZ cT bK)
end
def impl_Groups.f (k : Nat) (l0 : List S41) : Option (List Int) := (impl_BodiesOk.f k l0).bind fun hY => (if hY = true then (if 0 ≤ (l0.length : Int) then (if ((l0.length : Int) : Int).toNat ≤ 35184372088832 then ((some (List.replicate ((l0.length : Int) : Int).toNat 0 : List Int)).bind fun gC => (impl_Groups.l0 k l0 gC (gC.length : Int) 0)) else none) else none) else (some ([] : List Int)))
def impl_Groups.T23 : TT := (true, [([], []), ([], []), ([0, 1], [0, 1]), ([2], [2]), ([3], [3]), ([4, 4], [4]), ([5], [5]), ([5], [5]), ([6, 7, 5], [5, 6, 7]), ([8, 5], [5, 8]), ([9, 5, 5], [5, 9]), ([5, 10], [5, 10]), ([11, 10], [11]), ([12], [12]), ([12], [12]), ([13, 14, 12], [12, 13, 14]), ([15, 12], [12, 15]), ([12], [12]), ([16, 17, 12], [12, 16, 17]), ([12], [12]), ([12], [12]), ([19, 20, 12], [12, 19, 20]), ([21, 12], [12, 21]), ([12], [12]), ([22, 23, 12], [12, 22, 23]), ([18, 24, 12], [12, 18, 24]), ([12, 25], [12, 25])])
def impl_Groups.B23 : List Nat := [0, 0, 3, 7, 15, 31, 63, 63, 255, 511, 1023, 2047, 4095, 8191, 8191, 32767, 65535, 8191, 262143, 8191, 8191, 1581055, 3678207, 8191, 16261119, 33554431, 67108863]
theorem impl_Groups.tab23 : rtab .any (opsOf Try.f14 23) = impl_Groups.T23 := by kernel_rfl
theorem impl_Groups.bits23 : waitsOk impl_Groups.T23.2 impl_Groups.B23 = true := by kernel_rfl
theorem impl_Groups.calls {k : Nat} {A0 : Option Addr} {c0 : Nat} {l0 : List S41} {r : List Int} {w : World} (hr0 : Kd.C k41 w A0 l0.length l0) (hc0 : l0.length ≤ c0) (h : impl_Groups.f k l0 = some r) :
  Calls Try.prog 14 #[.slice A0 l0.length c0] w fun e w' => ∃ jH : Value, e = .returned (jH) ∧ Kd.R (Kd.int .i64) 3 w' w.heap.size (fun _ => True) jH r ∧ Below w.heap.size w w' := by
 have hu41 := Try.underlying41; have hu37 := Try.underlying37; have HR0 := az hr0; have gU := az hc0; clear hr0 hc0; have HB := br w
 unfold impl_Groups.f at h
 have H := h; clear h; replace H := qH H; obtain ⟨hZ, gD, H⟩ := H
 by_cases cO : hZ = true; subst cO; replace H := qT H; replace H := qif H; obtain ⟨dE, H⟩ := H; have dH := eq_true dE; have dI : decide (0 ≤ (l0.length : Int)) = true := decide_eq_true dE; clear dE; replace H := qif H; obtain ⟨dF, H⟩ := H; have dJ := eq_true dF; have dK : decide (((l0.length : Int) : Int).toNat ≤ 35184372088832) = true := decide_eq_true dF; clear dF; obtain ⟨cP, dS⟩ : ∃ y_ : List Int, y_ = (List.replicate ((l0.length : Int) : Int).toNat 0) := ⟨_, rfl⟩
 replace H : (impl_Groups.l0 k l0 cP (cP.length : Int) 0) = some r := qs H dS
 have g4 := az dS; clear dS; have H' := az H; clear H; refine ?L16; rotate_left; replace cO := Bool.eq_false_iff.mpr cO; subst cO; replace H := qU H; obtain rfl := Option.some.inj H; refine ?L17
 rotate_right
 case' L16 | L17 =>
  go_enter Try.func14, Try.ntmps14
 case L16 =>
  go_wp2_with (first | ((with_reducible refine gc 27 rfl ?_); refine gr 15 Try.func27 (impl_BodiesOk.calls (r := true) (qC HR0.out) gU.out gD.out) ?_; rintro w6 hb; replace HB := bS HB hb; clear hb) | ((with_reducible refine gd 19 rfl ?_); refine Kd.R_make (Kd.int .i64) _ 3 rfl (N := 19) rfl 25 _ _ rfl (l0.length : Int) rfl rfl Try.underlying25 (.int .i64 0) 8 info3 rfl (by decide) (by omega) 0 (ok := fun _ => True) (okp := fun _ => True) rfl (fun _ hk => hk) trivial (of_decide_eq_true (by first | (with_reducible assumption) | assumption)) (Nat.le_trans (Nat.mul_le_mul_right _ (of_decide_eq_true (by first | (with_reducible assumption) | assumption) : (l0.length : Int).toNat ≤ 35184372088832)) (by omega)) (Below.refl _ _) (Nat.le_refl _) ?_; intro mA w7 g5 hb hg_ hnew_; clear hg_ hnew_; (first | rw [← g4.out] at g5 | (simp only [Int.reduceToNat] at g5; rw [← g4.out] at g5)); have g6 := lo g5 HB; replace HB := bS HB hb; clear hb g5; obtain ⟨gV, cJ, lX⟩ := Kd.R_slice g6.out; subst lX))
  go_loopg [22] k (fun kq v22 w' => ∃ (dG : List Int) (bY : Int), v22 = .int .i64 bY ∧ Aside0 (impl_Groups.l0 kq l0 dG (cP.length : Int) bY = some r) ∧ Aside0 (kq ≤ k) ∧ Aside0 (Kd.R (Kd.int .i64) 3 w' w.heap.size (fun _ => True) (.slice gV cP.length cJ) dG) ∧ Aside0 (Below w.heap.size w w'))
  case atStart => exact ⟨(cP), (0), qG, H', ⟨Nat.le_refl _⟩, ⟨qR g6⟩, ⟨qL HB⟩⟩
  case round =>
   clear H'; obtain ⟨dG, bY, rfl, HA, cG, a5, HB⟩ := hrel; have a9 := ra a5; rw [a9] at a5; (try simp only [a9])
   obtain ⟨k1, rfl⟩ := qz gk HA
   have H := HA.out; clear HA; simp only [impl_Groups.l0] at H; by_cases cH : bY < (cP.length : Int); rw [if_pos cH] at H; have cR : decide (bY < (cP.length : Int)) = true := decide_eq_true cH; clear cH; replace H := qd H; obtain ⟨jT, H⟩ := H; replace H := qd H; obtain ⟨jU, H⟩ := H; obtain ⟨fR, dT⟩ : ∃ y_ : List Int, y_ = (dG.set (bY : Int).toNat (-1)) := ⟨_, rfl⟩
   replace H : (impl_Groups.l0 k1 l0 fR (cP.length : Int) (wrap64 (bY + 1))) = some r := qs H dT
   have gW := az dT; clear dT; have H' := az H; clear H; refine ?L1; rotate_left; rw [if_neg cH] at H; have cR : decide (bY < (cP.length : Int)) = false := decide_eq_false cH
   have lY : decide (bY < (dG.length : Int)) = false := by rw [← a9]; exact cR
   clear cH; replace H := qH H; obtain ⟨a0, jA, H⟩ := H
   have H' := az H; clear H; refine ?L15
   rotate_right
   case L1 =>
    have gX : 0 ≤ (bY : Int) := qD; have gY : (bY : Int) < ((dG.length : Int) : Int) := qD; obtain ⟨gA, mJ, gZ, hA, jL, cl13, HG13⟩ := Kd.R_form a5.out (by omega); (first | cases gZ | (injection gZ with ea_ en_ ec_; (first | subst ea_ | (injection ea_ with ea_; subst ea_)); subst ec_; clear en_)); have GB13 := az hA; have GG13 := az HG13; clear hA jL HG13; obtain ⟨lZ, hf13_0⟩ := Kd.R_celln 0 a5.out (bY : Int) gX gY; replace gX := eq_true gX; replace gY := eq_true gY; have HP14 := Kd.R_putg a5.out (bY : Int) (-1); go_wp2_with (first | ((with_reducible refine gs 3 27 rfl ?_); refine sw 3 27 (wr.setCell ⟨gA, (bY : Int).toNat, none⟩ (.int .i64 (-1))) ?_; intro hD hw; have hg : wr.grownBy hD (some gA) := (by rw [hw]; exact HP14.2); have hp_ : Kd.R (Kd.int .i64) 3 hD w.heap.size (fun _ => True) (.slice (some ⟨gA, 0, none⟩) dG.length cJ) fR := (by rw [hw, gW.out]; exact HP14.1); clear HP14; replace a5 := az (hp_); replace HB := az ((by rw [hw]; exact below_set (HB.out) GB13.out : Below w.heap.size w hD)); clear hg hw hp_)); (try simp only [← a9])
    go_roundg k1
    case measure => exact ma cG
    exact ⟨(fR), (wrap64 (bY + 1)), qG, H', ⟨ma cG⟩, ⟨by (try simp only [a9]); (with_reducible repeat (first | apply Kd.R_alloc | apply Kd.R_drewN | apply Kd.R_drew)); exact a5.out⟩, ⟨qL HB⟩⟩
   case L15 =>
    go_wp2_with (first | ((with_reducible refine gc 18 rfl ?_); refine gx 30 Try.func18 (impl_Contacts.calls (qC (Kd.C_below HR0.out HB.out)) gU.out jA.out) ?_; rintro fS mL ⟨jI, hb⟩; have hE := lo jI HB; replace a5 := rb a5 hb; replace HB := bS HB hb; clear hb))
    go_loopg [6, 33] k1 (fun kq v6 v33 w' => ∃ (c3 : List Int) (aE : Int) (a2 : Int), v6 = .int .i64 aE ∧ v33 = .int .i64 a2 ∧ Aside0 (impl_Groups.l1 kq l0 c3 a0 aE l0 (l0.length : Int) a2 = some r) ∧ Aside0 (kq ≤ k1) ∧ Aside0 (Kd.R (Kd.int .i64) 3 w' w.heap.size (fun _ => True) (.slice gV dG.length cJ) c3) ∧ Aside0 (Kd.R k37 37 w' w.heap.size (fun _ => True) fS a0) ∧ Aside0 (Below w.heap.size w w'))
    case atStart => exact ⟨(dG), (0), (0), qG, qG, H', ⟨Nat.le_refl _⟩, ⟨by (try simp only [a9]); (with_reducible repeat (first | apply Kd.R_alloc | apply Kd.R_drewN | apply Kd.R_drew)); exact a5.out⟩, ⟨by (try simp only [a9]); (with_reducible repeat (first | apply Kd.R_alloc | apply Kd.R_drewN | apply Kd.R_drew)); exact hE.out⟩, ⟨qL HB⟩⟩
    case round =>
     clear H'; obtain ⟨c3, aE, a2, rfl, rfl, HA, cN, a5, a7, HB⟩ := hrel; have aA := ra a5; rw [aA] at a5; (try simp only [aA]); (try simp only [aA] at a7)
     obtain ⟨k2, rfl⟩ := qz gk HA
     have H := HA.out; clear HA; simp only [impl_Groups.l1] at H; replace H := qc H; obtain ⟨c7, H⟩ | ⟨c7, H⟩ := H; replace H := qd H; obtain ⟨cS, H⟩ := H; replace H := qd H; obtain ⟨c7, H⟩ := H; refine ?L13; rotate_left; obtain rfl := Option.some.inj H; refine ?L14
     rotate_right
     case L13 =>
      have gB := az H; clear H; obtain ⟨dZ, e0, c1, jB, cU, cV, cW, cX, cY, cZ, dA, dB, dC, dD, cK, cL⟩ := ay41 HR0.out a2; cases jB; obtain ⟨cU, cV, cW, cX, cY, cZ, dA, dB, dC, dD, cK, cL⟩ := hB12 HB cU cV cW cX cY cZ dA dB dC dD cK cL
      go_upto_region 14 with (first | ((with_reducible refine gd 8 rfl ?_); refine bz12 8 41 ?_; intro c4 hg mM a4 hb; have m0 := se hg HB; replace a5 := rb a5 hb; replace a7 := rb a7 hb; replace HB := bS HB hb; clear hb hg; obtain ⟨eD, eE, eF, eG, eH, eI, eJ, eK, eL, eM, e3, e4⟩ := cz12 a4.out; obtain ⟨eN, eO, eP, eQ, eR, eS, eT, eU, eV, eW, e5, e6⟩ := fz12 a4.out))
      (try simp only [Act.put, List.setIfInBounds_toArray, List.set_cons_zero, List.set_cons_succ])
      go_cut [46] (fun m1 wc => ∃ (kq : Nat) (e8 : Bool), m1 = .bool e8 ∧ Aside0 (impl_Groups.j2 kq l0 c3 a0 aE a2 l0 (l0.length : Int) a2 e8 = some r) ∧ Aside0 (kq ≤ k2) ∧ Aside0 (Kd.R (Kd.int .i64) 3 wc w.heap.size (fun _ => True) (.slice gV c3.length cJ) c3) ∧ Aside0 (Kd.R k37 37 wc w.heap.size (fun _ => True) fS a0) ∧ Aside0 (wc.heap[c4]? = some (.cells (a41 (rd_T41 l0 a2)) 41 (0, 0))) ∧ Aside0 (Below w.heap.size w wc))
      case first =>
       have H := gB.out; clear gB; replace H := qH H; obtain ⟨jC, gH, H⟩ := H
       by_cases eY : jC = true; subst eY; replace H := qT H; have H' := az H; clear H; refine ?L2; rotate_left; replace eY := Bool.eq_false_iff.mpr eY; subst eY; replace H := qU H; replace H := qd H; obtain ⟨dL, H⟩ := H; (first | rw [dL] | (simp only [i64_w, i32_w]; rw [dL]) | skip); have H' := az H; clear H; refine ?L3
       rotate_right
       case' L2 | L3 =>
        obtain ⟨jV, jW, jX, jY, jZ, l9, lA, lB, lC, lD, jM, jN⟩ := cz12 a4.out; obtain ⟨lE, lF, lG, lH, lI, lJ, lK, lL, lM, lN, jO, jP⟩ := fz12 a4.out
       case L2 =>
        go_wp2_with (first | ((with_reducible refine gc 51 rfl ?_); refine gr 39 Try.func51 (impl_Body_fixed.calls (r := true) gH.out) ?_; rintro mN hb; replace a5 := az (Kd.R_below (qS a5 a4) hb); replace a7 := az (Kd.R_below (qS a7 a4) hb); replace a4 := kBP (o' := .cells (a41 (rd_T41 l0 a2)) 41 (0, 0)) a4 hb; replace HB := bS HB hb; clear hb))
        go_meet
        exact ⟨_, (true), qG, H', ⟨mb cG cN⟩, ⟨by (try simp only [a9]); (try simp only [aA]); (with_reducible repeat (first | apply Kd.R_alloc | apply Kd.R_drewN | apply Kd.R_drew)); exact a5.out⟩, ⟨by (try simp only [a9]); (try simp only [aA]); (with_reducible repeat (first | apply Kd.R_alloc | apply Kd.R_drewN | apply Kd.R_drew)); exact a7.out⟩, ⟨by (try simp only [a9]); (try simp only [aA]); (with_reducible repeat (first | refine blk_drewN ?_ _ | refine blk_drew ?_ | refine blk_alloc ?_ _)); exact a4.out⟩, ⟨qL HB⟩⟩
       case L3 =>
        go_wp2_with (first | ((with_reducible refine gc 51 rfl ?_); refine gr 39 Try.func51 (impl_Body_fixed.calls (r := false) gH.out) ?_; rintro mO hb; replace a5 := az (Kd.R_below (qS a5 a4) hb); replace a7 := az (Kd.R_below (qS a7 a4) hb); replace a4 := kBP (o' := .cells (a41 (rd_T41 l0 a2)) 41 (0, 0)) a4 hb; replace HB := bS HB hb; clear hb; obtain ⟨fT, fU, m2, jD, jQ⟩ := ayi (rr a5) a2; cases jD))
        go_meet
        exact ⟨_, (decide ((rd c3 a2) ≥ 0)), qG, H', ⟨mb cG cN⟩, ⟨by (try simp only [a9]); (try simp only [aA]); (with_reducible repeat (first | apply Kd.R_alloc | apply Kd.R_drewN | apply Kd.R_drew)); exact a5.out⟩, ⟨by (try simp only [a9]); (try simp only [aA]); (with_reducible repeat (first | apply Kd.R_alloc | apply Kd.R_drewN | apply Kd.R_drew)); exact a7.out⟩, ⟨by (try simp only [a9]); (try simp only [aA]); (with_reducible repeat (first | refine blk_drewN ?_ _ | refine blk_drew ?_ | refine blk_alloc ?_ _)); exact a4.out⟩, ⟨qL HB⟩⟩
      case rest =>
       clear gB; obtain ⟨kq, e8, rfl, HA, c8, a5, a7, a4, HB⟩ := hcut
       obtain ⟨fV, rfl⟩ := qz kq HA
       have H := HA.out; clear HA; simp only [impl_Groups.j2] at H; by_cases e1 : e8 = true; subst e1; replace H := qT H; have H' := az H; clear H; refine ?L4; rotate_left; replace e1 := Bool.eq_false_iff.mpr e1; subst e1; replace H := qU H; replace H := qd H; obtain ⟨cS, H⟩ := H; replace H := qd H; obtain ⟨dL, H⟩ := H; obtain ⟨fW, dU⟩ : ∃ y_ : List Int, y_ = (c3.set (a2 : Int).toNat aE) := ⟨_, rfl⟩
       replace H : (impl_Groups.l2 fV l0 fW a0 aE true l0 (l0.length : Int) a2) = some r := qs H dU
       have hF := az dU; clear dU; have H' := az H; clear H; refine ?L12
       rotate_right
       case L4 =>
        go_wp2; (try simp only [← aA])
        go_roundg fV
        case measure => exact mc cG cN c8
        exact ⟨(c3), (aE), (wrap64 (a2 + 1)), qG, qG, H', ⟨mc cG cN c8⟩, ⟨by (try simp only [a9]); (try simp only [aA]); (with_reducible repeat (first | apply Kd.R_alloc | apply Kd.R_drewN | apply Kd.R_drew)); exact a5.out⟩, ⟨by (try simp only [a9]); (try simp only [aA]); (with_reducible repeat (first | apply Kd.R_alloc | apply Kd.R_drewN | apply Kd.R_drew)); exact a7.out⟩, ⟨qL HB⟩⟩
       case L12 =>
        have fC : 0 ≤ (a2 : Int) := qD; have fD : (a2 : Int) < ((c3.length : Int) : Int) := qD; obtain ⟨b7, mK, hG, hH, jR, cl34, HG34⟩ := Kd.R_form a5.out (by omega); (first | cases hG | (injection hG with ea_ en_ ec_; (first | subst ea_ | (injection ea_ with ea_; subst ea_)); subst ec_; clear en_)); have GB34 := az hH; have GG34 := az HG34; clear hH jR HG34; obtain ⟨g7, hf34_0⟩ := Kd.R_celln 0 a5.out (a2 : Int) fC fD; replace fC := eq_true fC; replace fD := eq_true fD; have HP35 := Kd.R_putg a5.out (a2 : Int) aE; go_wp2_with (first | ((with_reducible refine gs 3 50 rfl ?_); refine sw 3 50 (wc.setCell ⟨b7, (a2 : Int).toNat, none⟩ (.int .i64 aE)) ?_; intro hI hw; have hg : wc.grownBy hI (some b7) := (by rw [hw]; exact HP35.2); have hp_ : Kd.R (Kd.int .i64) 3 hI w.heap.size (fun _ => True) (.slice (some ⟨b7, 0, none⟩) c3.length cJ) fW := (by rw [hw, hF.out]; exact HP35.1); clear HP35; replace a7 := ro a7 a5 hg; replace a4 := az (blk_grown (g := c4) (o := .cells (a41 (rd_T41 l0 a2)) 41 (0, 0)) (qB a4) hg (Kd.R_ne a5.out a4.out (by decide))); replace a5 := az (hp_); replace HB := az ((by rw [hw]; exact below_set (HB.out) GB34.out : Below w.heap.size w hI)); clear hg hw hp_))
        go_loopg [9] fV (fun kq v9 w' => ∃ (eX : List Int) (fX : Bool), v9 = .bool fX ∧ Aside0 (impl_Groups.l2 kq l0 eX a0 aE fX l0 (l0.length : Int) a2 = some r) ∧ Aside0 (kq ≤ fV) ∧ Aside0 (Kd.R (Kd.int .i64) 3 w' w.heap.size (fun _ => True) (.slice (some ⟨b7, 0, none⟩) c3.length cJ) eX) ∧ Aside0 (Kd.R k37 37 w' w.heap.size (fun _ => True) fS a0) ∧ Aside0 (w'.heap[c4]? = some (.cells (a41 (rd_T41 l0 a2)) 41 (0, 0))) ∧ Aside0 (Below w.heap.size w w'))
        case atStart => exact ⟨(fW), (true), qG, H', ⟨Nat.le_refl _⟩, ⟨by (try simp only [a9]); (try simp only [aA]); (with_reducible repeat (first | apply Kd.R_alloc | apply Kd.R_drewN | apply Kd.R_drew)); exact a5.out⟩, ⟨by (try simp only [a9]); (try simp only [aA]); (with_reducible repeat (first | apply Kd.R_alloc | apply Kd.R_drewN | apply Kd.R_drew)); exact a7.out⟩, ⟨by (try simp only [a9]); (try simp only [aA]); (with_reducible repeat (first | refine blk_drewN ?_ _ | refine blk_drew ?_ | refine blk_alloc ?_ _)); exact a4.out⟩, ⟨qL HB⟩⟩
        case round =>
         clear H'; obtain ⟨eX, fX, rfl, HA, dR, a5, a7, a4, HB⟩ := hrel; have aC := ra a5; rw [aC] at a5; (try simp only [aC]); (try simp only [aC] at a4); (try simp only [aC] at a7)
         obtain ⟨k4, rfl⟩ := qz gk HA
         have H := HA.out; clear HA; simp only [impl_Groups.l2] at H; by_cases e9 : fX = true; subst e9; replace H := qT H; have H' := az H; clear H; refine ?L10; rotate_left; replace e9 := Bool.eq_false_iff.mpr e9; subst e9; replace H := qU H; have H' := az H; clear H; refine ?L11
         rotate_right
         case L10 =>
          obtain ⟨hJ, dV, jS⟩ := Kd.R_slice a7.out; subst jS; go_wp2
          go_loopg [9, 54] k4 (fun kq v9 v54 w' => ∃ (aB : List Int) (e7 : Bool) (a1 : Int), v9 = .bool e7 ∧ v54 = .int .i64 a1 ∧ Aside0 (impl_Groups.l3 kq l0 aB a0 aE e7 l0 (l0.length : Int) a2 a0 (a0.length : Int) a1 = some r) ∧ Aside0 (kq ≤ k4) ∧ Aside0 (Kd.R (Kd.int .i64) 3 w' w.heap.size (fun _ => True) (.slice (some ⟨b7, 0, none⟩) eX.length cJ) aB) ∧ Aside0 (Kd.R k37 37 w' w.heap.size (fun _ => True) (.slice hJ a0.length dV) a0) ∧ Aside0 (Kd.R k37 37 w' w.heap.size (fun _ => True) (.slice hJ a0.length dV) a0) ∧ Aside0 (w'.heap[c4]? = some (.cells (a41 (rd_T41 l0 a2)) 41 (0, 0))) ∧ Aside0 (Below w.heap.size w w'))
          case atStart => exact ⟨(eX), (false), (0), qG, qG, H', ⟨Nat.le_refl _⟩, ⟨by (try simp only [a9]); (try simp only [aA]); (try simp only [aC]); (with_reducible repeat (first | apply Kd.R_alloc | apply Kd.R_drewN | apply Kd.R_drew)); exact a5.out⟩, ⟨by (try simp only [a9]); (try simp only [aA]); (try simp only [aC]); (with_reducible repeat (first | apply Kd.R_alloc | apply Kd.R_drewN | apply Kd.R_drew)); exact a7.out⟩, ⟨by (try simp only [a9]); (try simp only [aA]); (try simp only [aC]); (with_reducible repeat (first | apply Kd.R_alloc | apply Kd.R_drewN | apply Kd.R_drew)); exact a7.out⟩, ⟨by (try simp only [a9]); (try simp only [aA]); (try simp only [aC]); (with_reducible repeat (first | refine blk_drewN ?_ _ | refine blk_drew ?_ | refine blk_alloc ?_ _)); exact a4.out⟩, ⟨qL HB⟩⟩
          case round =>
           clear H'; obtain ⟨aB, e7, a1, rfl, rfl, HA, e2, a5, a7, a8, a4, HB⟩ := hrel; have aD := ra a5; rw [aD] at a5; (try simp only [aD]); (try simp only [aD] at a4); (try simp only [aD] at a7); (try simp only [aD] at a8)
           obtain ⟨k5, rfl⟩ := qz gk HA
           have H := HA.out; clear HA; simp only [impl_Groups.l3] at H; replace H := qc H; obtain ⟨fQ, H⟩ | ⟨fQ, H⟩ := H; replace H := qd H; obtain ⟨lO, H⟩ := H; replace H := qd H; obtain ⟨fQ, H⟩ := H; replace H := qd H; obtain ⟨lP, H⟩ := H; replace H := qd H; obtain ⟨lQ, H⟩ := H; replace H := qH H; obtain ⟨jE, eZ, H⟩ := H
           by_cases fA : jE = true; subst fA; replace H := qT H; have H' := az H; clear H; refine ?L5; rotate_left; replace fA := Bool.eq_false_iff.mpr fA; subst fA; replace H := qU H; replace H := qd H; obtain ⟨lR, H⟩ := H; replace H := qd H; obtain ⟨lS, H⟩ := H; replace H := qH H; obtain ⟨jF, fY, H⟩ := H
           by_cases fB : jF = true; subst fB; replace H := qT H; have H' := az H; clear H; refine ?L6; rotate_left; replace fB := Bool.eq_false_iff.mpr fB; subst fB; replace H := qU H; replace H := qd H; obtain ⟨lT, H⟩ := H; replace H := qd H; obtain ⟨lU, H⟩ := H; by_cases c9 : (((rd aB ((rd_T37 a0 a1).f0)) == aE) == ((rd aB ((rd_T37 a0 a1).f1)) == aE)) = true; rw [if_pos c9] at H; have gR : (((rd aB ((rd_T37 a0 a1).f0)) == aE) == ((rd aB ((rd_T37 a0 a1).f1)) == aE)) = true := c9; refine ?L7; rotate_left; rw [if_neg c9] at H
           have gR : (((rd aB ((rd_T37 a0 a1).f0)) == aE) == ((rd aB ((rd_T37 a0 a1).f1)) == aE)) = false := by simpa using c9
           refine ?L8
           rotate_right 3
           rotate_left 4
           have H' := az H; clear H; refine ?L9
           rotate_right 4
           case' L5 | L6 =>
            obtain ⟨cA, cB, cM, eA, fE, fG, fH, fI, fJ⟩ := ay37 (rr a8) a1; cases eA
            try go_wp2_with (first | ((with_reducible refine gd 11 rfl ?_); refine bz5 11 37 ?_; intro a3 hg m3 a6 hb; have g8 := se hg HB; obtain ⟨c5, c6⟩ := nPB a4 hg; replace a5 := rb a5 hb; replace a7 := az (Kd.R_below (Kd.R_elderB (qR a7) a3 (Nat.le_of_eq hg.symm)) hb); replace a8 := az (Kd.R_below (Kd.R_elderB (qR a8) a3 (Nat.le_of_eq hg.symm)) hb); replace a4 := kBB a4 hb; replace HB := bS HB hb; clear hb hg; have mB := c6.out; have mC := c5.out; have hcz48_c := cz5 a6.out; have hfz48_c := fz5 a6.out))
            obtain ⟨fK, hw_⟩ : ∃ x, x = (((((m3.setCell ⟨a3, 0, none⟩ (.int .i64 ((rd_T37 a0 a1).f0))).setCell ⟨a3, 1, none⟩ (.int .i64 ((rd_T37 a0 a1).f1))).setCell ⟨a3, 2, none⟩ (.int .i64 ((rd_T37 a0 a1).f2.f0.f0))).setCell ⟨a3, 3, none⟩ (.int .i64 ((rd_T37 a0 a1).f2.f0.f1))).setCell ⟨a3, 4, none⟩ (.int .i64 ((rd_T37 a0 a1).f2.f1))) := ⟨_, rfl⟩; replace a5 : Aside0 (Kd.R (Kd.int .i64) 3 fK w.heap.size (fun _ => True) (.slice (some ⟨b7, 0, none⟩) aB.length cJ) aB) := ⟨by rw [hw_]; (with_reducible repeat (first | apply Kd.R_alloc | apply Kd.R_drewN | apply Kd.R_drew)); exact (qRF a5 a6)⟩; replace a7 : Aside0 (Kd.R k37 37 fK w.heap.size (fun k_ => k_ ≠ a3) (.slice (some cM) a0.length dV) a0) := ⟨by rw [hw_]; (with_reducible repeat (first | apply Kd.R_alloc | apply Kd.R_drewN | apply Kd.R_drew)); exact qY a3 a7 (fun _ hk => hk.2) (fun _ hk => hk.1.2)⟩; replace a8 : Aside0 (Kd.R k37 37 fK w.heap.size (fun k_ => k_ ≠ a3) (.slice (some cM) a0.length dV) a0) := ⟨by rw [hw_]; (with_reducible repeat (first | apply Kd.R_alloc | apply Kd.R_drewN | apply Kd.R_drew)); exact qY a3 a8 (fun _ hk => hk.2) (fun _ hk => hk.1.2)⟩; replace a4 : Aside0 (fK.heap[c4]? = some (.cells (a41 (rd_T41 l0 a2)) 41 (0, 0))) := ⟨by rw [hw_]; exact qF a4⟩; replace a6 : Aside0 (fK.heap[a3]? = some (.cells #[.int .i64 ((rd_T37 a0 a1).f0), .int .i64 ((rd_T37 a0 a1).f1), .int .i64 ((rd_T37 a0 a1).f2.f0.f0), .int .i64 ((rd_T37 a0 a1).f2.f0.f1), .int .i64 ((rd_T37 a0 a1).f2.f1)] 37 (0, 0))) := ⟨by rw [hw_]; exact qP a6⟩
            replace HB : Aside0 (Below w.heap.size w fK) := ⟨by rw [hw_]; exact qL HB⟩; rw [← hw_]; clear hw_; replace a5 := rw_d a5; replace a7 := rw_d a7; replace a8 := rw_d a8; replace a4 := bd a4; replace a6 := bd a6; replace HB := ed HB; refine sa 6 (fun w' => w'.cell? ⟨a3, 0, none⟩ = some (.int .i64 ((rd_T37 a0 a1).f0)) ∧ w'.cell? ⟨a3, 1, none⟩ = some (.int .i64 ((rd_T37 a0 a1).f1)) ∧ w'.cell? ⟨a3, 2, none⟩ = some (.int .i64 ((rd_T37 a0 a1).f2.f0.f0)) ∧ w'.cell? ⟨a3, 3, none⟩ = some (.int .i64 ((rd_T37 a0 a1).f2.f0.f1)) ∧ w'.cell? ⟨a3, 4, none⟩ = some (.int .i64 ((rd_T37 a0 a1).f2.f1))) [] ⟨bc a6 0, bc a6 1, bc a6 2, bc a6 3, bc a6 4⟩ fun Z => ?_; generalize fK.drew = jJ at a5 a7 a8 a4 a6 HB Z ⊢; refine pure_ (i := 0) (N := some 58) (v := ?_) (a' := ?_) (fl 6 1) rfl rfl (by kernel_rfl) (fun _ _ _ h => h) (Or.inl ⟨by rfl, ?_⟩) ?_ ?_; rotate_left
            ·intro w'
             go_simp
             with_reducible rfl
            rotate_left
            ·simp only [Act.put, List.setIfInBounds_toArray, List.set_cons_zero, List.set_cons_succ, i64_w, i32_w]
             rfl
            refine pure_ (i := 2) (N := some 60) (v := ?_) (a' := ?_) (fl 6 5) rfl rfl (by kernel_rfl) (fun _ _ _ h => h) (Or.inl ⟨by rfl, ?_⟩) ?_ ?_; rotate_left
            ·intro w'
             go_simp
             with_reducible rfl
            rotate_left
            ·simp only [Act.put, List.setIfInBounds_toArray, List.set_cons_zero, List.set_cons_succ, i64_w, i32_w]
             rfl
            refine take_ (i := 1) (N := some 59) (v := ?_) (a' := ?_) (fl 6 7) rfl rfl (by kernel_rfl) (fun _ _ _ h => h) (Or.inl ⟨by rfl, ?_⟩) Z ?_ ?_; rotate_left
            ·rintro w' ⟨s0, s1, s2, s3, s4⟩
             go_simp
             with_reducible rfl
            rotate_left
            ·simp only [Act.put, List.setIfInBounds_toArray, List.set_cons_zero, List.set_cons_succ, i64_w, i32_w]
             rfl
            refine pure_ (i := 4) (N := some 12) (v := ?_) (a' := ?_) (fl 6 23) rfl rfl (by kernel_rfl) (fun _ _ _ h => h) (Or.inl ⟨by rfl, ?_⟩) ?_ ?_; rotate_left
            ·intro w'
             go_simp
             with_reducible rfl
            rotate_left
            ·simp only [Act.put, List.setIfInBounds_toArray, List.set_cons_zero, List.set_cons_succ, i64_w, i32_w]
             rfl
            refine take_ (i := 3) (N := some 61) (v := ?_) (a' := ?_) (fl 6 31) rfl rfl (by kernel_rfl) (fun _ _ _ h => h) (Or.inl ⟨by rfl, ?_⟩) Z ?_ ?_; rotate_left
            ·rintro w' ⟨s0, s1, s2, s3, s4⟩
             go_simp
             with_reducible rfl
            rotate_left
            ·simp only [Act.put, List.setIfInBounds_toArray, List.set_cons_zero, List.set_cons_succ, i64_w, i32_w]
             rfl
            refine pure_ (i := 5) (N := some 13) (v := ?_) (a' := ?_) (fl 6 63) rfl rfl (by kernel_rfl) (fun _ _ _ h => h) (Or.inl ⟨by rfl, ?_⟩) ?_ ?_; rotate_left
            ·intro w'
             go_simp
             with_reducible rfl
            rotate_left
            ·simp only [Act.put, List.setIfInBounds_toArray, List.set_cons_zero, List.set_cons_succ, i64_w, i32_w]
             rfl
            refine done_ (by kernel_rfl) ?_
            try go_wp2
            replace a5 := rw_d a5; replace a7 := rw_d a7; replace a8 := rw_d a8; replace a4 := bd a4; replace a6 := bd a6; replace HB := ed HB; have cC : 0 ≤ (((rd_T37 a0 a1).f0) : Int) := qD; have cD : ((rd_T37 a0 a1).f0) < (l0.length : Int) := qD; obtain ⟨dW, eB, aJ, aK, aL, aM, aN, aO, aP, aQ, aR, aS, aF, aG⟩ := at_T41 HR0.out ((rd_T37 a0 a1).f0) cC cD; have aU := aG; have aV := aF; have b8 := aS; have b9 := aR; have bA := aQ; have bB := aP; have bC := aO; have bD := aN; have bE := aM; have bF := aL; have bG := aK; have bH := aJ; obtain rfl : c1 = dW := (by injection eB); obtain ⟨aJ, aK, aL, aM, aN, aO, aP, aQ, aR, aS, aF, aG⟩ := hB12 HB aJ aK aL aM aN aO aP aQ aR aS aF aG; replace cC := eq_true cC; replace cD := eq_true cD
           case L5 =>
            refine sa 27 (fun w' => ca (c1.add ((((rd_T37 a0 a1).f0)).toNat * 12)) (v41 (rd_T41 l0 ((rd_T37 a0 a1).f0))) w') [] (⟨hB HB bH, hB HB bG, hB HB bF, hB HB bE, hB HB bD, hB HB bC, hB HB bB, hB HB bA, hB HB b9, hB HB b8, hB HB aV, hB HB aU, trivial⟩) fun Z => ?_; refine with_tabW impl_Groups.tab23 impl_Groups.bits23 fun T Y => ?_; generalize jJ.drew = mP at a5 a7 a8 a4 a6 HB aJ aK aF aG aL aM aN aO aP aQ aR aS Z ⊢; refine pz 0 62 T ?_; refine pz 1 63 T ?_; refine pz 2 64 T ?_; refine tz 3 65 T Y Z ?_; refine oo 27 4 66 31 T fun K hK => ?_; refine ky Try.func51 (impl_Body_fixed.calls (r := true) eZ.out) ?_; rintro mQ hb; replace a5 := rb a5 hb; replace a7 := rb a7 hb; replace a8 := rb a8 hb; replace a4 := kBB a4 hb; replace a6 := kBB a6 hb; replace HB := bS HB hb; clear hb; refine hz hK (⟨hB HB bH, hB HB bG, hB HB bF, hB HB bE, hB HB bD, hB HB bC, hB HB bB, hB HB bA, hB HB b9, hB HB b8, hB HB aV, hB HB aU, trivial⟩) fun Z => ?_; clear hK K; refine nn 66 ?_; refine pz 5 67 T ?_; refine py 6 68 T ?_; refine py 7 69 T ?_; refine py 8 70 T ?_; refine py 9 71 T ?_; refine py 10 72 T ?_; refine pz 11 73 T ?_; refine pz 12 74 T ?_; refine py 13 75 T ?_; refine py 14 76 T ?_; refine py 15 77 T ?_
            refine py 16 78 T ?_; refine py 17 79 T ?_; refine py 18 80 T ?_; refine py 19 81 T ?_; refine py 20 82 T ?_; refine py 21 83 T ?_; refine py 22 84 T ?_; refine py 23 85 T ?_; refine py 24 86 T ?_; refine py 25 87 T ?_; refine pz 26 88 T ?_; refine dn T ?_
            try go_wp2
            (try simp only [← aD])
            go_roundg k5
            case measure => exact me cG cN c8 dR e2
            exact ⟨(aB), (e7), (wrap64 (a1 + 1)), qG, qG, H', ⟨me cG cN c8 dR e2⟩, ⟨by (try simp only [a9]); (try simp only [aA]); (try simp only [aC]); (try simp only [aD]); (with_reducible repeat (first | apply Kd.R_alloc | apply Kd.R_drewN | apply Kd.R_drew)); exact a5.out⟩, ⟨by (try simp only [a9]); (try simp only [aA]); (try simp only [aC]); (try simp only [aD]); (with_reducible repeat (first | apply Kd.R_alloc | apply Kd.R_drewN | apply Kd.R_drew)); exact Kd.R_mono a7.out (fun _ hk => trivial)⟩, ⟨by (try simp only [a9]); (try simp only [aA]); (try simp only [aC]); (try simp only [aD]); (with_reducible repeat (first | apply Kd.R_alloc | apply Kd.R_drewN | apply Kd.R_drew)); exact Kd.R_mono a8.out (fun _ hk => trivial)⟩, ⟨by (try simp only [a9]); (try simp only [aA]); (try simp only [aC]); (try simp only [aD]); (with_reducible repeat (first | refine blk_drewN ?_ _ | refine blk_drew ?_ | refine blk_alloc ?_ _)); exact a4.out⟩, ⟨qL HB⟩⟩
           case L6 =>
            have cE : 0 ≤ (((rd_T37 a0 a1).f1) : Int) := qD; have cF : ((rd_T37 a0 a1).f1) < (l0.length : Int) := qD; obtain ⟨dX, eC, aX, aY, aZ, b0, b1, b2, b3, b4, b5, b6, aH, aI⟩ := at_T41 HR0.out ((rd_T37 a0 a1).f1) cE cF; have bI := aI; have bJ := aH; have bL := b6; have bM := b5; have bN := b4; have bO := b3; have bP := b2; have bQ := b1; have bR := b0; have bT := aZ; have bU := aY; have bV := aX; obtain rfl : c1 = dX := (by injection eC); obtain ⟨aX, aY, aZ, b0, b1, b2, b3, b4, b5, b6, aH, aI⟩ := hB12 HB aX aY aZ b0 b1 b2 b3 b4 b5 b6 aH aI; replace cE := eq_true cE; replace cF := eq_true cF; refine sa 27 (fun w' => ca (c1.add ((((rd_T37 a0 a1).f0)).toNat * 12)) (v41 (rd_T41 l0 ((rd_T37 a0 a1).f0))) w' ∧ ca (c1.add ((((rd_T37 a0 a1).f1)).toNat * 12)) (v41 (rd_T41 l0 ((rd_T37 a0 a1).f1))) w') [] ⟨⟨hB HB bH, hB HB bG, hB HB bF, hB HB bE, hB HB bD, hB HB bC, hB HB bB, hB HB bA, hB HB b9, hB HB b8, hB HB aV, hB HB aU, trivial⟩, ⟨hB HB bV, hB HB bU, hB HB bT, hB HB bR, hB HB bQ, hB HB bP, hB HB bO, hB HB bN, hB HB bM, hB HB bL, hB HB bJ, hB HB bI, trivial⟩⟩ fun Z => ?_; refine with_tabW impl_Groups.tab23 impl_Groups.bits23 fun T Y => ?_
            generalize jJ.drew = mR at a5 a7 a8 a4 a6 HB aJ aK aF aG aL aM aN aO aP aQ aR aS aX aY aH aI aZ b0 b1 b2 b3 b4 b5 b6 Z ⊢; refine pz 0 62 T ?_; refine pz 1 63 T ?_; refine pz 2 64 T ?_; refine tz 3 65 T Y Z ?_; refine oo 27 4 66 31 T fun K hK => ?_; refine ky Try.func51 (impl_Body_fixed.calls (r := false) eZ.out) ?_; rintro mS hb; replace a5 := rb a5 hb; replace a7 := rb a7 hb; replace a8 := rb a8 hb; replace a4 := kBB a4 hb; replace a6 := kBB a6 hb; replace HB := bS HB hb; clear hb; refine hz hK ⟨⟨hB HB bH, hB HB bG, hB HB bF, hB HB bE, hB HB bD, hB HB bC, hB HB bB, hB HB bA, hB HB b9, hB HB b8, hB HB aV, hB HB aU, trivial⟩, ⟨hB HB bV, hB HB bU, hB HB bT, hB HB bR, hB HB bQ, hB HB bP, hB HB bO, hB HB bN, hB HB bM, hB HB bL, hB HB bJ, hB HB bI, trivial⟩⟩ fun Z => ?_; clear hK K; refine nn 66 ?_; refine pz 5 67 T ?_; refine pz 6 68 T ?_; refine pz 7 69 T ?_; refine pz 8 70 T ?_; refine tz 9 71 T Y Z ?_; refine oo 27 10 72 2047 T fun K hK => ?_; refine ky Try.func51 (impl_Body_fixed.calls (r := true) fY.out) ?_; rintro mT hb; replace a5 := rb a5 hb; replace a7 := rb a7 hb; replace a8 := rb a8 hb; replace a4 := kBB a4 hb; replace a6 := kBB a6 hb; replace HB := bS HB hb; clear hb; refine hz hK ⟨⟨hB HB bH, hB HB bG, hB HB bF, hB HB bE, hB HB bD, hB HB bC, hB HB bB, hB HB bA, hB HB b9, hB HB b8, hB HB aV, hB HB aU, trivial⟩, ⟨hB HB bV, hB HB bU, hB HB bT, hB HB bR, hB HB bQ, hB HB bP, hB HB bO, hB HB bN, hB HB bM, hB HB bL, hB HB bJ, hB HB bI, trivial⟩⟩ fun Z => ?_; clear hK K; refine nn 72 ?_; refine pz 11 73 T ?_; refine pz 12 74 T ?_; refine py 13 75 T ?_
            refine py 14 76 T ?_; refine py 15 77 T ?_; refine py 16 78 T ?_; refine py 17 79 T ?_; refine py 18 80 T ?_; refine py 19 81 T ?_; refine py 20 82 T ?_; refine py 21 83 T ?_; refine py 22 84 T ?_; refine py 23 85 T ?_; refine py 24 86 T ?_; refine py 25 87 T ?_; refine pz 26 88 T ?_; refine dn T ?_
            try go_wp2
            (try simp only [← aD])
            go_roundg k5
            case measure => exact me cG cN c8 dR e2
            exact ⟨(aB), (e7), (wrap64 (a1 + 1)), qG, qG, H', ⟨me cG cN c8 dR e2⟩, ⟨by (try simp only [a9]); (try simp only [aA]); (try simp only [aC]); (try simp only [aD]); (with_reducible repeat (first | apply Kd.R_alloc | apply Kd.R_drewN | apply Kd.R_drew)); exact a5.out⟩, ⟨by (try simp only [a9]); (try simp only [aA]); (try simp only [aC]); (try simp only [aD]); (with_reducible repeat (first | apply Kd.R_alloc | apply Kd.R_drewN | apply Kd.R_drew)); exact Kd.R_mono a7.out (fun _ hk => trivial)⟩, ⟨by (try simp only [a9]); (try simp only [aA]); (try simp only [aC]); (try simp only [aD]); (with_reducible repeat (first | apply Kd.R_alloc | apply Kd.R_drewN | apply Kd.R_drew)); exact Kd.R_mono a8.out (fun _ hk => trivial)⟩, ⟨by (try simp only [a9]); (try simp only [aA]); (try simp only [aC]); (try simp only [aD]); (with_reducible repeat (first | refine blk_drewN ?_ _ | refine blk_drew ?_ | refine blk_alloc ?_ _)); exact a4.out⟩, ⟨qL HB⟩⟩
           case L7 =>
            (try (have gS : decide (((rd aB ((rd_T37 a0 a1).f0)) == aE) = ((rd aB ((rd_T37 a0 a1).f1)) == aE)) = true := by simpa using c9)); (try (have gT : (((rd aB ((rd_T37 a0 a1).f0)) == aE) == ((rd aB ((rd_T37 a0 a1).f1)) == aE)) = true := by simpa using c9)); clear c9; have H' := az H; clear H; obtain ⟨cA, cB, cM, eA, fE, fG, fH, fI, fJ⟩ := ay37 (rr a8) a1; cases eA
            try go_wp2_with (first | ((with_reducible refine gd 11 rfl ?_); refine bz5 11 37 ?_; intro a3 hg m4 a6 hb; have g8 := se hg HB; obtain ⟨c5, c6⟩ := nPB a4 hg; replace a5 := rb a5 hb; replace a7 := az (Kd.R_below (Kd.R_elderB (qR a7) a3 (Nat.le_of_eq hg.symm)) hb); replace a8 := az (Kd.R_below (Kd.R_elderB (qR a8) a3 (Nat.le_of_eq hg.symm)) hb); replace a4 := kBB a4 hb; replace HB := bS HB hb; clear hb hg; have mD := c6.out; have mE := c5.out; have hcz70_c := cz5 a6.out; have hfz70_c := fz5 a6.out))
            obtain ⟨fL, hw_⟩ : ∃ x, x = (((((m4.setCell ⟨a3, 0, none⟩ (.int .i64 ((rd_T37 a0 a1).f0))).setCell ⟨a3, 1, none⟩ (.int .i64 ((rd_T37 a0 a1).f1))).setCell ⟨a3, 2, none⟩ (.int .i64 ((rd_T37 a0 a1).f2.f0.f0))).setCell ⟨a3, 3, none⟩ (.int .i64 ((rd_T37 a0 a1).f2.f0.f1))).setCell ⟨a3, 4, none⟩ (.int .i64 ((rd_T37 a0 a1).f2.f1))) := ⟨_, rfl⟩; replace a5 : Aside0 (Kd.R (Kd.int .i64) 3 fL w.heap.size (fun _ => True) (.slice (some ⟨b7, 0, none⟩) aB.length cJ) aB) := ⟨by rw [hw_]; (with_reducible repeat (first | apply Kd.R_alloc | apply Kd.R_drewN | apply Kd.R_drew)); exact (qRF a5 a6)⟩; replace a7 : Aside0 (Kd.R k37 37 fL w.heap.size (fun k_ => k_ ≠ a3) (.slice (some cM) a0.length dV) a0) := ⟨by rw [hw_]; (with_reducible repeat (first | apply Kd.R_alloc | apply Kd.R_drewN | apply Kd.R_drew)); exact qY a3 a7 (fun _ hk => hk.2) (fun _ hk => hk.1.2)⟩; replace a8 : Aside0 (Kd.R k37 37 fL w.heap.size (fun k_ => k_ ≠ a3) (.slice (some cM) a0.length dV) a0) := ⟨by rw [hw_]; (with_reducible repeat (first | apply Kd.R_alloc | apply Kd.R_drewN | apply Kd.R_drew)); exact qY a3 a8 (fun _ hk => hk.2) (fun _ hk => hk.1.2)⟩; replace a4 : Aside0 (fL.heap[c4]? = some (.cells (a41 (rd_T41 l0 a2)) 41 (0, 0))) := ⟨by rw [hw_]; exact qF a4⟩; replace a6 : Aside0 (fL.heap[a3]? = some (.cells #[.int .i64 ((rd_T37 a0 a1).f0), .int .i64 ((rd_T37 a0 a1).f1), .int .i64 ((rd_T37 a0 a1).f2.f0.f0), .int .i64 ((rd_T37 a0 a1).f2.f0.f1), .int .i64 ((rd_T37 a0 a1).f2.f1)] 37 (0, 0))) := ⟨by rw [hw_]; exact qP a6⟩
            replace HB : Aside0 (Below w.heap.size w fL) := ⟨by rw [hw_]; exact qL HB⟩; rw [← hw_]; clear hw_; replace a5 := rw_d a5; replace a7 := rw_d a7; replace a8 := rw_d a8; replace a4 := bd a4; replace a6 := bd a6; replace HB := ed HB; refine sa 6 (fun w' => w'.cell? ⟨a3, 0, none⟩ = some (.int .i64 ((rd_T37 a0 a1).f0)) ∧ w'.cell? ⟨a3, 1, none⟩ = some (.int .i64 ((rd_T37 a0 a1).f1)) ∧ w'.cell? ⟨a3, 2, none⟩ = some (.int .i64 ((rd_T37 a0 a1).f2.f0.f0)) ∧ w'.cell? ⟨a3, 3, none⟩ = some (.int .i64 ((rd_T37 a0 a1).f2.f0.f1)) ∧ w'.cell? ⟨a3, 4, none⟩ = some (.int .i64 ((rd_T37 a0 a1).f2.f1))) [] ⟨bc a6 0, bc a6 1, bc a6 2, bc a6 3, bc a6 4⟩ fun Z => ?_; generalize fL.drew = m5 at a5 a7 a8 a4 a6 HB Z ⊢; refine pure_ (i := 0) (N := some 58) (v := ?_) (a' := ?_) (fl 6 1) rfl rfl (by kernel_rfl) (fun _ _ _ h => h) (Or.inl ⟨by rfl, ?_⟩) ?_ ?_; rotate_left
            ·intro w'
             go_simp
             with_reducible rfl
            rotate_left
            ·simp only [Act.put, List.setIfInBounds_toArray, List.set_cons_zero, List.set_cons_succ, i64_w, i32_w]
             rfl
            refine pure_ (i := 2) (N := some 60) (v := ?_) (a' := ?_) (fl 6 5) rfl rfl (by kernel_rfl) (fun _ _ _ h => h) (Or.inl ⟨by rfl, ?_⟩) ?_ ?_; rotate_left
            ·intro w'
             go_simp
             with_reducible rfl
            rotate_left
            ·simp only [Act.put, List.setIfInBounds_toArray, List.set_cons_zero, List.set_cons_succ, i64_w, i32_w]
             rfl
            refine take_ (i := 1) (N := some 59) (v := ?_) (a' := ?_) (fl 6 7) rfl rfl (by kernel_rfl) (fun _ _ _ h => h) (Or.inl ⟨by rfl, ?_⟩) Z ?_ ?_; rotate_left
            ·rintro w' ⟨s0, s1, s2, s3, s4⟩
             go_simp
             with_reducible rfl
            rotate_left
            ·simp only [Act.put, List.setIfInBounds_toArray, List.set_cons_zero, List.set_cons_succ, i64_w, i32_w]
             rfl
            refine pure_ (i := 4) (N := some 12) (v := ?_) (a' := ?_) (fl 6 23) rfl rfl (by kernel_rfl) (fun _ _ _ h => h) (Or.inl ⟨by rfl, ?_⟩) ?_ ?_; rotate_left
            ·intro w'
             go_simp
             with_reducible rfl
            rotate_left
            ·simp only [Act.put, List.setIfInBounds_toArray, List.set_cons_zero, List.set_cons_succ, i64_w, i32_w]
             rfl
            refine take_ (i := 3) (N := some 61) (v := ?_) (a' := ?_) (fl 6 31) rfl rfl (by kernel_rfl) (fun _ _ _ h => h) (Or.inl ⟨by rfl, ?_⟩) Z ?_ ?_; rotate_left
            ·rintro w' ⟨s0, s1, s2, s3, s4⟩
             go_simp
             with_reducible rfl
            rotate_left
            ·simp only [Act.put, List.setIfInBounds_toArray, List.set_cons_zero, List.set_cons_succ, i64_w, i32_w]
             rfl
            refine pure_ (i := 5) (N := some 13) (v := ?_) (a' := ?_) (fl 6 63) rfl rfl (by kernel_rfl) (fun _ _ _ h => h) (Or.inl ⟨by rfl, ?_⟩) ?_ ?_; rotate_left
            ·intro w'
             go_simp
             with_reducible rfl
            rotate_left
            ·simp only [Act.put, List.setIfInBounds_toArray, List.set_cons_zero, List.set_cons_succ, i64_w, i32_w]
             rfl
            refine done_ (by kernel_rfl) ?_
            try go_wp2
            replace a5 := rw_d a5; replace a7 := rw_d a7; replace a8 := rw_d a8; replace a4 := bd a4; replace a6 := bd a6; replace HB := ed HB; have cC : 0 ≤ (((rd_T37 a0 a1).f0) : Int) := qD; have cD : ((rd_T37 a0 a1).f0) < (l0.length : Int) := qD; obtain ⟨dW, eB, aJ, aK, aL, aM, aN, aO, aP, aQ, aR, aS, aF, aG⟩ := at_T41 HR0.out ((rd_T37 a0 a1).f0) cC cD; have aU := aG; have aV := aF; have b8 := aS; have b9 := aR; have bA := aQ; have bB := aP; have bC := aO; have bD := aN; have bE := aM; have bF := aL; have bG := aK; have bH := aJ; obtain rfl : c1 = dW := (by injection eB); obtain ⟨aJ, aK, aL, aM, aN, aO, aP, aQ, aR, aS, aF, aG⟩ := hB12 HB aJ aK aL aM aN aO aP aQ aR aS aF aG; replace cC := eq_true cC; replace cD := eq_true cD; have cE : 0 ≤ (((rd_T37 a0 a1).f1) : Int) := qD; have cF : ((rd_T37 a0 a1).f1) < (l0.length : Int) := qD; obtain ⟨dX, eC, aX, aY, aZ, b0, b1, b2, b3, b4, b5, b6, aH, aI⟩ := at_T41 HR0.out ((rd_T37 a0 a1).f1) cE cF; have bI := aI; have bJ := aH; have bL := b6; have bM := b5; have bN := b4; have bO := b3; have bP := b2; have bQ := b1; have bR := b0; have bT := aZ; have bU := aY; have bV := aX; obtain rfl : c1 = dX := (by injection eC); obtain ⟨aX, aY, aZ, b0, b1, b2, b3, b4, b5, b6, aH, aI⟩ := hB12 HB aX aY aZ b0 b1 b2 b3 b4 b5 b6 aH aI; replace cE := eq_true cE; replace cF := eq_true cF; have dN : 0 ≤ (((rd_T37 a0 a1).f0) : Int) := qD; have dO : ((rd_T37 a0 a1).f0) < (aB.length : Int) := qD; obtain ⟨fM, fZ, bW⟩ := Kd.at_int (rr a5) ((rd_T37 a0 a1).f0) dN dO; obtain rfl : (⟨b7, 0, none⟩ : Addr) = fM := (by injection fZ); (first | simp only [add_plain] at bW | simp only [add_at] at bW | simp only [Addr.add, Nat.zero_add] at bW | skip); replace dN := eq_true dN; replace dO := eq_true dO; have dP : 0 ≤ (((rd_T37 a0 a1).f1) : Int) := qD; have dQ : ((rd_T37 a0 a1).f1) < (aB.length : Int) := qD; obtain ⟨fN, g0, bX⟩ := Kd.at_int (rr a5) ((rd_T37 a0 a1).f1) dP dQ
            obtain rfl : (⟨b7, 0, none⟩ : Addr) = fN := (by injection g0); (first | simp only [add_plain] at bX | simp only [add_at] at bX | simp only [Addr.add, Nat.zero_add] at bX | skip); replace dP := eq_true dP; replace dQ := eq_true dQ; refine sa 27 (fun w' => ca (c1.add ((((rd_T37 a0 a1).f0)).toNat * 12)) (v41 (rd_T41 l0 ((rd_T37 a0 a1).f0))) w' ∧ ca (c1.add ((((rd_T37 a0 a1).f1)).toNat * 12)) (v41 (rd_T41 l0 ((rd_T37 a0 a1).f1))) w' ∧ w'.cell? ⟨b7, (((rd_T37 a0 a1).f0)).toNat, none⟩ = some (.int .i64 (rd aB ((rd_T37 a0 a1).f0))) ∧ w'.cell? ⟨b7, (((rd_T37 a0 a1).f1)).toNat, none⟩ = some (.int .i64 (rd aB ((rd_T37 a0 a1).f1)))) [] ⟨⟨hB HB bH, hB HB bG, hB HB bF, hB HB bE, hB HB bD, hB HB bC, hB HB bB, hB HB bA, hB HB b9, hB HB b8, hB HB aV, hB HB aU, trivial⟩, ⟨hB HB bV, hB HB bU, hB HB bT, hB HB bR, hB HB bQ, hB HB bP, hB HB bO, hB HB bN, hB HB bM, hB HB bL, hB HB bJ, hB HB bI, trivial⟩, bW, bX⟩ fun Z => ?_; refine with_tabW impl_Groups.tab23 impl_Groups.bits23 fun T Y => ?_; generalize m5.drew = mU at a5 a7 a8 a4 a6 HB aJ aK aF aG aL aM aN aO aP aQ aR aS aX aY aH aI aZ b0 b1 b2 b3 b4 b5 b6 bW bX Z ⊢
            refine pz 0 62 T ?_; refine pz 1 63 T ?_; refine pz 2 64 T ?_; refine tz 3 65 T Y Z ?_; refine oo 27 4 66 31 T fun K hK => ?_; refine ky Try.func51 (impl_Body_fixed.calls (r := false) eZ.out) ?_; rintro mV hb; have HSg2_ := hC hb (Z.2.2.1); have HSg3_ := hC hb (Z.2.2.2); replace a5 := rb a5 hb; replace a7 := rb a7 hb; replace a8 := rb a8 hb; replace a4 := kBB a4 hb; replace a6 := kBB a6 hb; replace HB := bS HB hb; clear hb; refine hz hK ⟨⟨hB HB bH, hB HB bG, hB HB bF, hB HB bE, hB HB bD, hB HB bC, hB HB bB, hB HB bA, hB HB b9, hB HB b8, hB HB aV, hB HB aU, trivial⟩, ⟨hB HB bV, hB HB bU, hB HB bT, hB HB bR, hB HB bQ, hB HB bP, hB HB bO, hB HB bN, hB HB bM, hB HB bL, hB HB bJ, hB HB bI, trivial⟩, HSg2_, HSg3_⟩ fun Z => ?_; clear hK K; refine nn 66 ?_; refine pz 5 67 T ?_; refine pz 6 68 T ?_; refine pz 7 69 T ?_; refine pz 8 70 T ?_; refine tz 9 71 T Y Z ?_; refine oo 27 10 72 2047 T fun K hK => ?_; refine ky Try.func51 (impl_Body_fixed.calls (r := false) fY.out) ?_; rintro mW hb; have HSg2_ := hC hb (Z.2.2.1); have HSg3_ := hC hb (Z.2.2.2); replace a5 := rb a5 hb; replace a7 := rb a7 hb; replace a8 := rb a8 hb; replace a4 := kBB a4 hb; replace a6 := kBB a6 hb; replace HB := bS HB hb; clear hb; refine hz hK ⟨⟨hB HB bH, hB HB bG, hB HB bF, hB HB bE, hB HB bD, hB HB bC, hB HB bB, hB HB bA, hB HB b9, hB HB b8, hB HB aV, hB HB aU, trivial⟩, ⟨hB HB bV, hB HB bU, hB HB bT, hB HB bR, hB HB bQ, hB HB bP, hB HB bO, hB HB bN, hB HB bM, hB HB bL, hB HB bJ, hB HB bI, trivial⟩, HSg2_, HSg3_⟩ fun Z => ?_; clear hK K; refine nn 72 ?_; refine pz 11 73 T ?_; refine pz 12 74 T ?_; refine pz 13 75 T ?_; refine pz 14 76 T ?_; refine pz 15 77 T ?_
            refine pz 17 79 T ?_; refine pz 19 81 T ?_; refine pz 20 82 T ?_; refine pz 21 83 T ?_; refine pz 23 85 T ?_; refine tz 16 78 T Y Z ?_; refine pz 18 80 T ?_; refine tz 22 84 T Y Z ?_; refine pz 24 86 T ?_; refine pz 25 87 T ?_; refine pz 26 88 T ?_; refine dn T ?_
            try go_wp2
            (try simp only [← aD])
            go_roundg k5
            case measure => exact me cG cN c8 dR e2
            exact ⟨(aB), (e7), (wrap64 (a1 + 1)), qG, qG, H', ⟨me cG cN c8 dR e2⟩, ⟨by (try simp only [a9]); (try simp only [aA]); (try simp only [aC]); (try simp only [aD]); (with_reducible repeat (first | apply Kd.R_alloc | apply Kd.R_drewN | apply Kd.R_drew)); exact a5.out⟩, ⟨by (try simp only [a9]); (try simp only [aA]); (try simp only [aC]); (try simp only [aD]); (with_reducible repeat (first | apply Kd.R_alloc | apply Kd.R_drewN | apply Kd.R_drew)); exact Kd.R_mono a7.out (fun _ hk => trivial)⟩, ⟨by (try simp only [a9]); (try simp only [aA]); (try simp only [aC]); (try simp only [aD]); (with_reducible repeat (first | apply Kd.R_alloc | apply Kd.R_drewN | apply Kd.R_drew)); exact Kd.R_mono a8.out (fun _ hk => trivial)⟩, ⟨by (try simp only [a9]); (try simp only [aA]); (try simp only [aC]); (try simp only [aD]); (with_reducible repeat (first | refine blk_drewN ?_ _ | refine blk_drew ?_ | refine blk_alloc ?_ _)); exact a4.out⟩, ⟨qL HB⟩⟩
           case L8 =>
            (try (have gS : decide (((rd aB ((rd_T37 a0 a1).f0)) == aE) = ((rd aB ((rd_T37 a0 a1).f1)) == aE)) = false := by simpa using c9)); (try (have gT : (((rd aB ((rd_T37 a0 a1).f0)) == aE) == ((rd aB ((rd_T37 a0 a1).f1)) == aE)) = false := by simpa using c9)); (try (have lV : ¬ (((rd aB ((rd_T37 a0 a1).f0)) == aE) = ((rd aB ((rd_T37 a0 a1).f1)) == aE)) := by simpa using c9)); clear c9; obtain ⟨gQ, fO⟩ : ∃ y_ : List Int, y_ = (aB.set (((rd_T37 a0 a1).f0) : Int).toNat aE) := ⟨_, rfl⟩; (try replace H := qW H); (try dsimp only at H); (try rw [← fO] at H); have hL := az fO; clear fO; obtain ⟨g1, dY⟩ : ∃ y_ : List Int, y_ = (gQ.set (((rd_T37 a0 a1).f1) : Int).toNat aE) := ⟨_, rfl⟩
            replace H : (impl_Groups.l3 k5 l0 g1 a0 aE true l0 (l0.length : Int) a2 a0 (a0.length : Int) (wrap64 (a1 + 1))) = some r := qs H dY
            have hM := az dY; clear dY; have H' := az H; clear H; obtain ⟨cA, cB, cM, eA, fE, fG, fH, fI, fJ⟩ := ay37 (rr a8) a1; cases eA
            try go_wp2_with (first | ((with_reducible refine gd 11 rfl ?_); refine bz5 11 37 ?_; intro a3 hg m6 a6 hb; have g8 := se hg HB; obtain ⟨c5, c6⟩ := nPB a4 hg; replace a5 := rb a5 hb; replace a7 := az (Kd.R_below (Kd.R_elderB (qR a7) a3 (Nat.le_of_eq hg.symm)) hb); replace a8 := az (Kd.R_below (Kd.R_elderB (qR a8) a3 (Nat.le_of_eq hg.symm)) hb); replace a4 := kBB a4 hb; replace HB := bS HB hb; clear hb hg; have mF := c6.out; have mG := c5.out; have hcz80_c := cz5 a6.out; have hfz80_c := fz5 a6.out))
            obtain ⟨fP, hw_⟩ : ∃ x, x = (((((m6.setCell ⟨a3, 0, none⟩ (.int .i64 ((rd_T37 a0 a1).f0))).setCell ⟨a3, 1, none⟩ (.int .i64 ((rd_T37 a0 a1).f1))).setCell ⟨a3, 2, none⟩ (.int .i64 ((rd_T37 a0 a1).f2.f0.f0))).setCell ⟨a3, 3, none⟩ (.int .i64 ((rd_T37 a0 a1).f2.f0.f1))).setCell ⟨a3, 4, none⟩ (.int .i64 ((rd_T37 a0 a1).f2.f1))) := ⟨_, rfl⟩; replace a5 : Aside0 (Kd.R (Kd.int .i64) 3 fP w.heap.size (fun _ => True) (.slice (some ⟨b7, 0, none⟩) aB.length cJ) aB) := ⟨by rw [hw_]; (with_reducible repeat (first | apply Kd.R_alloc | apply Kd.R_drewN | apply Kd.R_drew)); exact (qRF a5 a6)⟩; replace a7 : Aside0 (Kd.R k37 37 fP w.heap.size (fun k_ => k_ ≠ a3) (.slice (some cM) a0.length dV) a0) := ⟨by rw [hw_]; (with_reducible repeat (first | apply Kd.R_alloc | apply Kd.R_drewN | apply Kd.R_drew)); exact qY a3 a7 (fun _ hk => hk.2) (fun _ hk => hk.1.2)⟩; replace a8 : Aside0 (Kd.R k37 37 fP w.heap.size (fun k_ => k_ ≠ a3) (.slice (some cM) a0.length dV) a0) := ⟨by rw [hw_]; (with_reducible repeat (first | apply Kd.R_alloc | apply Kd.R_drewN | apply Kd.R_drew)); exact qY a3 a8 (fun _ hk => hk.2) (fun _ hk => hk.1.2)⟩; replace a4 : Aside0 (fP.heap[c4]? = some (.cells (a41 (rd_T41 l0 a2)) 41 (0, 0))) := ⟨by rw [hw_]; exact qF a4⟩; replace a6 : Aside0 (fP.heap[a3]? = some (.cells #[.int .i64 ((rd_T37 a0 a1).f0), .int .i64 ((rd_T37 a0 a1).f1), .int .i64 ((rd_T37 a0 a1).f2.f0.f0), .int .i64 ((rd_T37 a0 a1).f2.f0.f1), .int .i64 ((rd_T37 a0 a1).f2.f1)] 37 (0, 0))) := ⟨by rw [hw_]; exact qP a6⟩
            replace HB : Aside0 (Below w.heap.size w fP) := ⟨by rw [hw_]; exact qL HB⟩; rw [← hw_]; clear hw_; replace a5 := rw_d a5; replace a7 := rw_d a7; replace a8 := rw_d a8; replace a4 := bd a4; replace a6 := bd a6; replace HB := ed HB; refine sa 6 (fun w' => w'.cell? ⟨a3, 0, none⟩ = some (.int .i64 ((rd_T37 a0 a1).f0)) ∧ w'.cell? ⟨a3, 1, none⟩ = some (.int .i64 ((rd_T37 a0 a1).f1)) ∧ w'.cell? ⟨a3, 2, none⟩ = some (.int .i64 ((rd_T37 a0 a1).f2.f0.f0)) ∧ w'.cell? ⟨a3, 3, none⟩ = some (.int .i64 ((rd_T37 a0 a1).f2.f0.f1)) ∧ w'.cell? ⟨a3, 4, none⟩ = some (.int .i64 ((rd_T37 a0 a1).f2.f1))) [] ⟨bc a6 0, bc a6 1, bc a6 2, bc a6 3, bc a6 4⟩ fun Z => ?_; generalize fP.drew = m7 at a5 a7 a8 a4 a6 HB Z ⊢; refine pure_ (i := 0) (N := some 58) (v := ?_) (a' := ?_) (fl 6 1) rfl rfl (by kernel_rfl) (fun _ _ _ h => h) (Or.inl ⟨by rfl, ?_⟩) ?_ ?_; rotate_left
            ·intro w'
             go_simp
             with_reducible rfl
            rotate_left
            ·simp only [Act.put, List.setIfInBounds_toArray, List.set_cons_zero, List.set_cons_succ, i64_w, i32_w]
             rfl
            refine pure_ (i := 2) (N := some 60) (v := ?_) (a' := ?_) (fl 6 5) rfl rfl (by kernel_rfl) (fun _ _ _ h => h) (Or.inl ⟨by rfl, ?_⟩) ?_ ?_; rotate_left
            ·intro w'
             go_simp
             with_reducible rfl
            rotate_left
            ·simp only [Act.put, List.setIfInBounds_toArray, List.set_cons_zero, List.set_cons_succ, i64_w, i32_w]
             rfl
            refine take_ (i := 1) (N := some 59) (v := ?_) (a' := ?_) (fl 6 7) rfl rfl (by kernel_rfl) (fun _ _ _ h => h) (Or.inl ⟨by rfl, ?_⟩) Z ?_ ?_; rotate_left
            ·rintro w' ⟨s0, s1, s2, s3, s4⟩
             go_simp
             with_reducible rfl
            rotate_left
            ·simp only [Act.put, List.setIfInBounds_toArray, List.set_cons_zero, List.set_cons_succ, i64_w, i32_w]
             rfl
            refine pure_ (i := 4) (N := some 12) (v := ?_) (a' := ?_) (fl 6 23) rfl rfl (by kernel_rfl) (fun _ _ _ h => h) (Or.inl ⟨by rfl, ?_⟩) ?_ ?_; rotate_left
            ·intro w'
             go_simp
             with_reducible rfl
            rotate_left
            ·simp only [Act.put, List.setIfInBounds_toArray, List.set_cons_zero, List.set_cons_succ, i64_w, i32_w]
             rfl
            refine take_ (i := 3) (N := some 61) (v := ?_) (a' := ?_) (fl 6 31) rfl rfl (by kernel_rfl) (fun _ _ _ h => h) (Or.inl ⟨by rfl, ?_⟩) Z ?_ ?_; rotate_left
            ·rintro w' ⟨s0, s1, s2, s3, s4⟩
             go_simp
             with_reducible rfl
            rotate_left
            ·simp only [Act.put, List.setIfInBounds_toArray, List.set_cons_zero, List.set_cons_succ, i64_w, i32_w]
             rfl
            refine pure_ (i := 5) (N := some 13) (v := ?_) (a' := ?_) (fl 6 63) rfl rfl (by kernel_rfl) (fun _ _ _ h => h) (Or.inl ⟨by rfl, ?_⟩) ?_ ?_; rotate_left
            ·intro w'
             go_simp
             with_reducible rfl
            rotate_left
            ·simp only [Act.put, List.setIfInBounds_toArray, List.set_cons_zero, List.set_cons_succ, i64_w, i32_w]
             rfl
            refine done_ (by kernel_rfl) ?_
            try go_wp2
            replace a5 := rw_d a5; replace a7 := rw_d a7; replace a8 := rw_d a8; replace a4 := bd a4; replace a6 := bd a6; replace HB := ed HB; have cC : 0 ≤ (((rd_T37 a0 a1).f0) : Int) := qD; have cD : ((rd_T37 a0 a1).f0) < (l0.length : Int) := qD; obtain ⟨dW, eB, aJ, aK, aL, aM, aN, aO, aP, aQ, aR, aS, aF, aG⟩ := at_T41 HR0.out ((rd_T37 a0 a1).f0) cC cD; have aU := aG; have aV := aF; have b8 := aS; have b9 := aR; have bA := aQ; have bB := aP; have bC := aO; have bD := aN; have bE := aM; have bF := aL; have bG := aK; have bH := aJ; obtain rfl : c1 = dW := (by injection eB); obtain ⟨aJ, aK, aL, aM, aN, aO, aP, aQ, aR, aS, aF, aG⟩ := hB12 HB aJ aK aL aM aN aO aP aQ aR aS aF aG; replace cC := eq_true cC; replace cD := eq_true cD; have cE : 0 ≤ (((rd_T37 a0 a1).f1) : Int) := qD; have cF : ((rd_T37 a0 a1).f1) < (l0.length : Int) := qD; obtain ⟨dX, eC, aX, aY, aZ, b0, b1, b2, b3, b4, b5, b6, aH, aI⟩ := at_T41 HR0.out ((rd_T37 a0 a1).f1) cE cF; have bI := aI; have bJ := aH; have bL := b6; have bM := b5; have bN := b4; have bO := b3; have bP := b2; have bQ := b1; have bR := b0; have bT := aZ; have bU := aY; have bV := aX; obtain rfl : c1 = dX := (by injection eC); obtain ⟨aX, aY, aZ, b0, b1, b2, b3, b4, b5, b6, aH, aI⟩ := hB12 HB aX aY aZ b0 b1 b2 b3 b4 b5 b6 aH aI; replace cE := eq_true cE; replace cF := eq_true cF; have dN : 0 ≤ (((rd_T37 a0 a1).f0) : Int) := qD; have dO : ((rd_T37 a0 a1).f0) < (aB.length : Int) := qD; obtain ⟨fM, fZ, bW⟩ := Kd.at_int (rr a5) ((rd_T37 a0 a1).f0) dN dO; obtain rfl : (⟨b7, 0, none⟩ : Addr) = fM := (by injection fZ); (first | simp only [add_plain] at bW | simp only [add_at] at bW | simp only [Addr.add, Nat.zero_add] at bW | skip); replace dN := eq_true dN; replace dO := eq_true dO; have dP : 0 ≤ (((rd_T37 a0 a1).f1) : Int) := qD; have dQ : ((rd_T37 a0 a1).f1) < (aB.length : Int) := qD; obtain ⟨fN, g0, bX⟩ := Kd.at_int (rr a5) ((rd_T37 a0 a1).f1) dP dQ
            obtain rfl : (⟨b7, 0, none⟩ : Addr) = fN := (by injection g0); (first | simp only [add_plain] at bX | simp only [add_at] at bX | simp only [Addr.add, Nat.zero_add] at bX | skip); replace dP := eq_true dP; replace dQ := eq_true dQ; refine sa 27 (fun w' => ca (c1.add ((((rd_T37 a0 a1).f0)).toNat * 12)) (v41 (rd_T41 l0 ((rd_T37 a0 a1).f0))) w' ∧ ca (c1.add ((((rd_T37 a0 a1).f1)).toNat * 12)) (v41 (rd_T41 l0 ((rd_T37 a0 a1).f1))) w' ∧ w'.cell? ⟨b7, (((rd_T37 a0 a1).f0)).toNat, none⟩ = some (.int .i64 (rd aB ((rd_T37 a0 a1).f0))) ∧ w'.cell? ⟨b7, (((rd_T37 a0 a1).f1)).toNat, none⟩ = some (.int .i64 (rd aB ((rd_T37 a0 a1).f1)))) [] ⟨⟨hB HB bH, hB HB bG, hB HB bF, hB HB bE, hB HB bD, hB HB bC, hB HB bB, hB HB bA, hB HB b9, hB HB b8, hB HB aV, hB HB aU, trivial⟩, ⟨hB HB bV, hB HB bU, hB HB bT, hB HB bR, hB HB bQ, hB HB bP, hB HB bO, hB HB bN, hB HB bM, hB HB bL, hB HB bJ, hB HB bI, trivial⟩, bW, bX⟩ fun Z => ?_; refine with_tabW impl_Groups.tab23 impl_Groups.bits23 fun T Y => ?_; generalize m7.drew = mX at a5 a7 a8 a4 a6 HB aJ aK aF aG aL aM aN aO aP aQ aR aS aX aY aH aI aZ b0 b1 b2 b3 b4 b5 b6 bW bX Z ⊢
            refine pz 0 62 T ?_; refine pz 1 63 T ?_; refine pz 2 64 T ?_; refine tz 3 65 T Y Z ?_; refine oo 27 4 66 31 T fun K hK => ?_; refine ky Try.func51 (impl_Body_fixed.calls (r := false) eZ.out) ?_; rintro mY hb; have HSg2_ := hC hb (Z.2.2.1); have HSg3_ := hC hb (Z.2.2.2); replace a5 := rb a5 hb; replace a7 := rb a7 hb; replace a8 := rb a8 hb; replace a4 := kBB a4 hb; replace a6 := kBB a6 hb; replace HB := bS HB hb; clear hb; refine hz hK ⟨⟨hB HB bH, hB HB bG, hB HB bF, hB HB bE, hB HB bD, hB HB bC, hB HB bB, hB HB bA, hB HB b9, hB HB b8, hB HB aV, hB HB aU, trivial⟩, ⟨hB HB bV, hB HB bU, hB HB bT, hB HB bR, hB HB bQ, hB HB bP, hB HB bO, hB HB bN, hB HB bM, hB HB bL, hB HB bJ, hB HB bI, trivial⟩, HSg2_, HSg3_⟩ fun Z => ?_; clear hK K; refine nn 66 ?_; refine pz 5 67 T ?_; refine pz 6 68 T ?_; refine pz 7 69 T ?_; refine pz 8 70 T ?_; refine tz 9 71 T Y Z ?_; refine oo 27 10 72 2047 T fun K hK => ?_; refine ky Try.func51 (impl_Body_fixed.calls (r := false) fY.out) ?_; rintro jK hb; have HSg2_ := hC hb (Z.2.2.1); have HSg3_ := hC hb (Z.2.2.2); replace a5 := rb a5 hb; replace a7 := rb a7 hb; replace a8 := rb a8 hb; replace a4 := kBB a4 hb; replace a6 := kBB a6 hb; replace HB := bS HB hb; clear hb; refine hz hK ⟨⟨hB HB bH, hB HB bG, hB HB bF, hB HB bE, hB HB bD, hB HB bC, hB HB bB, hB HB bA, hB HB b9, hB HB b8, hB HB aV, hB HB aU, trivial⟩, ⟨hB HB bV, hB HB bU, hB HB bT, hB HB bR, hB HB bQ, hB HB bP, hB HB bO, hB HB bN, hB HB bM, hB HB bL, hB HB bJ, hB HB bI, trivial⟩, HSg2_, HSg3_⟩ fun Z => ?_; clear hK K; refine nn 72 ?_; refine pz 11 73 T ?_; refine pz 12 74 T ?_; refine pz 13 75 T ?_; refine pz 14 76 T ?_; refine pz 15 77 T ?_
            refine pz 17 79 T ?_; refine pz 19 81 T ?_; refine pz 20 82 T ?_; refine pz 21 83 T ?_; refine pz 23 85 T ?_; refine tz 16 78 T Y Z ?_; refine pz 18 80 T ?_; refine tz 22 84 T Y Z ?_; refine pz 24 86 T ?_; refine pz 25 87 T ?_; refine pz 26 88 T ?_; refine dn T ?_; have hO : 0 ≤ (((rd_T37 a0 a1).f0) : Int) := qD; have hP : (((rd_T37 a0 a1).f0) : Int) < ((aB.length : Int) : Int) := qD; obtain ⟨m8, hf76_0⟩ := Kd.R_celln 0 a5.out (((rd_T37 a0 a1).f0) : Int) hO hP; replace hO := eq_true hO; replace hP := eq_true hP; obtain ⟨mH, hz86_⟩ := Kd.R_celln 0 a5.out (((rd_T37 a0 a1).f0) : Int) (of_decide_eq_true (by first | (with_reducible assumption) | assumption)) (of_decide_eq_true (by first | (with_reducible assumption) | assumption)); have HP86 := Kd.R_putg a5.out (((rd_T37 a0 a1).f0) : Int) aE
            try go_wp2_with (first | ((with_reducible refine gs 3 95 rfl ?_); refine sw 3 95 (jK.setCell ⟨b7, (((rd_T37 a0 a1).f0) : Int).toNat, none⟩ (.int .i64 aE)) ?_; intro g9 hw; have hg : jK.grownBy g9 (some b7) := (by rw [hw]; exact HP86.2); have hp_ : Kd.R (Kd.int .i64) 3 g9 w.heap.size (fun _ => True) (.slice (some ⟨b7, 0, none⟩) aB.length cJ) gQ := (by rw [hw, hL.out]; exact HP86.1); clear HP86; replace a7 := ro a7 a5 hg; replace a8 := ro a8 a5 hg; replace a4 := az (blk_grown (g := c4) (o := .cells (a41 (rd_T41 l0 a2)) 41 (0, 0)) (qB a4) hg (Kd.R_ne a5.out a4.out (by decide))); replace a6 := az (blk_grown (g := a3) (o := .cells #[.int .i64 ((rd_T37 a0 a1).f0), .int .i64 ((rd_T37 a0 a1).f1), .int .i64 ((rd_T37 a0 a1).f2.f0.f0), .int .i64 ((rd_T37 a0 a1).f2.f0.f1), .int .i64 ((rd_T37 a0 a1).f2.f1)] 37 (0, 0)) (qB a6) hg (Kd.R_ne a5.out a6.out (by decide))); replace a5 := az (hp_); replace HB := az ((by rw [hw]; exact below_set (HB.out) GB34.out : Below w.heap.size w g9)); clear hg hw hp_; have hQ : 0 ≤ (((rd_T37 a0 a1).f1) : Int) := qD; have hR : (((rd_T37 a0 a1).f1) : Int) < ((aB.length : Int) : Int) := qD; obtain ⟨m9, hf77_0⟩ := Kd.R_celln 0 a5.out (((rd_T37 a0 a1).f1) : Int) hQ hR; replace hQ := eq_true hQ; replace hR := eq_true hR; obtain ⟨mI, hz88_⟩ := Kd.R_celln 0 a5.out (((rd_T37 a0 a1).f1) : Int) (of_decide_eq_true (by first | (with_reducible assumption) | assumption)) (of_decide_eq_true (by first | (with_reducible assumption) | assumption)); have HP88 := Kd.R_putg a5.out (((rd_T37 a0 a1).f1) : Int) aE) | ((with_reducible refine gs 3 96 rfl ?_); refine sw 3 96 (g9.setCell ⟨b7, (((rd_T37 a0 a1).f1) : Int).toNat, none⟩ (.int .i64 aE)) ?_; intro hS hw; have hg : g9.grownBy hS (some b7) := (by rw [hw]; exact HP88.2); have hp_ : Kd.R (Kd.int .i64) 3 hS w.heap.size (fun _ => True) (.slice (some ⟨b7, 0, none⟩) aB.length cJ) g1 := (by rw [hw, hM.out]; exact HP88.1); clear HP88; replace a7 := ro a7 a5 hg; replace a8 := ro a8 a5 hg; replace a4 := az (blk_grown (g := c4) (o := .cells (a41 (rd_T41 l0 a2)) 41 (0, 0)) (qB a4) hg (Kd.R_ne a5.out a4.out (by decide))); replace a6 := az (blk_grown (g := a3) (o := .cells #[.int .i64 ((rd_T37 a0 a1).f0), .int .i64 ((rd_T37 a0 a1).f1), .int .i64 ((rd_T37 a0 a1).f2.f0.f0), .int .i64 ((rd_T37 a0 a1).f2.f0.f1), .int .i64 ((rd_T37 a0 a1).f2.f1)] 37 (0, 0)) (qB a6) hg (Kd.R_ne a5.out a6.out (by decide))); replace a5 := az (hp_); replace HB := az ((by rw [hw]; exact below_set (HB.out) GB34.out : Below w.heap.size w hS)); clear hg hw hp_))
            (try simp only [← aD])
            go_roundg k5
            case measure => exact me cG cN c8 dR e2
            exact ⟨(g1), (true), (wrap64 (a1 + 1)), qG, qG, H', ⟨me cG cN c8 dR e2⟩, ⟨by (try simp only [a9]); (try simp only [aA]); (try simp only [aC]); (try simp only [aD]); (with_reducible repeat (first | apply Kd.R_alloc | apply Kd.R_drewN | apply Kd.R_drew)); exact a5.out⟩, ⟨by (try simp only [a9]); (try simp only [aA]); (try simp only [aC]); (try simp only [aD]); (with_reducible repeat (first | apply Kd.R_alloc | apply Kd.R_drewN | apply Kd.R_drew)); exact Kd.R_mono a7.out (fun _ hk => trivial)⟩, ⟨by (try simp only [a9]); (try simp only [aA]); (try simp only [aC]); (try simp only [aD]); (with_reducible repeat (first | apply Kd.R_alloc | apply Kd.R_drewN | apply Kd.R_drew)); exact Kd.R_mono a8.out (fun _ hk => trivial)⟩, ⟨by (try simp only [a9]); (try simp only [aA]); (try simp only [aC]); (try simp only [aD]); (with_reducible repeat (first | refine blk_drewN ?_ _ | refine blk_drew ?_ | refine blk_alloc ?_ _)); exact a4.out⟩, ⟨qL HB⟩⟩
           case L9 =>
            go_wp2; (try simp only [← aC, ← aD])
            go_roundg k5
            case measure => exact me cG cN c8 dR e2
            exact ⟨(aB), (e7), qG, H', ⟨me cG cN c8 dR e2⟩, ⟨by (try simp only [a9]); (try simp only [aA]); (try simp only [aC]); (try simp only [aD]); (with_reducible repeat (first | apply Kd.R_alloc | apply Kd.R_drewN | apply Kd.R_drew)); exact a5.out⟩, ⟨by (try simp only [a9]); (try simp only [aA]); (try simp only [aC]); (try simp only [aD]); (with_reducible repeat (first | apply Kd.R_alloc | apply Kd.R_drewN | apply Kd.R_drew)); exact a7.out⟩, ⟨by (try simp only [a9]); (try simp only [aA]); (try simp only [aC]); (try simp only [aD]); (with_reducible repeat (first | refine blk_drewN ?_ _ | refine blk_drew ?_ | refine blk_alloc ?_ _)); exact a4.out⟩, ⟨qL HB⟩⟩
         case L11 =>
          go_wp2; (try simp only [← aA, ← aC])
          go_roundg k4
          case measure => exact md cG cN c8 dR
          exact ⟨(eX), (wrap64 (aE + 1)), (wrap64 (a2 + 1)), qG, qG, H', ⟨md cG cN c8 dR⟩, ⟨by (try simp only [a9]); (try simp only [aA]); (try simp only [aC]); (with_reducible repeat (first | apply Kd.R_alloc | apply Kd.R_drewN | apply Kd.R_drew)); exact a5.out⟩, ⟨by (try simp only [a9]); (try simp only [aA]); (try simp only [aC]); (with_reducible repeat (first | apply Kd.R_alloc | apply Kd.R_drewN | apply Kd.R_drew)); exact a7.out⟩, ⟨qL HB⟩⟩
     case L14 =>
      go_wp2
      go_ret
      exact ⟨_, qE, qR a5, qL HB⟩
 case L17 =>
  go_wp2_with (first | ((with_reducible refine gc 27 rfl ?_); refine gr 15 Try.func27 (impl_BodiesOk.calls (r := false) (qC HR0.out) gU.out gD.out) ?_; rintro mZ hb; replace HB := bS HB hb; clear hb))
  go_ret
  exact ⟨_, qE, by first | exact Kd.R_nil _ _ _ _ _ | exact Kd.N_nil _ _ _ _ _ | exact Kd.V_nil _ _ _ _ _ | exact Kd.Q_nil _ _ _ _ _ | exact Kd.S_nil _ _ _ _ _, qL HB⟩
end Go.Proofs.Ytdngjedhbnoaoaa.PBig
