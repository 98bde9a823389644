/- What these functions compute, each walked once: impl_GroupAwake; for all arguments and worlds, under the conditions that each theorem names. -/
import Derived.Test.YtdngjedhbnoaoaaSq
import Derived.Test.YtdngjedhbnoaoaaPBigx912
import Derived.Test.YtdngjedhbnoaoaaPBigx917
namespace Go.Proofs.Ytdngjedhbnoaoaa.PBig
open Go.RowKit Go.Proofs.YtdngjedhbnoaoaaW.PrintWords Go.Proofs.YtdngjedhbnoaoaaW.PrintLast Go.Proofs.YtdngjedhbnoaoaaW.PrintMore
attribute [local go_sem] max2_int min2_int max_two min_two max_three min_three max_four min_four
set_option linter.unusedVariables false
set_option linter.unusedSimpArgs false
set_option maxHeartbeats 8000000
set_option maxRecDepth 100000

/-! ### impl_GroupAwake: function 20 -/
def impl_GroupAwake.l0 : Nat → List S41 → List Bool → List Int → Int → Int → Option (List Bool)
  | 0, _, _, _, _, _ => none
  | k + 1, x0, x3, x7, x8, x9 => if x9 < x8 then (if 0 ≤ x9 then (if x9 < (x7.length : Int) then (if (rd x7 x9) = (x3.length : Int) then (if x3.length < 140737488355328 then ((some (x3 ++ [false] : List Bool)).bind fun aT => (if (rd x7 x9) ≥ 0 then (if x9 < (x0.length : Int) then ((impl_Body_sleeps.f ((rd_T41 x0 x9).f0) ((rd_T41 x0 x9).f1.f0) ((rd_T41 x0 x9).f1.f1) ((rd_T41 x0 x9).f1.f2) ((rd_T41 x0 x9).f2.f0) ((rd_T41 x0 x9).f2.f1) ((rd_T41 x0 x9).f3.f0) ((rd_T41 x0 x9).f3.f1) ((rd_T41 x0 x9).f4) ((rd_T41 x0 x9).f5) ((rd_T41 x0 x9).f6) ((rd_T41 x0 x9).f7)).bind fun cE => (if cE = true then (impl_GroupAwake.l0 k x0 aT x7 x8 (wrap64 (x9 + 1))) else (if 0 ≤ (rd x7 x9) then (if (rd x7 x9) < (aT.length : Int) then (impl_GroupAwake.l0 k x0 (aT.set ((rd x7 x9) : Int).toNat true) x7 x8 (wrap64 (x9 + 1))) else none) else none))) else none) else (impl_GroupAwake.l0 k x0 aT x7 x8 (wrap64 (x9 + 1))))) else none) else (if (rd x7 x9) ≥ 0 then (if x9 < (x0.length : Int) then ((impl_Body_sleeps.f ((rd_T41 x0 x9).f0) ((rd_T41 x0 x9).f1.f0) ((rd_T41 x0 x9).f1.f1) ((rd_T41 x0 x9).f1.f2) ((rd_T41 x0 x9).f2.f0) ((rd_T41 x0 x9).f2.f1) ((rd_T41 x0 x9).f3.f0) ((rd_T41 x0 x9).f3.f1) ((rd_T41 x0 x9).f4) ((rd_T41 x0 x9).f5) ((rd_T41 x0 x9).f6) ((rd_T41 x0 x9).f7)).bind fun cF => (if cF = true then (impl_GroupAwake.l0 k x0 x3 x7 x8 (wrap64 (x9 + 1))) else (if 0 ≤ (rd x7 x9) then (if (rd x7 x9) < (x3.length : Int) then (impl_GroupAwake.l0 k x0 (x3.set ((rd x7 x9) : Int).toNat true) x7 x8 (wrap64 (x9 + 1))) else none) else none))) else none) else (impl_GroupAwake.l0 k x0 x3 x7 x8 (wrap64 (x9 + 1))))) else none) else none) else (some x3)
def impl_GroupAwake.f (k : Nat) (l0 : List S41) : Option (List Bool) := (impl_Groups.f k l0).bind fun a0 => (impl_GroupAwake.l0 k l0 ([] : List Bool) a0 (a0.length : Int) 0)
theorem impl_GroupAwake.calls {k : Nat} {A0 : Option Addr} {c0 : Nat} {l0 : List S41} {r : List Bool} {w : World} (hr0 : Kd.C k41 w A0 l0.length l0) (hc0 : l0.length ≤ c0) (h : impl_GroupAwake.f k l0 = some r) :
  Calls Try.prog 20 #[.slice A0 l0.length c0] w fun e w' => ∃ cK : Value, e = .returned (cK) ∧ Kd.R Kd.bool 4 w' w.heap.size (fun _ => True) cK r ∧ Below w.heap.size w w' := by
 have hu41 := Try.underlying41; have HR0 := az hr0; have cV := az hc0; clear hr0 hc0; have HB := br w; have H : ((impl_Groups.f k l0).bind fun a0 => (impl_GroupAwake.l0 k l0 ([] : List Bool) a0 (a0.length : Int) 0)) = some r := h; clear h; replace H := qH H; obtain ⟨a0, A2, H⟩ := H
 have H' := az H; clear H; go_enter Try.func20, Try.ntmps20; go_wp2_with (first | ((with_reducible refine gc 14 rfl ?_); refine gx 7 Try.func14 (impl_Groups.calls (qC HR0.out) cV.out A2.out) ?_; rintro dE w3 ⟨cL, hb⟩; have bQ := lo cL HB; replace HB := bS HB hb; clear hb; obtain ⟨cW, cX, cY⟩ := Kd.R_slice bQ.out; subst cY))
 go_loopg [3, 9] k (fun kq v3 v9 w' => ∃ (a5 : List Bool) (a1 : Int), v9 = .int .i64 a1 ∧ Aside0 (impl_GroupAwake.l0 kq l0 a5 a0 (a0.length : Int) a1 = some r) ∧ Aside0 (kq ≤ k) ∧ Aside0 (Kd.R Kd.bool 4 w' w.heap.size (fun _ => True) v3 a5) ∧ Aside0 (Kd.R (Kd.int .i64) 3 w' w.heap.size (fun _ => True) (.slice cW a0.length cX) a0) ∧ Aside0 (Below w.heap.size w w'))
 case atStart => exact ⟨(([] : List Bool)), (0), qG, H', ⟨Nat.le_refl _⟩, ⟨by first | exact Kd.R_nil _ _ _ _ _ | exact Kd.N_nil _ _ _ _ _ | exact Kd.V_nil _ _ _ _ _ | exact Kd.Q_nil _ _ _ _ _ | exact Kd.S_nil _ _ _ _ _⟩, ⟨qR bQ⟩, ⟨qL HB⟩⟩
 case round =>
  clear H'; obtain ⟨a5, a1, rfl, HA, aD, a4, a2, HB⟩ := hrel
  obtain ⟨k1, rfl⟩ := qz gk HA
  have H := HA.out; clear HA; simp only [impl_GroupAwake.l0] at H; replace H := qc H; obtain ⟨bE, H⟩ | ⟨bE, H⟩ := H; replace H := qd H; obtain ⟨cS, H⟩ := H; replace H := qd H; obtain ⟨bE, H⟩ := H; by_cases aC : (rd a0 a1) = (a5.length : Int); rw [if_pos aC] at H; have bW : ((rd a0 a1) == (a5.length : Int)) = true := beq_iff_eq.mpr aC; have bX : ((rd a0 a1) != (a5.length : Int)) = false := bne_eq_false_iff_eq.mpr aC; clear aC; replace H := qif H; obtain ⟨bT, H⟩ := H; have LMc7003 := az bT; clear bT; obtain ⟨a7, a8⟩ : ∃ y_ : List Bool, y_ = (a5 ++ [false]) := ⟨_, rfl⟩; (try replace H := qW H); (try dsimp only at H); (try rw [← a8] at H); have aG := az a8; clear a8; replace H := qc H; obtain ⟨aK, H⟩ | ⟨aK, H⟩ := H; replace H := qd H; obtain ⟨bY, H⟩ := H; replace H := qH H; obtain ⟨bF, aI, H⟩ := H
  by_cases aA : bF = true; subst aA; replace H := qT H; have H' := az H; clear H; refine ?L1; rotate_left; replace aA := Bool.eq_false_iff.mpr aA; subst aA; replace H := qU H; replace H := qd H; obtain ⟨bZ, H⟩ := H; replace H := qd H; obtain ⟨cT, H⟩ := H; obtain ⟨bG, aE⟩ : ∃ y_ : List Bool, y_ = (a7.set ((rd a0 a1) : Int).toNat true) := ⟨_, rfl⟩
  replace H : (impl_GroupAwake.l0 k1 l0 bG a0 (a0.length : Int) (wrap64 (a1 + 1))) = some r := qs H aE
  have c1 := az aE; clear aE; have H' := az H; clear H; refine ?L2
  rotate_right
  rotate_left 2
  have H' := az H; clear H; refine ?L3
  rotate_right 2
  rotate_left 3
  rw [if_neg aC] at H; have bW : ((rd a0 a1) == (a5.length : Int)) = false := beq_eq_false_iff_ne.mpr aC; have bX : ((rd a0 a1) != (a5.length : Int)) = true := bne_iff_ne.mpr aC; replace H := qc H; obtain ⟨aK, H⟩ | ⟨aK, H⟩ := H; replace H := qd H; obtain ⟨bY, H⟩ := H; replace H := qH H; obtain ⟨bF, aI, H⟩ := H
  by_cases aA : bF = true; subst aA; replace H := qT H; have H' := az H; clear H; refine ?L4; rotate_left; replace aA := Bool.eq_false_iff.mpr aA; subst aA; replace H := qU H; replace H := qd H; obtain ⟨bZ, H⟩ := H; replace H := qd H; obtain ⟨cU, H⟩ := H; obtain ⟨a7, a8⟩ : ∃ y_ : List Bool, y_ = (a5.set ((rd a0 a1) : Int).toNat true) := ⟨_, rfl⟩
  replace H : (impl_GroupAwake.l0 k1 l0 a7 a0 (a0.length : Int) (wrap64 (a1 + 1))) = some r := qs H a8
  have aG := az a8; clear a8; have H' := az H; clear H; refine ?L5
  rotate_right
  rotate_left 2
  have H' := az H; clear H; refine ?L6
  rotate_right 2
  rotate_right 3
  rotate_left 6
  obtain rfl := Option.some.inj H; refine ?L7
  rotate_right 6
  case' L1 | L2 | L3 | L4 | L5 | L6 =>
   obtain ⟨bH, bI, cZ, cG, cO⟩ := ayi (rr a2) a1; cases cG; obtain ⟨c2, bJ, cP⟩ := Kd.R_slice a4.out; subst cP
  case' L1 | L2 =>
   go_wp2_with (first | ((with_reducible refine ga 18 19 rfl ?_); at_builtin; refine Kd.R_append Kd.bool (w0 := w) w.heap.size rfl (.tmp 18) (.tmp 19) 31 4 (.bool false) 1 rfl Try.underlying31 info4 rfl (by decide) (by omega) (.slice c2 a5.length bJ) a5 false [.bool false] (fun _ => True) (fun _ => False) rfl rfl ?aP (fun _ hk => hk.elim) ?aF ?aO ?aB ?aS ?aL ?_; (case aP => exact rfl); (case aB => exact (qL HB)); (case aF => exact (fun _ _ => trivial)); (case aO => exact (qR a4)); (case aS => exact (below_size (qL HB))); (case aL => have := LMc7003.out; omega); intro cH dI ho hb hg hat; rw [← aG.out] at ho; have a3 := az ho; replace a2 := az (Kd.R_over' (qR a2) (Kd.R_typed (qR a4)) (by decide) hg); replace HB := az hb; clear a4 ho hb hg hat; obtain ⟨bK, bL, dA, cI, aU, aV, aW, aX, aY, aZ, b0, b1, b2, b3, aM, aN⟩ := ay41 HR0.out a1; cases cI; obtain ⟨aU, aV, aW, aX, aY, aZ, b0, b1, b2, b3, aM, aN⟩ := hB12 HB aU aV aW aX aY aZ b0 b1 b2 b3 aM aN) | (go_at_call 56; (with_reducible refine (impl_Body_sleeps.calls (r := true) aI.out).mono ?_); rintro e dJ ⟨rfl, hb⟩; replace a2 := rb a2 hb; replace a3 := rb a3 hb; replace HB := bS HB hb; clear hb) | (go_at_call 56; (with_reducible refine (impl_Body_sleeps.calls (r := false) aI.out).mono ?_); rintro e cM ⟨rfl, hb⟩; replace a2 := rb a2 hb; replace a3 := rb a3 hb; replace HB := bS HB hb; clear hb; have c3 : 0 ≤ ((rd a0 a1) : Int) := qD; have c4 : ((rd a0 a1) : Int) < ((a7.length : Int) : Int) := qD; obtain ⟨bM, c5, c6, c7, cQ, cl19, HG19⟩ := Kd.R_form a3.out (by omega); (first | cases c6 | (injection c6 with ea_ en_ ec_; (first | subst ea_ | (injection ea_ with ea_; subst ea_)); subst ec_; clear en_)); have GB19 := az c7; have GG19 := az HG19; clear c7 cQ HG19; obtain ⟨dB, hf19_0⟩ := Kd.R_celln false a3.out ((rd a0 a1) : Int) c3 c4; replace c3 := eq_true c3; replace c4 := eq_true c4; obtain ⟨dF, hz23_⟩ := Kd.R_celln false a3.out ((rd a0 a1) : Int) (of_decide_eq_true (by first | (with_reducible assumption) | assumption)) (of_decide_eq_true (by first | (with_reducible assumption) | assumption)); have HP23 := Kd.R_putg a3.out ((rd a0 a1) : Int) true) | ((with_reducible refine gs 4 33 rfl ?_); refine sw 4 33 (cM.setCell ⟨bM, ((rd a0 a1) : Int).toNat, none⟩ (.bool true)) ?_; intro c8 hw; have hg : cM.grownBy c8 (some bM) := (by rw [hw]; exact HP23.2); have hp_ : Kd.R Kd.bool 4 c8 w.heap.size (fun _ => True) (.slice (some ⟨bM, 0, none⟩) a7.length c5) bG := (by rw [hw, c1.out]; exact HP23.1); clear HP23; replace a2 := ro a2 a3 hg; replace a3 := az (hp_); replace HB := az ((by rw [hw]; exact below_set (HB.out) GB19.out : Below w.heap.size w c8)); clear hg hw hp_))
   go_roundg k1
   case measure => exact ma aD
  case L1 =>
   exact ⟨(a7), (wrap64 (a1 + 1)), qG, H', ⟨ma aD⟩, ⟨qR a3⟩, ⟨qR a2⟩, ⟨qL HB⟩⟩
  case L2 =>
   exact ⟨(bG), (wrap64 (a1 + 1)), qG, H', ⟨ma aD⟩, ⟨qR a3⟩, ⟨qR a2⟩, ⟨qL HB⟩⟩
  case L3 =>
   go_wp2_with (first | ((with_reducible refine ga 18 19 rfl ?_); at_builtin; refine Kd.R_append Kd.bool (w0 := w) w.heap.size rfl (.tmp 18) (.tmp 19) 31 4 (.bool false) 1 rfl Try.underlying31 info4 rfl (by decide) (by omega) (.slice c2 a5.length bJ) a5 false [.bool false] (fun _ => True) (fun _ => False) rfl rfl ?aP (fun _ hk => hk.elim) ?aF ?aO ?aB ?aS ?aL ?_; (case aP => exact rfl); (case aB => exact (qL HB)); (case aF => exact (fun _ _ => trivial)); (case aO => exact (qR a4)); (case aS => exact (below_size (qL HB))); (case aL => have := LMc7003.out; omega); intro cH dK ho hb hg hat; rw [← aG.out] at ho; have a3 := az ho; replace a2 := az (Kd.R_over' (qR a2) (Kd.R_typed (qR a4)) (by decide) hg); replace HB := az hb; clear a4 ho hb hg hat))
   go_roundg k1
   case measure => exact ma aD
   exact ⟨(a7), (wrap64 (a1 + 1)), qG, H', ⟨ma aD⟩, ⟨qR a3⟩, ⟨qR a2⟩, ⟨qL HB⟩⟩
  case' L4 | L5 =>
   obtain ⟨bN, bO, dC, cJ, b4, b5, b6, b7, b8, b9, bA, bB, bC, bD, aQ, aR⟩ := ay41 HR0.out a1; cases cJ; obtain ⟨b4, b5, b6, b7, b8, b9, bA, bB, bC, bD, aQ, aR⟩ := hB12 HB b4 b5 b6 b7 b8 b9 bA bB bC bD aQ aR
  case L4 =>
   go_wp2_with (first | (go_at_call 56; (with_reducible refine (impl_Body_sleeps.calls (r := true) aI.out).mono ?_); rintro e dL ⟨rfl, hb⟩; replace a4 := rb a4 hb; replace a2 := rb a2 hb; replace HB := bS HB hb; clear hb))
   go_roundg k1
   case measure => exact ma aD
   exact ⟨(a5), (wrap64 (a1 + 1)), qG, H', ⟨ma aD⟩, ⟨qR a4⟩, ⟨qR a2⟩, ⟨qL HB⟩⟩
  case L5 =>
   go_wp2_with (first | (go_at_call 56; (with_reducible refine (impl_Body_sleeps.calls (r := false) aI.out).mono ?_); rintro e cN ⟨rfl, hb⟩; replace a4 := rb a4 hb; replace a2 := rb a2 hb; replace HB := bS HB hb; clear hb; have c9 : 0 ≤ ((rd a0 a1) : Int) := qD; have cA : ((rd a0 a1) : Int) < ((a5.length : Int) : Int) := qD; obtain ⟨bP, dH, cB, cC, cR, cl35, HG35⟩ := Kd.R_form a4.out (by omega); (first | cases cB | (injection cB with ea_ en_ ec_; (first | subst ea_ | (injection ea_ with ea_; subst ea_)); subst ec_; clear en_)); have GB35 := az cC; have GG35 := az HG35; clear cC cR HG35; obtain ⟨dD, hf35_0⟩ := Kd.R_celln false a4.out ((rd a0 a1) : Int) c9 cA; replace c9 := eq_true c9; replace cA := eq_true cA; obtain ⟨dG, hz38_⟩ := Kd.R_celln false a4.out ((rd a0 a1) : Int) (of_decide_eq_true (by first | (with_reducible assumption) | assumption)) (of_decide_eq_true (by first | (with_reducible assumption) | assumption)); have HP38 := Kd.R_putg a4.out ((rd a0 a1) : Int) true) | ((with_reducible refine gs 4 33 rfl ?_); refine sw 4 33 (cN.setCell ⟨bP, ((rd a0 a1) : Int).toNat, none⟩ (.bool true)) ?_; intro cD hw; have hg : cN.grownBy cD (some bP) := (by rw [hw]; exact HP38.2); have hp_ : Kd.R Kd.bool 4 cD w.heap.size (fun _ => True) (.slice (some ⟨bP, 0, none⟩) a5.length bJ) a7 := (by rw [hw, aG.out]; exact HP38.1); clear HP38; replace a2 := ro a2 a4 hg; replace a4 := az (hp_); replace HB := az ((by rw [hw]; exact below_set (HB.out) GB35.out : Below w.heap.size w cD)); clear hg hw hp_))
   go_roundg k1
   case measure => exact ma aD
   exact ⟨(a7), (wrap64 (a1 + 1)), qG, H', ⟨ma aD⟩, ⟨qR a4⟩, ⟨qR a2⟩, ⟨qL HB⟩⟩
  case L6 =>
   go_wp2
   go_roundg k1
   case measure => exact ma aD
   exact ⟨(a5), (wrap64 (a1 + 1)), qG, H', ⟨ma aD⟩, ⟨qR a4⟩, ⟨qR a2⟩, ⟨qL HB⟩⟩
  case L7 =>
   go_wp2
   go_ret
   exact ⟨_, qE, qR a4, qL HB⟩
end Go.Proofs.Ytdngjedhbnoaoaa.PBig
