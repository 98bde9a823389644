/- What these functions compute, each walked once: spec_l3Less, spec_l3More, spec_l6Within, spec_l7Number, spec_l7Groups, spec_l2Square, spec_FixClamp, spec_l2Clamp, spec_l1Root, spec_VecLen, spec_VecUnit; for all arguments and worlds, under the conditions that each theorem names. -/
import Derived.Test.YtdngjedhbnoaoaaSq
namespace Go.Proofs.Ytdngjedhbnoaoaa.PBig
open Go.RowKit Go.Proofs.YtdngjedhbnoaoaaW.PrintWords Go.Proofs.YtdngjedhbnoaoaaW.PrintLast Go.Proofs.YtdngjedhbnoaoaaW.PrintMore
attribute [local go_sem] max2_int min2_int max_two min_two max_three min_three max_four min_four
set_option linter.unusedVariables false
set_option linter.unusedSimpArgs false
set_option maxHeartbeats 8000000
set_option maxRecDepth 100000

/-! ### spec_l3Less: function 74 -/
def spec_l3Less.f (a0 a1 : Int) : Option (Int) := if a0 < a1 then (some a0) else (some a1)
theorem spec_l3Less.calls {a0 a1 r : Int} {w : World} (h : spec_l3Less.f a0 a1 = some r) :
  Calls Try.prog 74 #[.int .i64 a0, .int .i64 a1] w fun e w' => e = .returned (.int .i64 r) ∧ Drawn0 w w' := by
 have H : (if a0 < a1 then (some a0) else (some a1)) = some r := h; clear h; by_cases c3 : a0 < a1
 ·rw [if_pos c3] at H; have a2 : decide (a0 < a1) = true := decide_eq_true c3; clear c3; obtain rfl := Option.some.inj H; go_enter Try.func74, Try.ntmps74; go_wp2
  go_ret
  exact ⟨by first | rfl | (simp; done) | (simp [*]; done), by repeat (first | exact Drawn0.refl _ | apply Drawn0.step)⟩
 rw [if_neg c3] at H; have a2 : decide (a0 < a1) = false := decide_eq_false c3; clear c3; obtain rfl := Option.some.inj H; go_enter Try.func74, Try.ntmps74; go_wp2
 go_ret
 exact ⟨by first | rfl | (simp; done) | (simp [*]; done), by repeat (first | exact Drawn0.refl _ | apply Drawn0.step)⟩

/-! ### spec_l3More: function 113 -/
def spec_l3More.f (a0 a1 : Int) : Option (Int) := if a0 > a1 then (some a0) else (some a1)
theorem spec_l3More.calls {a0 a1 r : Int} {w : World} (h : spec_l3More.f a0 a1 = some r) :
  Calls Try.prog 113 #[.int .i64 a0, .int .i64 a1] w fun e w' => e = .returned (.int .i64 r) ∧ Drawn0 w w' := by
 have H : (if a0 > a1 then (some a0) else (some a1)) = some r := h; clear h; by_cases c3 : a0 > a1
 ·rw [if_pos c3] at H; have a2 : decide (a1 < a0) = true := decide_eq_true c3; clear c3; obtain rfl := Option.some.inj H; go_enter Try.func113, Try.ntmps113; go_wp2
  go_ret
  exact ⟨by first | rfl | (simp; done) | (simp [*]; done), by repeat (first | exact Drawn0.refl _ | apply Drawn0.step)⟩
 rw [if_neg c3] at H; have a2 : decide (a1 < a0) = false := decide_eq_false c3; clear c3; obtain rfl := Option.some.inj H; go_enter Try.func113, Try.ntmps113; go_wp2
 go_ret
 exact ⟨by first | rfl | (simp; done) | (simp [*]; done), by repeat (first | exact Drawn0.refl _ | apply Drawn0.step)⟩

/-! ### spec_l6Within: function 97 -/
def spec_l6Within.f (a0 a1 : Int) : Option (Int) := (spec_l3More.f a0 (wrap64 (-a1))).bind fun a2 => ((spec_l3Less.f a2 a1).bind fun a3 => (some a3))
theorem spec_l6Within.calls {a0 a1 r : Int} {w : World} (h : spec_l6Within.f a0 a1 = some r) :
  Calls Try.prog 97 #[.int .i64 a0, .int .i64 a1] w fun e w' => e = .returned (.int .i64 r) ∧ Drawn0 w w' := by
 have H : ((spec_l3More.f a0 (wrap64 (-a1))).bind fun a2 => ((spec_l3Less.f a2 a1).bind fun a3 => (some a3))) = some r := h; clear h; replace H := qH H; obtain ⟨a2, A3, H⟩ := H
 replace H := qH H; obtain ⟨a3, A4, H⟩ := H
 obtain rfl := Option.some.inj H; go_enter Try.func97, Try.ntmps97; go_wp2_with (first | ((with_reducible refine gc 113 rfl ?_); refine gr 8 Try.func113 (spec_l3More.calls A3.out) ?_; rintro w' ⟨nd, rfl⟩) | ((with_reducible refine gc 74 rfl ?_); refine gr 10 Try.func74 (spec_l3Less.calls A4.out) ?_; rintro w' ⟨nd, rfl⟩))
 go_ret
 exact ⟨by first | rfl | (simp; done) | (simp [*]; done), by repeat (first | exact Drawn0.refl _ | apply Drawn0.step)⟩

/-! ### spec_l7Number: function 75 -/
mutual
def spec_l7Number.l0 : Nat → List S41 → List Int → List Int → List Int → Int → Option (List Int)
  | 0, _, _, _, _, _ => none
  | k + 1, x0, x1, x5, x6, x7 => if x7 < (x0.length : Int) then (if 0 ≤ x7 then (if ((rd_T41 x0 x7).f4) = 0 then (if x5.length < 17592186044416 then (spec_l7Number.l0 k x0 x1 (x5 ++ [(-1)]) x6 (wrap64 (x7 + 1))) else none) else (spec_l7Number.l1 k x0 x1 x5 x6 x7 (-1) 0)) else none) else (some x5)
def spec_l7Number.l1 : Nat → List S41 → List Int → List Int → List Int → Int → Int → Int → Option (List Int)
  | 0, _, _, _, _, _, _, _ => none
  | k + 1, x0, x1, x5, x6, x7, x8, x9 => if x9 < (x6.length : Int) then (if 0 ≤ x9 then (if 0 ≤ x7 then (if x7 < (x1.length : Int) then (if (rd x6 x9) = (rd x1 x7) then (spec_l7Number.l1 k x0 x1 x5 x6 x7 x9 (wrap64 (x9 + 1))) else (spec_l7Number.l1 k x0 x1 x5 x6 x7 x8 (wrap64 (x9 + 1)))) else none) else none) else none) else (if x8 < 0 then (if 0 ≤ x7 then (if x7 < (x1.length : Int) then (if x6.length < 17592186044416 then (if x5.length < 17592186044416 then (spec_l7Number.l0 k x0 x1 (x5 ++ [(x6.length : Int)]) (x6 ++ [rd x1 x7]) (wrap64 (x7 + 1))) else none) else none) else none) else none) else (if x5.length < 17592186044416 then (spec_l7Number.l0 k x0 x1 (x5 ++ [x8]) x6 (wrap64 (x7 + 1))) else none))
end
def spec_l7Number.f (k : Nat) (l0 : List S41) (l1 : List Int) : Option (List Int) := spec_l7Number.l0 k l0 l1 (([] : List Int)) (([] : List Int)) 0
theorem spec_l7Number.calls {k : Nat} {A0 : Option Addr} {c0 : Nat} {l0 : List S41} {A1 : Option Addr} {c1 : Nat} {l1 r : List Int} {w : World} (hr0 : Kd.C k41 w A0 l0.length l0) (hc0 : l0.length ≤ c0) (hr1 : Kd.C (Kd.int .i64) w A1 l1.length l1) (hc1 : l1.length ≤ c1) (h : spec_l7Number.f k l0 l1 = some r) :
  Calls Try.prog 75 #[.slice A0 l0.length c0, .slice A1 l1.length c1] w fun e w' => ∃ cC : Value, e = .returned (cC) ∧ Kd.R (Kd.int .i64) 3 w' w.heap.size (fun _ => True) cC r ∧ Below w.heap.size w w' := by
 have HR0 := az hr0; have cU := az hc0; clear hr0 hc0; have HR1 := az hr1; have cV := az hc1; clear hr1 hc1; have HB := br w; have H : (spec_l7Number.l0 k l0 l1 (([] : List Int)) (([] : List Int)) 0) = some r := h; clear h; obtain ⟨bG, aK⟩ : ∃ y_ : List Int, y_ = (([] : List Int)) := ⟨_, rfl⟩
 replace H : (spec_l7Number.l0 k l0 l1 bG (([] : List Int)) 0) = some r := qs H aK
 have bP := az aK; clear aK; obtain ⟨c3, aM⟩ : ∃ y_ : List Int, y_ = (([] : List Int)) := ⟨_, rfl⟩
 replace H : (spec_l7Number.l0 k l0 l1 bG c3 0) = some r := qs H aM
 have bQ := az aM; clear aM; have H' := az H; clear H; go_enter Try.func75, Try.ntmps75; go_wp2_with (first | ((with_reducible refine gd 10 rfl ?_); refine Kd.R_lit (Kd.int .i64) _ 3 ?hg (N := 10) ?hd (xs := ([] : List Int)) (inner := []) (ok := fun _ => True) (okp := fun _ => True) ?hr ?hp (fun _ hk => hk) trivial (Below.refl _ _) (Nat.le_refl _) (by simp) ?_; (case hd => rfl); (case hg => rfl); (case hr => first | (go_simp; done) | (go_simp; rfl)); (case hp => exact (Reps.none _ _)); intro cP w3 bF hb hg_ hnew_; clear hg_ hnew_; (first | rw [← bP.out] at bF | (simp only [Int.reduceToNat] at bF; rw [← bP.out] at bF)); have aT := lo bF HB; replace HB := bS HB hb; clear hb bF) | ((with_reducible refine gd 11 rfl ?_); refine Kd.R_lit (Kd.int .i64) _ 3 ?hg (N := 11) ?hd (xs := ([] : List Int)) (inner := []) (ok := fun _ => True) (okp := fun _ => True) ?hr ?hp (fun _ hk => hk) trivial (Below.refl _ _) (Nat.le_refl _) (by simp) ?_; (case hd => rfl); (case hg => rfl); (case hr => first | (go_simp; done) | (go_simp; rfl)); (case hp => exact (Reps.none _ _)); intro cQ w5 aZ hb hg_ hnew_; clear hg_ hnew_; (first | rw [← bQ.out] at aZ | (simp only [Int.reduceToNat] at aZ; rw [← bQ.out] at aZ)); have c8 := lo (rn aZ aT) HB; replace aT := re aT aZ hb; replace HB := bS HB hb; clear hb aZ) | (go_quiet (fail)))
 go_loopg [5, 6, 7] k (fun kq v5 v6 v7 w' => ∃ (a6 : List Int) (a1 : List Int) (a0 : Int), v7 = .int .i64 a0 ∧ Aside0 (spec_l7Number.l0 kq l0 l1 a6 a1 a0 = some r) ∧ Aside0 (kq ≤ k) ∧ Aside0 (Kd.R (Kd.int .i64) 3 w' w.heap.size (fun k_ => some k_ ≠ (v6 : Value).ownBlock) v5 a6) ∧ Aside0 (Kd.R (Kd.int .i64) 3 w' w.heap.size (fun k_ => some k_ ≠ (v5 : Value).ownBlock) v6 a1) ∧ Aside0 (Below w.heap.size w w'))
 case atStart => exact ⟨(bG), (c3), (0), qG, H', ⟨Nat.le_refl _⟩, ⟨by (with_reducible repeat (first | apply Kd.R_alloc | apply Kd.R_drewN | apply Kd.R_drew)); exact Kd.R_mono aT.out (fun _ hk => hk.2)⟩, ⟨by (with_reducible repeat (first | apply Kd.R_alloc | apply Kd.R_drewN | apply Kd.R_drew)); exact Kd.R_mono c8.out (fun _ hk => hk.2)⟩, ⟨qL HB⟩⟩
 case round =>
  clear H'; obtain ⟨a6, a1, a0, rfl, HA, aN, a5, a4, HB⟩ := hrel
  obtain ⟨k1, rfl⟩ := qz gk HA
  have H := HA.out; clear HA; simp only [spec_l7Number.l0] at H; replace H := qc H; obtain ⟨b0, H⟩ | ⟨b0, H⟩ := H; replace H := qd H; obtain ⟨aR, H⟩ := H; by_cases a8 : ((rd_T41 l0 a0).f4) = 0; rw [if_pos a8] at H; have b1 : (((rd_T41 l0 a0).f4) == 0) = true := beq_iff_eq.mpr a8; have b2 : (((rd_T41 l0 a0).f4) != 0) = false := bne_eq_false_iff_eq.mpr a8; clear a8; replace H := qif H; obtain ⟨a9, H⟩ := H; have LMc7003 := az a9; clear a9; obtain ⟨bR, aE⟩ : ∃ y_ : List Int, y_ = (a6 ++ [(-1)]) := ⟨_, rfl⟩
  replace H : (spec_l7Number.l0 k1 l0 l1 bR a1 (wrap64 (a0 + 1))) = some r := qs H aE
  have c4 := az aE; clear aE; have H' := az H; clear H; refine ?L1; rotate_left; rw [if_neg a8] at H; have b1 : (((rd_T41 l0 a0).f4) == 0) = false := beq_eq_false_iff_ne.mpr a8; have b2 : (((rd_T41 l0 a0).f4) != 0) = true := bne_iff_ne.mpr a8; have H' := az H; clear H; refine ?L6
  rotate_right
  rotate_left 2
  obtain rfl := Option.some.inj H; refine ?L7
  rotate_right 2
  case' L1 | L6 =>
   obtain ⟨bH, bI, cL, cD, b3, b4, b5, b6, b7, b8, b9, bA, bB, bC, aV, aW⟩ := ay41 HR0.out a0; cases cD; obtain ⟨b3, b4, b5, b6, b7, b8, b9, bA, bB, bC, aV, aW⟩ := hB12 HB b3 b4 b5 b6 b7 b8 b9 bA bB bC aV aW
  case L1 =>
   go_wp2_with (first | ((with_reducible refine ga 24 25 rfl ?_); at_builtin; refine Kd.R_append (Kd.int .i64) (w0 := w) w.heap.size rfl (.tmp 24) (.tmp 25) 25 3 (.int .i64 0) 8 rfl Try.underlying25 info3 rfl (by decide) (by omega) u5 a6 (-1) [.int .i64 (-1)] (fun k_ => some k_ ≠ (u6 : Value).ownBlock) (fun _ => False) rfl rfl ?aP (fun _ hk => hk.elim) ?aF ?aO ?aB ?aS ?aL ?_; (case aP => exact rfl); (case aB => exact (qL HB)); (case aF => exact (fun k_ hk => Kd.fresh' (Kd.R_lt (qR a4)) k_ hk)); (case aO => exact (qR a5)); (case aS => exact (below_size (qL HB))); (case aL => have := LMc7003.out; omega); intro cR cW ho hb hg hat; rw [← c4.out] at ho; have c9 := az ho; replace a4 := az (Kd.R_after (ok := (fun _ => True)) (by (with_reducible repeat (first | apply Kd.R_alloc | apply Kd.R_drewN | apply Kd.R_drew)); exact Kd.R_mono a4.out (fun _ hk => ⟨trivial, hk⟩)) hg hat); replace HB := az hb; clear a5 ho hb hg hat) | (go_quiet (fail)))
   go_roundg k1
   case measure => exact ma aN
   exact ⟨(bR), (a1), (wrap64 (a0 + 1)), qG, H', ⟨ma aN⟩, ⟨qR c9⟩, ⟨by (with_reducible repeat (first | apply Kd.R_alloc | apply Kd.R_drewN | apply Kd.R_drew)); exact Kd.R_mono a4.out (fun _ hk => hk.2)⟩, ⟨qL HB⟩⟩
  case L6 =>
   go_wp2
   repeat (go_quiet (fail); try go_wp2)
   go_loopg [8, 9] k1 (fun kq v8 v9 w' => ∃ (aA : Int) (a2 : Int), v8 = .int .i64 aA ∧ v9 = .int .i64 a2 ∧ Aside0 (spec_l7Number.l1 kq l0 l1 a6 a1 a0 aA a2 = some r) ∧ Aside0 (kq ≤ k1) ∧ Aside0 (Kd.R (Kd.int .i64) 3 w' w.heap.size (fun k_ => some k_ ≠ (u6 : Value).ownBlock) u5 a6) ∧ Aside0 (Kd.R (Kd.int .i64) 3 w' w.heap.size (fun k_ => some k_ ≠ (u5 : Value).ownBlock) u6 a1) ∧ Aside0 (Below w.heap.size w w'))
   case atStart => exact ⟨((-1)), (0), qG, qG, H', ⟨Nat.le_refl _⟩, ⟨qR a5⟩, ⟨qR a4⟩, ⟨qL HB⟩⟩
   case round =>
    clear H'; obtain ⟨aA, a2, rfl, rfl, HA, aX, a5, a4, HB⟩ := hrel
    obtain ⟨k2, rfl⟩ := qz gk HA
    have H := HA.out; clear HA; simp only [spec_l7Number.l1] at H; replace H := qc H; obtain ⟨bW, H⟩ | ⟨bW, H⟩ := H; replace H := qd H; obtain ⟨cJ, H⟩ := H; replace H := qd H; obtain ⟨aR, H⟩ := H; replace H := qd H; obtain ⟨bX, H⟩ := H; by_cases aD : (rd a1 a2) = (rd l1 a0); rw [if_pos aD] at H; have bY : ((rd a1 a2) == (rd l1 a0)) = true := beq_iff_eq.mpr aD; have bZ : ((rd a1 a2) != (rd l1 a0)) = false := bne_eq_false_iff_eq.mpr aD; clear aD; have H' := az H; clear H; refine ?L2; rotate_left; rw [if_neg aD] at H; have bY : ((rd a1 a2) == (rd l1 a0)) = false := beq_eq_false_iff_ne.mpr aD; have bZ : ((rd a1 a2) != (rd l1 a0)) = true := bne_iff_ne.mpr aD; have H' := az H; clear H; refine ?L3
    rotate_right
    rotate_left 2
    replace H := qc H; obtain ⟨c2, H⟩ | ⟨c2, H⟩ := H; replace H := qd H; obtain ⟨aR, H⟩ := H; replace H := qd H; obtain ⟨bX, H⟩ := H; replace H := qif H; obtain ⟨bU, H⟩ := H; have LMc7009 := az bU; clear bU; obtain ⟨aJ, a3⟩ : ∃ y_ : List Int, y_ = (a1 ++ [rd l1 a0]) := ⟨_, rfl⟩
    replace H : (if a6.length < 17592186044416 then (spec_l7Number.l0 k2 l0 l1 (a6 ++ [(a1.length : Int)]) aJ (wrap64 (a0 + 1))) else none) = some r := qs H a3
    have aY := az a3; clear a3; replace H := qif H; obtain ⟨a9, H⟩ := H; have LMc7003 := az a9; clear a9; obtain ⟨bV, aG⟩ : ∃ y_ : List Int, y_ = (a6 ++ [(a1.length : Int)]) := ⟨_, rfl⟩
    replace H : (spec_l7Number.l0 k2 l0 l1 bV aJ (wrap64 (a0 + 1))) = some r := qs H aG
    have c5 := az aG; clear aG; have H' := az H; clear H; refine ?L4; rotate_left; replace H := qif H; obtain ⟨a9, H⟩ := H; have LMc7003 := az a9; clear a9; obtain ⟨aJ, a3⟩ : ∃ y_ : List Int, y_ = (a6 ++ [aA]) := ⟨_, rfl⟩
    replace H : (spec_l7Number.l0 k2 l0 l1 aJ a1 (wrap64 (a0 + 1))) = some r := qs H a3
    have aY := az a3; clear a3; have H' := az H; clear H; refine ?L5
    rotate_right
    rotate_right 2
    case' L2 | L3 | L4 | L5 =>
     obtain ⟨c6, c7, cE⟩ := Kd.R_slice a4.out; subst cE
    case' L2 | L3 =>
     obtain ⟨bJ, bK, cM, cF, cK⟩ := ayi (rr a4) a2; cases cF; obtain ⟨bL, bM, cN, cG, bD⟩ := ayi HR1.out a0; cases cG; replace bD := hB HB bD; go_wp2
     repeat (go_quiet (fail); try go_wp2)
     go_roundg k2
     case measure => exact mb aN aX
    case L2 =>
     exact ⟨(a2), (wrap64 (a2 + 1)), qG, qG, H', ⟨mb aN aX⟩, ⟨qR a5⟩, ⟨qR a4⟩, ⟨qL HB⟩⟩
    case L3 =>
     exact ⟨(aA), (wrap64 (a2 + 1)), qG, qG, H', ⟨mb aN aX⟩, ⟨qR a5⟩, ⟨qR a4⟩, ⟨qL HB⟩⟩
    case L4 =>
     obtain ⟨bN, bO, cO, cH, bE⟩ := ayi HR1.out a0; cases cH; replace bE := hB HB bE; go_wp2_with (first | ((with_reducible refine ga 47 52 rfl ?_); at_builtin; refine Kd.R_append (Kd.int .i64) (w0 := w) w.heap.size rfl (.tmp 47) (.tmp 52) 25 3 (.int .i64 0) 8 rfl Try.underlying25 info3 rfl (by decide) (by omega) (.slice c6 a1.length c7) a1 (rd l1 a0) [.int .i64 (rd l1 a0)] (fun k_ => some k_ ≠ (u5 : Value).ownBlock) (fun _ => False) rfl rfl ?aP (fun _ hk => hk.elim) ?aF ?aO ?aB ?aS ?aL ?_; (case aP => exact rfl); (case aB => exact (qL HB)); (case aF => exact (fun k_ hk => Kd.fresh' (Kd.R_lt (qR a5)) k_ hk)); (case aO => exact (qR a4)); (case aS => exact (below_size (qL HB))); (case aL => have := LMc7009.out; omega); intro cI cX ho hb hg hat; rw [← aY.out] at ho; have aU := az ho; replace a5 := az (Kd.R_after (ok := (fun _ => True)) (by (with_reducible repeat (first | apply Kd.R_alloc | apply Kd.R_drewN | apply Kd.R_drew)); exact Kd.R_mono a5.out (fun _ hk => ⟨trivial, hk⟩)) hg hat); replace HB := az hb; clear a4 ho hb hg hat) | ((with_reducible refine ga 54 56 rfl ?_); at_builtin; refine Kd.R_append (Kd.int .i64) (w0 := w) w.heap.size rfl (.tmp 54) (.tmp 56) 25 3 (.int .i64 0) 8 rfl Try.underlying25 info3 rfl (by decide) (by omega) u5 a6 (a1.length : Int) [.int .i64 (a1.length : Int)] (fun k_ => some k_ ≠ (cI : Value).ownBlock) (fun _ => False) rfl rfl ?aP (fun _ hk => hk.elim) ?aF ?aO ?aB ?aS ?aL ?_; (case aP => exact rfl); (case aB => exact (qL HB)); (case aF => exact (fun k_ hk => Kd.fresh' (Kd.R_lt (qR aU)) k_ hk)); (case aO => exact (by (with_reducible repeat (first | apply Kd.R_alloc | apply Kd.R_drewN | apply Kd.R_drew)); exact Kd.R_mono a5.out (fun _ hk => hk.2))); (case aS => exact (below_size (qL HB))); (case aL => have := LMc7003.out; omega); intro cS cY ho hb hg hat; rw [← c5.out] at ho; have cA := az ho; replace aU := az (Kd.R_after (ok := (fun _ => True)) (by (with_reducible repeat (first | apply Kd.R_alloc | apply Kd.R_drewN | apply Kd.R_drew)); exact Kd.R_mono aU.out (fun _ hk => ⟨trivial, hk⟩)) hg hat); replace HB := az hb; clear a5 ho hb hg hat) | (go_quiet (fail)))
     go_roundg k2
     case measure => exact mb aN aX
     exact ⟨(bV), (aJ), (wrap64 (a0 + 1)), qG, H', ⟨mb aN aX⟩, ⟨qR cA⟩, ⟨by (with_reducible repeat (first | apply Kd.R_alloc | apply Kd.R_drewN | apply Kd.R_drew)); exact Kd.R_mono aU.out (fun _ hk => hk.2)⟩, ⟨qL HB⟩⟩
    case L5 =>
     go_wp2_with (first | ((with_reducible refine ga 54 56 rfl ?_); at_builtin; refine Kd.R_append (Kd.int .i64) (w0 := w) w.heap.size rfl (.tmp 54) (.tmp 56) 25 3 (.int .i64 0) 8 rfl Try.underlying25 info3 rfl (by decide) (by omega) u5 a6 aA [.int .i64 aA] (fun k_ => some k_ ≠ (.slice c6 a1.length c7 : Value).ownBlock) (fun _ => False) rfl rfl ?aP (fun _ hk => hk.elim) ?aF ?aO ?aB ?aS ?aL ?_; (case aP => exact rfl); (case aB => exact (qL HB)); (case aF => exact (fun k_ hk => Kd.fresh' (Kd.R_lt (qR a4)) k_ hk)); (case aO => exact (qR a5)); (case aS => exact (below_size (qL HB))); (case aL => have := LMc7003.out; omega); intro cT cZ ho hb hg hat; rw [← aY.out] at ho; have cB := az ho; replace a4 := az (Kd.R_after (ok := (fun _ => True)) (by (with_reducible repeat (first | apply Kd.R_alloc | apply Kd.R_drewN | apply Kd.R_drew)); exact Kd.R_mono a4.out (fun _ hk => ⟨trivial, hk⟩)) hg hat); replace HB := az hb; clear a5 ho hb hg hat) | (go_quiet (fail)))
     go_roundg k2
     case measure => exact mb aN aX
     exact ⟨(aJ), (a1), (wrap64 (a0 + 1)), qG, H', ⟨mb aN aX⟩, ⟨qR cB⟩, ⟨by (with_reducible repeat (first | apply Kd.R_alloc | apply Kd.R_drewN | apply Kd.R_drew)); exact Kd.R_mono a4.out (fun _ hk => hk.2)⟩, ⟨qL HB⟩⟩
  case L7 =>
   go_wp2
   repeat (go_quiet (fail); try go_wp2)
   go_ret
   exact ⟨_, qE, by (with_reducible repeat (first | apply Kd.R_alloc | apply Kd.R_drewN | apply Kd.R_drew)); exact Kd.R_mono a5.out (fun _ hk => trivial), qL HB⟩

/-! ### spec_l7Groups: function 52 -/
mutual
def spec_l7Groups.l0 : Nat → List S41 → List S37 → List Int → Int → Option (List Int)
  | 0, _, _, _, _ => none
  | k + 1, x0, x1, x5, x6 => if x6 < (x0.length : Int) then (if x5.length < 17592186044416 then (spec_l7Groups.l0 k x0 x1 (x5 ++ [x6]) (wrap64 (x6 + 1))) else none) else (spec_l7Groups.l1 k x0 x1 x5 0)
def spec_l7Groups.l1 : Nat → List S41 → List S37 → List Int → Int → Option (List Int)
  | 0, _, _, _, _ => none
  | k + 1, x0, x1, x5, x7 => if x7 < (x0.length : Int) then (spec_l7Groups.l2 k x0 x1 x5 x7 0) else ((spec_l7Number.f k x0 x5).bind fun e8 => (some e8))
def spec_l7Groups.l2 : Nat → List S41 → List S37 → List Int → Int → Int → Option (List Int)
  | 0, _, _, _, _, _ => none
  | k + 1, x0, x1, x5, x7, x8 => if x8 < (x1.length : Int) then (if 0 ≤ x8 then (if 0 ≤ ((rd_T37 x1 x8).f0) then (if ((rd_T37 x1 x8).f0) < (x0.length : Int) then (if ((rd_T41 x0 ((rd_T37 x1 x8).f0)).f4) = 0 then (spec_l7Groups.l2 k x0 x1 x5 x7 (wrap64 (x8 + 1))) else (if 0 ≤ ((rd_T37 x1 x8).f1) then (if ((rd_T37 x1 x8).f1) < (x0.length : Int) then (if ((rd_T41 x0 ((rd_T37 x1 x8).f1)).f4) = 0 then (spec_l7Groups.l2 k x0 x1 x5 x7 (wrap64 (x8 + 1))) else (if ((rd_T37 x1 x8).f0) < (x5.length : Int) then (if ((rd_T37 x1 x8).f1) < (x5.length : Int) then ((spec_l3Less.f (rd x5 ((rd_T37 x1 x8).f0)) (rd x5 ((rd_T37 x1 x8).f1))).bind fun dO => (spec_l7Groups.l2 k x0 x1 ((x5.set (((rd_T37 x1 x8).f0) : Int).toNat dO).set (((rd_T37 x1 x8).f1) : Int).toNat dO) x7 (wrap64 (x8 + 1)))) else none) else none)) else none) else none)) else none) else none) else none) else (spec_l7Groups.l1 k x0 x1 x5 (wrap64 (x7 + 1)))
end
def spec_l7Groups.f (k : Nat) (l0 : List S41) (l1 : List S37) : Option (List Int) := spec_l7Groups.l0 k l0 l1 (([] : List Int)) 0
theorem spec_l7Groups.calls {k : Nat} {A0 : Option Addr} {c0 : Nat} {l0 : List S41} {A1 : Option Addr} {c1 : Nat} {l1 : List S37} {r : List Int} {w : World} (hr0 : Kd.C k41 w A0 l0.length l0) (hc0 : l0.length ≤ c0) (hr1 : Kd.C k37 w A1 l1.length l1) (hc1 : l1.length ≤ c1) (h : spec_l7Groups.f k l0 l1 = some r) :
  Calls Try.prog 52 #[.slice A0 l0.length c0, .slice A1 l1.length c1] w fun e w' => ∃ e6 : Value, e = .returned (e6) ∧ Kd.R (Kd.int .i64) 3 w' w.heap.size (fun _ => True) e6 r ∧ Below w.heap.size w w' := by
 have hu37 := Try.underlying37; have HR0 := az hr0; have eY := az hc0; clear hr0 hc0; have HR1 := az hr1; have fK := az hc1; clear hr1 hc1; have HB := br w; have H : (spec_l7Groups.l0 k l0 l1 (([] : List Int)) 0) = some r := h; clear h; obtain ⟨dP, bI⟩ : ∃ y_ : List Int, y_ = (([] : List Int)) := ⟨_, rfl⟩
 replace H : (spec_l7Groups.l0 k l0 l1 dP 0) = some r := qs H bI
 have cM := az bI; clear bI; have H' := az H; clear H; go_enter Try.func52, Try.ntmps52; go_wp2_with (first | ((with_reducible refine gd 11 rfl ?_); refine Kd.R_lit (Kd.int .i64) _ 3 ?hg (N := 11) ?hd (xs := ([] : List Int)) (inner := []) (ok := fun _ => True) (okp := fun _ => True) ?hr ?hp (fun _ hk => hk) trivial (Below.refl _ _) (Nat.le_refl _) (by simp) ?_; (case hd => rfl); (case hg => rfl); (case hr => first | (go_simp; done) | (go_simp; rfl)); (case hp => exact (Reps.none _ _)); intro fD w3 cB hb hg_ hnew_; clear hg_ hnew_; (first | rw [← cM.out] at cB | (simp only [Int.reduceToNat] at cB; rw [← cM.out] at cB)); have dZ := lo cB HB; replace HB := bS HB hb; clear hb cB) | (go_quiet (fail)))
 go_loopg [5, 6] k (fun kq v5 v6 w' => ∃ (bK : List Int) (b0 : Int), v6 = .int .i64 b0 ∧ Aside0 (spec_l7Groups.l0 kq l0 l1 bK b0 = some r) ∧ Aside0 (kq ≤ k) ∧ Aside0 (Kd.R (Kd.int .i64) 3 w' w.heap.size (fun _ => True) v5 bK) ∧ Aside0 (Below w.heap.size w w'))
 case atStart => exact ⟨(dP), (0), qG, H', ⟨Nat.le_refl _⟩, ⟨qR dZ⟩, ⟨qL HB⟩⟩
 case round =>
  clear H'; obtain ⟨bK, b0, rfl, HA, bE, a1, HB⟩ := hrel
  obtain ⟨k1, rfl⟩ := qz gk HA
  have H := HA.out; clear HA; simp only [spec_l7Groups.l0] at H; replace H := qc H; obtain ⟨bL, H⟩ | ⟨bL, H⟩ := H; replace H := qif H; obtain ⟨cN, H⟩ := H; have LMc7001 := az cN; clear cN; obtain ⟨cO, bA⟩ : ∃ y_ : List Int, y_ = (bK ++ [b0]) := ⟨_, rfl⟩
  replace H : (spec_l7Groups.l0 k1 l0 l1 cO (wrap64 (b0 + 1))) = some r := qs H bA
  have dQ := az bA; clear bA; have H' := az H; clear H; refine ?L1; rotate_left; have H' := az H; clear H; refine ?L8
  rotate_right
  case L1 =>
   go_wp2_with (first | ((with_reducible refine ga 18 20 rfl ?_); at_builtin; refine Kd.R_append (Kd.int .i64) (w0 := w) w.heap.size rfl (.tmp 18) (.tmp 20) 25 3 (.int .i64 0) 8 rfl Try.underlying25 info3 rfl (by decide) (by omega) u5 bK b0 [.int .i64 b0] (fun _ => True) (fun _ => False) rfl rfl ?aP (fun _ hk => hk.elim) ?aF ?aO ?aB ?aS ?aL ?_; (case aP => exact rfl); (case aB => exact (qL HB)); (case aF => exact (fun _ _ => trivial)); (case aO => exact (qR a1)); (case aS => exact (below_size (qL HB))); (case aL => have := LMc7001.out; omega); intro fE w7 ho hb hg hat; rw [← dQ.out] at ho; have e0 := az ho; replace HB := az hb; clear a1 ho hb hg hat) | (go_quiet (fail)))
   go_roundg k1
   case measure => exact ma bE
   exact ⟨(cO), (wrap64 (b0 + 1)), qG, H', ⟨ma bE⟩, ⟨qR e0⟩, ⟨qL HB⟩⟩
  case L8 =>
   go_wp2
   repeat (go_quiet (fail); try go_wp2)
   go_loopg [7] k1 (fun kq v7 w' => ∃ (c7 : List Int) (b4 : Int), v7 = .int .i64 b4 ∧ Aside0 (spec_l7Groups.l1 kq l0 l1 c7 b4 = some r) ∧ Aside0 (kq ≤ k1) ∧ Aside0 (Kd.R (Kd.int .i64) 3 w' w.heap.size (fun _ => True) u5 c7) ∧ Aside0 (Below w.heap.size w w'))
   case atStart => exact ⟨(bK), (0), qG, H', ⟨Nat.le_refl _⟩, ⟨qR a1⟩, ⟨qL HB⟩⟩
   case round =>
    clear H'; obtain ⟨c7, b4, rfl, HA, bM, a1, HB⟩ := hrel
    obtain ⟨k2, rfl⟩ := qz gk HA
    have H := HA.out; clear HA; simp only [spec_l7Groups.l1] at H; replace H := qc H; obtain ⟨bW, H⟩ | ⟨bW, H⟩ := H; have H' := az H; clear H; refine ?L6; rotate_left; replace H := qH H; obtain ⟨fB, e1, H⟩ := H
    obtain rfl := Option.some.inj H; refine ?L7
    rotate_right
    case L6 =>
     go_wp2
     repeat (go_quiet (fail); try go_wp2)
     go_loopg [8] k2 (fun kq v8 w' => ∃ (aI : List Int) (a0 : Int), v8 = .int .i64 a0 ∧ Aside0 (spec_l7Groups.l2 kq l0 l1 aI b4 a0 = some r) ∧ Aside0 (kq ≤ k2) ∧ Aside0 (Kd.R (Kd.int .i64) 3 w' w.heap.size (fun _ => True) u5 aI) ∧ Aside0 (Below w.heap.size w w'))
     case atStart => exact ⟨(c7), (0), qG, H', ⟨Nat.le_refl _⟩, ⟨qR a1⟩, ⟨qL HB⟩⟩
     case round =>
      clear H'; obtain ⟨aI, a0, rfl, HA, bN, a1, HB⟩ := hrel
      obtain ⟨k3, rfl⟩ := qz gk HA
      have H := HA.out; clear HA; simp only [spec_l7Groups.l2] at H; replace H := qc H; obtain ⟨cZ, H⟩ | ⟨cZ, H⟩ := H; replace H := qd H; obtain ⟨eH, H⟩ := H; replace H := qd H; obtain ⟨eI, H⟩ := H; replace H := qd H; obtain ⟨eJ, H⟩ := H; by_cases b7 : ((rd_T41 l0 ((rd_T37 l1 a0).f0)).f4) = 0; rw [if_pos b7] at H; have dA : (((rd_T41 l0 ((rd_T37 l1 a0).f0)).f4) == 0) = true := beq_iff_eq.mpr b7; have dB : (((rd_T41 l0 ((rd_T37 l1 a0).f0)).f4) != 0) = false := bne_eq_false_iff_eq.mpr b7; clear b7; have H' := az H; clear H; refine ?L2; rotate_left; rw [if_neg b7] at H; have dA : (((rd_T41 l0 ((rd_T37 l1 a0).f0)).f4) == 0) = false := beq_eq_false_iff_ne.mpr b7; have dB : (((rd_T41 l0 ((rd_T37 l1 a0).f0)).f4) != 0) = true := bne_iff_ne.mpr b7; replace H := qd H; obtain ⟨eK, H⟩ := H; replace H := qd H; obtain ⟨eL, H⟩ := H; by_cases b8 : ((rd_T41 l0 ((rd_T37 l1 a0).f1)).f4) = 0; rw [if_pos b8] at H; have dC : (((rd_T41 l0 ((rd_T37 l1 a0).f1)).f4) == 0) = true := beq_iff_eq.mpr b8; have dD : (((rd_T41 l0 ((rd_T37 l1 a0).f1)).f4) != 0) = false := bne_eq_false_iff_eq.mpr b8; clear b8; have H' := az H; clear H; refine ?L3; rotate_left; rw [if_neg b8] at H; have dC : (((rd_T41 l0 ((rd_T37 l1 a0).f1)).f4) == 0) = false := beq_eq_false_iff_ne.mpr b8; have dD : (((rd_T41 l0 ((rd_T37 l1 a0).f1)).f4) != 0) = true := bne_iff_ne.mpr b8; replace H := qd H; obtain ⟨eM, H⟩ := H; replace H := qd H; obtain ⟨eN, H⟩ := H; replace H := qH H; obtain ⟨aZ, cW, H⟩ := H
      obtain ⟨c8, bB⟩ : ∃ y_ : List Int, y_ = (aI.set (((rd_T37 l1 a0).f0) : Int).toNat aZ) := ⟨_, rfl⟩
      replace H : (spec_l7Groups.l2 k3 l0 l1 (c8.set (((rd_T37 l1 a0).f1) : Int).toNat aZ) b4 (wrap64 (a0 + 1))) = some r := qs H bB
      have dR := az bB; clear bB; obtain ⟨c9, bC⟩ : ∃ y_ : List Int, y_ = (c8.set (((rd_T37 l1 a0).f1) : Int).toNat aZ) := ⟨_, rfl⟩
      replace H : (spec_l7Groups.l2 k3 l0 l1 c9 b4 (wrap64 (a0 + 1))) = some r := qs H bC
      have dS := az bC; clear bC; have H' := az H; clear H; refine ?L4
      rotate_right 2
      rotate_left 3
      have H' := az H; clear H; refine ?L5
      rotate_right 3
      case' L2 | L3 | L4 =>
       obtain ⟨cC, cD, fC, e9, bX, bY, bZ, c2, c3⟩ := ay37 HR1.out a0; cases e9; obtain ⟨bX, bY, bZ, c2, c3⟩ := hB5 HB bX bY bZ c2 c3
      case L2 =>
       go_wp2_with (first | ((with_reducible refine gd 9 rfl ?_); refine bz5 9 37 ?_; intro a2 hg eZ a3 hb; have bJ := se hg HB; replace a1 := rb a1 hb; replace HB := bS HB hb; clear hb hg; have hcz15_c := cz5 a3.out; have hfz15_c := fz5 a3.out; have b1 : 0 ≤ (((rd_T37 l1 a0).f0) : Int) := qD; have b2 : ((rd_T37 l1 a0).f0) < (l0.length : Int) := qD; obtain ⟨b9, bQ, a6, a7, a8, a9, aA, aC, aD, aE, aG, aH, a4, a5⟩ := at_T41 HR0.out ((rd_T37 l1 a0).f0) b1 b2; cases bQ; have b5 : b9.block ≠ a2 := Nat.ne_of_lt (Nat.lt_of_lt_of_le (by have := World.block_lt_of_cell? _ _ a6; first | rwa [add_block] at this | exact this) bJ.out); obtain ⟨a6, a7, a8, a9, aA, aC, aD, aE, aG, aH, a4, a5⟩ := hB12 HB a6 a7 a8 a9 aA aC aD aE aG aH a4 a5; obtain ⟨a6, a7, a8, a9, aA, aC, aD, aE, aG, aH, a4, a5⟩ := ff5x12 a2 (.int .i64 ((rd_T37 l1 a0).f0)) (.int .i64 ((rd_T37 l1 a0).f1)) (.int .i64 ((rd_T37 l1 a0).f2.f0.f0)) (.int .i64 ((rd_T37 l1 a0).f2.f0.f1)) (.int .i64 ((rd_T37 l1 a0).f2.f1)) b5 a6 a7 a8 a9 aA aC aD aE aG aH a4 a5; (try obtain ⟨dE, dF, dG, dH, dI, dJ, dK, dL, dM, dN, cE, cF⟩ := yy12 (fun n_ => ((((((eZ.drewN n_).setCell ⟨a2, 0, none⟩ (.int .i64 ((rd_T37 l1 a0).f0))).setCell ⟨a2, 1, none⟩ (.int .i64 ((rd_T37 l1 a0).f1))).setCell ⟨a2, 2, none⟩ (.int .i64 ((rd_T37 l1 a0).f2.f0.f0))).setCell ⟨a2, 3, none⟩ (.int .i64 ((rd_T37 l1 a0).f2.f0.f1))).setCell ⟨a2, 4, none⟩ (.int .i64 ((rd_T37 l1 a0).f2.f1)))) a6 a7 a8 a9 aA aC aD aE aG aH a4 a5); clear b5; replace b1 := eq_true b1; replace b2 := eq_true b2) | (go_quiet (fail)))
       go_roundg k3
       case measure => exact mc bE bM bN
       exact ⟨(aI), (wrap64 (a0 + 1)), qG, H', ⟨mc bE bM bN⟩, ⟨qS a1 a3⟩, ⟨qL HB⟩⟩
      case L3 =>
       go_wp2_with (first | ((with_reducible refine gd 9 rfl ?_); refine bz5 9 37 ?_; intro a2 hg e7 a3 hb; have bJ := se hg HB; replace a1 := rb a1 hb; replace HB := bS HB hb; clear hb hg; have hcz20_c := cz5 a3.out; have hfz20_c := fz5 a3.out; have b1 : 0 ≤ (((rd_T37 l1 a0).f0) : Int) := qD; have b2 : ((rd_T37 l1 a0).f0) < (l0.length : Int) := qD; obtain ⟨b9, bQ, a6, a7, a8, a9, aA, aC, aD, aE, aG, aH, a4, a5⟩ := at_T41 HR0.out ((rd_T37 l1 a0).f0) b1 b2; cases bQ; have b5 : b9.block ≠ a2 := Nat.ne_of_lt (Nat.lt_of_lt_of_le (by have := World.block_lt_of_cell? _ _ a6; first | rwa [add_block] at this | exact this) bJ.out); obtain ⟨a6, a7, a8, a9, aA, aC, aD, aE, aG, aH, a4, a5⟩ := hB12 HB a6 a7 a8 a9 aA aC aD aE aG aH a4 a5; obtain ⟨a6, a7, a8, a9, aA, aC, aD, aE, aG, aH, a4, a5⟩ := ff5x12 a2 (.int .i64 ((rd_T37 l1 a0).f0)) (.int .i64 ((rd_T37 l1 a0).f1)) (.int .i64 ((rd_T37 l1 a0).f2.f0.f0)) (.int .i64 ((rd_T37 l1 a0).f2.f0.f1)) (.int .i64 ((rd_T37 l1 a0).f2.f1)) b5 a6 a7 a8 a9 aA aC aD aE aG aH a4 a5; (try obtain ⟨dE, dF, dG, dH, dI, dJ, dK, dL, dM, dN, cE, cF⟩ := yy12 (fun n_ => ((((((e7.drewN n_).setCell ⟨a2, 0, none⟩ (.int .i64 ((rd_T37 l1 a0).f0))).setCell ⟨a2, 1, none⟩ (.int .i64 ((rd_T37 l1 a0).f1))).setCell ⟨a2, 2, none⟩ (.int .i64 ((rd_T37 l1 a0).f2.f0.f0))).setCell ⟨a2, 3, none⟩ (.int .i64 ((rd_T37 l1 a0).f2.f0.f1))).setCell ⟨a2, 4, none⟩ (.int .i64 ((rd_T37 l1 a0).f2.f1)))) a6 a7 a8 a9 aA aC aD aE aG aH a4 a5); clear b5; replace b1 := eq_true b1; replace b2 := eq_true b2; have bF : 0 ≤ (((rd_T37 l1 a0).f1) : Int) := qD; have bG : ((rd_T37 l1 a0).f1) < (l0.length : Int) := qD; obtain ⟨cA, cG, aM, aN, aQ, aR, aT, aU, aV, aW, aX, aY, aJ, aK⟩ := at_T41 HR0.out ((rd_T37 l1 a0).f1) bF bG; obtain rfl : b9 = cA := (by injection cG); have c4 : b9.block ≠ a2 := Nat.ne_of_lt (Nat.lt_of_lt_of_le (by have := World.block_lt_of_cell? _ _ aM; first | rwa [add_block] at this | exact this) bJ.out); obtain ⟨aM, aN, aQ, aR, aT, aU, aV, aW, aX, aY, aJ, aK⟩ := hB12 HB aM aN aQ aR aT aU aV aW aX aY aJ aK; obtain ⟨aM, aN, aQ, aR, aT, aU, aV, aW, aX, aY, aJ, aK⟩ := ff5x12 a2 (.int .i64 ((rd_T37 l1 a0).f0)) (.int .i64 ((rd_T37 l1 a0).f1)) (.int .i64 ((rd_T37 l1 a0).f2.f0.f0)) (.int .i64 ((rd_T37 l1 a0).f2.f0.f1)) (.int .i64 ((rd_T37 l1 a0).f2.f1)) c4 aM aN aQ aR aT aU aV aW aX aY aJ aK; (try obtain ⟨eO, eP, eQ, eR, eS, eT, eU, eV, eW, eX, eA, eB⟩ := yy12 (fun n_ => ((((((e7.drewN n_).setCell ⟨a2, 0, none⟩ (.int .i64 ((rd_T37 l1 a0).f0))).setCell ⟨a2, 1, none⟩ (.int .i64 ((rd_T37 l1 a0).f1))).setCell ⟨a2, 2, none⟩ (.int .i64 ((rd_T37 l1 a0).f2.f0.f0))).setCell ⟨a2, 3, none⟩ (.int .i64 ((rd_T37 l1 a0).f2.f0.f1))).setCell ⟨a2, 4, none⟩ (.int .i64 ((rd_T37 l1 a0).f2.f1)))) aM aN aQ aR aT aU aV aW aX aY aJ aK); clear c4; replace bF := eq_true bF; replace bG := eq_true bG) | (go_quiet (fail)))
       go_roundg k3
       case measure => exact mc bE bM bN
       exact ⟨(aI), (wrap64 (a0 + 1)), qG, H', ⟨mc bE bM bN⟩, ⟨qS a1 a3⟩, ⟨qL HB⟩⟩
      case L4 =>
       go_wp2_with (first | ((with_reducible refine gd 9 rfl ?_); refine bz5 9 37 ?_; intro a2 hg cX a3 hb; have bJ := se hg HB; replace a1 := rb a1 hb; replace HB := bS HB hb; clear hb hg; have hcz27_c := cz5 a3.out; have hfz27_c := fz5 a3.out) | ((with_reducible refine gs 37 9 rfl ?_); (try (rw [drewN_self cX]; generalize hq_ : World.drewN cX _ = cX; have n0_ := az (Kd.R_at hq_ a1.out); have n1_ := az (blk_at hq_ a3.out); have n2_ := az (below_at hq_ HB.out); clear hq_ a1 a3 HB; have a1 := n0_; have a3 := n1_; have HB := n2_; clear n0_ n1_ n2_)); refine sw 37 9 (((((cX.setCell ⟨a2, 0, none⟩ (.int .i64 ((rd_T37 l1 a0).f0))).setCell ⟨a2, 1, none⟩ (.int .i64 ((rd_T37 l1 a0).f1))).setCell ⟨a2, 2, none⟩ (.int .i64 ((rd_T37 l1 a0).f2.f0.f0))).setCell ⟨a2, 3, none⟩ (.int .i64 ((rd_T37 l1 a0).f2.f0.f1))).setCell ⟨a2, 4, none⟩ (.int .i64 ((rd_T37 l1 a0).f2.f1))) ?_; intro bO hw; have n0_ : Aside0 (Kd.R (Kd.int .i64) 3 bO w.heap.size (fun _ => True) u5 aI) := ⟨(by rw [hw]; exact (qS a1 a3))⟩; have n1_ : Aside0 (bO.heap[a2]? = some (.cells #[.int .i64 ((rd_T37 l1 a0).f0), .int .i64 ((rd_T37 l1 a0).f1), .int .i64 ((rd_T37 l1 a0).f2.f0.f0), .int .i64 ((rd_T37 l1 a0).f2.f0.f1), .int .i64 ((rd_T37 l1 a0).f2.f1)] 37 (0, 0))) := ⟨(by rw [hw]; exact (qP a3))⟩; have n2_ : Aside0 (Below w.heap.size w bO) := ⟨(by rw [hw]; exact (qL HB))⟩; clear hw a1 a3 HB; have a1 := n0_; have a3 := n1_; have HB := n2_; clear n0_ n1_ n2_; have hcz29_c := cz5 a3.out; have hfz29_c := fz5 a3.out; have b1 : 0 ≤ (((rd_T37 l1 a0).f0) : Int) := qD; have b2 : ((rd_T37 l1 a0).f0) < (l0.length : Int) := qD; obtain ⟨b9, bQ, a6, a7, a8, a9, aA, aC, aD, aE, aG, aH, a4, a5⟩ := at_T41 HR0.out ((rd_T37 l1 a0).f0) b1 b2; cases bQ; obtain ⟨a6, a7, a8, a9, aA, aC, aD, aE, aG, aH, a4, a5⟩ := hB12 HB a6 a7 a8 a9 aA aC aD aE aG aH a4 a5; replace b1 := eq_true b1; replace b2 := eq_true b2; have bF : 0 ≤ (((rd_T37 l1 a0).f1) : Int) := qD; have bG : ((rd_T37 l1 a0).f1) < (l0.length : Int) := qD; obtain ⟨cA, cG, aM, aN, aQ, aR, aT, aU, aV, aW, aX, aY, aJ, aK⟩ := at_T41 HR0.out ((rd_T37 l1 a0).f1) bF bG; obtain rfl : b9 = cA := (by injection cG); obtain ⟨aM, aN, aQ, aR, aT, aU, aV, aW, aX, aY, aJ, aK⟩ := hB12 HB aM aN aQ aR aT aU aV aW aX aY aJ aK; replace bF := eq_true bF; replace bG := eq_true bG; obtain ⟨fG, dT, eC⟩ := Kd.R_slice a1.out; subst eC; have cH : 0 ≤ (((rd_T37 l1 a0).f0) : Int) := qD; have cI : ((rd_T37 l1 a0).f0) < (aI.length : Int) := qD; obtain ⟨e2, eD, c5⟩ := Kd.at_int (rr a1) ((rd_T37 l1 a0).f0) cH cI; cases eD; replace cH := eq_true cH; replace cI := eq_true cI; have cJ : 0 ≤ (((rd_T37 l1 a0).f1) : Int) := qD; have cK : ((rd_T37 l1 a0).f1) < (aI.length : Int) := qD; obtain ⟨e3, eE, c6⟩ := Kd.at_int (rr a1) ((rd_T37 l1 a0).f1) cJ cK; obtain rfl : e2 = e3 := (by injection eE); replace cJ := eq_true cJ; replace cK := eq_true cK) | (go_at_call 74; (with_reducible refine (spec_l3Less.calls cW.out).mono ?_); rintro e w' ⟨rfl, ⟨nd, rfl⟩⟩; (try first | exact ⟨rfl, _, World.drewN_drewN _ _ _⟩ | exact ⟨rfl, _, Eq.trans (World.drewN_drewN _ _ _) (congrArg (World.drewN _) (Nat.add_assoc _ _ _))⟩); have bR : 0 ≤ (((rd_T37 l1 a0).f0) : Int) := qD; have bT : (((rd_T37 l1 a0).f0) : Int) < ((aI.length : Int) : Int) := qD; obtain ⟨bH, eF, bU, bV, cL, cl24, HG24⟩ := Kd.R_form a1.out (by omega); (first | cases bU | (injection bU with ea_ en_ ec_; (first | subst ea_ | (injection ea_ with ea_; subst ea_)); subst ec_; clear en_)); have GB24 := az bV; have GG24 := az HG24; clear bV cL HG24; (first | simp only [add_plain] at c5 | skip); (first | simp only [add_plain] at c6 | skip); obtain ⟨dU, hf24_0⟩ := Kd.R_celln 0 a1.out (((rd_T37 l1 a0).f0) : Int) bR bT; replace bR := eq_true bR; replace bT := eq_true bT; obtain ⟨cY, hz31_⟩ := Kd.R_celln 0 a1.out (((rd_T37 l1 a0).f0) : Int) (of_decide_eq_true (by first | (with_reducible assumption) | assumption)) (of_decide_eq_true (by first | (with_reducible assumption) | assumption)); have HP31 := Kd.R_putg a1.out (((rd_T37 l1 a0).f0) : Int) aZ) | ((with_reducible refine gs 3 69 rfl ?_); (try (rw [drewN_self bO]; generalize hq_ : World.drewN bO _ = bO; have n0_ := az (Kd.R_at hq_ a1.out); have n1_ := az (blk_at hq_ a3.out); have n2_ := az (below_at hq_ HB.out); clear hq_ a1 a3 HB; have a1 := n0_; have a3 := n1_; have HB := n2_; clear n0_ n1_ n2_; (try (obtain ⟨cY, hz31_⟩ := Kd.R_celln 0 a1.out (((rd_T37 l1 a0).f0) : Int) (of_decide_eq_true (by first | (with_reducible assumption) | assumption)) (of_decide_eq_true (by first | (with_reducible assumption) | assumption)))); (try (have HP31 := Kd.R_putg a1.out (((rd_T37 l1 a0).f0) : Int) aZ)))); refine sw 3 69 (bO.setCell ⟨bH, (((rd_T37 l1 a0).f0) : Int).toNat, none⟩ (.int .i64 aZ)) ?_; intro bP hw; have hg : bO.grownBy bP (some bH) := (by rw [hw]; exact HP31.2); have hp_ : Kd.R (Kd.int .i64) 3 bP w.heap.size (fun _ => True) (.slice (some ⟨bH, 0, none⟩) aI.length dT) c8 := (by rw [hw, dR.out]; exact HP31.1); clear HP31; replace a3 := az (blk_grown (g := a2) (o := .cells #[.int .i64 ((rd_T37 l1 a0).f0), .int .i64 ((rd_T37 l1 a0).f1), .int .i64 ((rd_T37 l1 a0).f2.f0.f0), .int .i64 ((rd_T37 l1 a0).f2.f0.f1), .int .i64 ((rd_T37 l1 a0).f2.f1)] 37 (0, 0)) (qB a3) hg (Kd.R_ne a1.out a3.out (by decide))); replace a1 := az (hp_); replace HB := az ((by rw [hw]; exact below_set (HB.out) GB24.out : Below w.heap.size w bP)); clear hg hw hp_; have hcz33_c := cz5 a3.out; have hfz33_c := fz5 a3.out; have dV : 0 ≤ (((rd_T37 l1 a0).f1) : Int) := qD; have dW : (((rd_T37 l1 a0).f1) : Int) < ((aI.length : Int) : Int) := qD; obtain ⟨fA, hf25_0⟩ := Kd.R_celln 0 a1.out (((rd_T37 l1 a0).f1) : Int) dV dW; replace dV := eq_true dV; replace dW := eq_true dW; obtain ⟨e4, hz34_⟩ := Kd.R_celln 0 a1.out (((rd_T37 l1 a0).f1) : Int) (of_decide_eq_true (by first | (with_reducible assumption) | assumption)) (of_decide_eq_true (by first | (with_reducible assumption) | assumption)); have HP34 := Kd.R_putg a1.out (((rd_T37 l1 a0).f1) : Int) aZ) | ((with_reducible refine gs 3 74 rfl ?_); (try (rw [drewN_self bP]; generalize hq_ : World.drewN bP _ = bP; have n0_ := az (Kd.R_at hq_ a1.out); have n1_ := az (blk_at hq_ a3.out); have n2_ := az (below_at hq_ HB.out); clear hq_ a1 a3 HB; have a1 := n0_; have a3 := n1_; have HB := n2_; clear n0_ n1_ n2_; (try (obtain ⟨e4, hz34_⟩ := Kd.R_celln 0 a1.out (((rd_T37 l1 a0).f1) : Int) (of_decide_eq_true (by first | (with_reducible assumption) | assumption)) (of_decide_eq_true (by first | (with_reducible assumption) | assumption)))); (try (have HP34 := Kd.R_putg a1.out (((rd_T37 l1 a0).f1) : Int) aZ)))); refine sw 3 74 (bP.setCell ⟨bH, (((rd_T37 l1 a0).f1) : Int).toNat, none⟩ (.int .i64 aZ)) ?_; intro dX hw; have hg : bP.grownBy dX (some bH) := (by rw [hw]; exact HP34.2); have hp_ : Kd.R (Kd.int .i64) 3 dX w.heap.size (fun _ => True) (.slice (some ⟨bH, 0, none⟩) aI.length dT) c9 := (by rw [hw, dS.out]; exact HP34.1); clear HP34; replace a3 := az (blk_grown (g := a2) (o := .cells #[.int .i64 ((rd_T37 l1 a0).f0), .int .i64 ((rd_T37 l1 a0).f1), .int .i64 ((rd_T37 l1 a0).f2.f0.f0), .int .i64 ((rd_T37 l1 a0).f2.f0.f1), .int .i64 ((rd_T37 l1 a0).f2.f1)] 37 (0, 0)) (qB a3) hg (Kd.R_ne a1.out a3.out (by decide))); replace a1 := az (hp_); replace HB := az ((by rw [hw]; exact below_set (HB.out) GB24.out : Below w.heap.size w dX)); clear hg hw hp_) | (go_quiet (first | (go_at_call 74; (with_reducible refine (spec_l3Less.calls cW.out).mono ?_); rintro e w' ⟨rfl, ⟨nd, rfl⟩⟩; (try first | exact ⟨rfl, _, World.drewN_drewN _ _ _⟩ | exact ⟨rfl, _, Eq.trans (World.drewN_drewN _ _ _) (congrArg (World.drewN _) (Nat.add_assoc _ _ _))⟩); have bR : 0 ≤ (((rd_T37 l1 a0).f0) : Int) := qD; have bT : (((rd_T37 l1 a0).f0) : Int) < ((aI.length : Int) : Int) := qD; obtain ⟨bH, eF, bU, bV, cL, cl24, HG24⟩ := Kd.R_form a1.out (by omega); (first | cases bU | (injection bU with ea_ en_ ec_; (first | subst ea_ | (injection ea_ with ea_; subst ea_)); subst ec_; clear en_)); have GB24 := az bV; have GG24 := az HG24; clear bV cL HG24; (first | simp only [add_plain] at c5 | skip); (first | simp only [add_plain] at c6 | skip); obtain ⟨dU, hf24_0⟩ := Kd.R_celln 0 a1.out (((rd_T37 l1 a0).f0) : Int) bR bT; replace bR := eq_true bR; replace bT := eq_true bT; obtain ⟨cY, hz31_⟩ := Kd.R_celln 0 a1.out (((rd_T37 l1 a0).f0) : Int) (of_decide_eq_true (by first | (with_reducible assumption) | assumption)) (of_decide_eq_true (by first | (with_reducible assumption) | assumption)); have HP31 := Kd.R_putg a1.out (((rd_T37 l1 a0).f0) : Int) aZ))))
       go_roundg k3
       case measure => exact mc bE bM bN
       exact ⟨(c9), (wrap64 (a0 + 1)), qG, H', ⟨mc bE bM bN⟩, ⟨qR a1⟩, ⟨qL HB⟩⟩
      case L5 =>
       go_wp2
       repeat (go_quiet (fail); try go_wp2)
       go_roundg k3
       case measure => exact mc bE bM bN
       exact ⟨(aI), (wrap64 (b4 + 1)), qG, H', ⟨mc bE bM bN⟩, ⟨qR a1⟩, ⟨qL HB⟩⟩
    case L7 =>
     obtain ⟨fH, fI, eG⟩ := Kd.R_slice a1.out; subst eG; go_wp2_with (first | (go_at_call 75; (with_reducible refine (spec_l7Number.calls (qC (Kd.C_below HR0.out HB.out)) eY.out (qC (rr a1)) ((rc a1)) e1.out).mono ?_); rintro e fL ⟨fJ, rfl, dY, hb⟩; have e5 := lo (rn dY a1) HB; replace a1 := re a1 dY hb; replace HB := bS HB hb; clear hb) | (go_quiet (fail)))
     go_ret
     exact ⟨_, qE, by (with_reducible repeat (first | apply Kd.R_alloc | apply Kd.R_drewN | apply Kd.R_drew)); exact Kd.R_mono e5.out (fun _ hk => trivial), qL HB⟩

/-! ### spec_l2Square: function 122 -/
def spec_l2Square.f (a0 a1 : Int) : Option (Int) := some (wrap64 ((wrap64 (a0 * a0)) + (wrap64 (a1 * a1))))
theorem spec_l2Square.calls {a0 a1 r : Int} {w : World} (h : spec_l2Square.f a0 a1 = some r) :
  Calls Try.prog 122 #[.agg #[.int .i64 a0, .int .i64 a1]] w fun e w' => e = .returned (.int .i64 r) ∧ Below w.heap.size w w' := by
 have hu33 := Try.underlying33; have HB := br w; have H : (some (wrap64 ((wrap64 (a0 * a0)) + (wrap64 (a1 * a1))))) = some r := h; clear h; obtain rfl := Option.some.inj H; go_enter Try.func122, Try.ntmps122; go_wp2_with (first | ((with_reducible refine gd 1 rfl ?_); refine bx 1 #[.int .i64 a0, .int .i64 a1] 33 ?_; intro a3 hg w2 a2 hb; have a6 := se hg HB; replace HB := bS HB hb; clear hb hg; have hcz3_c := cz2 a2.out; have a4 := blk_frozen a2.out 0; have a5 := blk_frozen a2.out 1))
 go_ret
 exact ⟨qE, qL HB⟩

/-! ### spec_FixClamp: function 135 -/
def spec_FixClamp.f (a0 : Int) : Option (Int) := if a0 > 1000000000 then (some 1000000000) else (if a0 < (-1000000000) then (some (-1000000000)) else (some a0))
theorem spec_FixClamp.calls {a0 r : Int} {w : World} (h : spec_FixClamp.f a0 = some r) :
  Calls Try.prog 135 #[.int .i64 a0] w fun e w' => e = .returned (.int .i64 r) ∧ Drawn0 w w' := by
 have H : (if a0 > 1000000000 then (some 1000000000) else (if a0 < (-1000000000) then (some (-1000000000)) else (some a0))) = some r := h; clear h; replace H := qc H; obtain ⟨a3, H⟩ | ⟨a3, H⟩ := H; obtain rfl := Option.some.inj H; refine ?L1; rotate_left; replace H := qc H; obtain ⟨a4, H⟩ | ⟨a4, H⟩ := H; obtain rfl := Option.some.inj H; refine ?L2; rotate_left; obtain rfl := Option.some.inj H; refine ?L3
 rotate_right 2
 case' L1 | L2 | L3 =>
  go_enter Try.func135, Try.ntmps135; go_wp2
  go_ret
 case' L1 | L2 =>
  exact ⟨by first | rfl | (simp; done) | (simp [*]; done), by repeat (first | exact Drawn0.refl _ | apply Drawn0.step)⟩
 case L3 =>
  exact ⟨by first | rfl | (simp; done) | (simp [*]; done), by repeat (first | exact Drawn0.refl _ | apply Drawn0.step)⟩

/-! ### spec_l2Clamp: function 134 -/
def spec_l2Clamp.f (a3 a4 : Int) : Option (Int × Int) := (spec_FixClamp.f a3).bind fun a7 => ((spec_FixClamp.f a4).bind fun a8 => (some (a7, a8)))
def spec_l2Clamp.T1 : TT := (true, [([], []), ([0], [0]), ([1], [1]), ([], []), ([3], [3]), ([4, 2], [4]), ([2, 5], [2, 5]), ([6, 5, 0, 1, 2, 3, 4, 5, 6], [6])])
def spec_l2Clamp.B1 : List Nat := [0, 1, 3, 0, 8, 31, 63, 127]
theorem spec_l2Clamp.tab1 : rtab .any (opsOf Try.f134 1) = spec_l2Clamp.T1 := by kernel_rfl
theorem spec_l2Clamp.bits1 : waitsOk spec_l2Clamp.T1.2 spec_l2Clamp.B1 = true := by kernel_rfl
theorem spec_l2Clamp.calls {a3 a4 r1 r2 : Int} {w : World} (h : spec_l2Clamp.f a3 a4 = some (r1, r2)) :
  Calls Try.prog 134 #[.agg #[.int .i64 a3, .int .i64 a4]] w fun e w' => e = .returned (.agg #[.int .i64 r1, .int .i64 r2]) ∧ Below w.heap.size w w' := by
 have hu33 := Try.underlying33; have HB := br w; have H : ((spec_FixClamp.f a3).bind fun a7 => ((spec_FixClamp.f a4).bind fun a8 => (some (a7, a8)))) = some (r1, r2) := h; clear h; replace H := qH H; obtain ⟨a7, A2, H⟩ := H
 replace H := qH H; obtain ⟨a8, A3, H⟩ := H
 simp only [Option.some.injEq, Prod.mk.injEq] at H; obtain ⟨rfl, rfl⟩ := H; go_enter Try.func134, Try.ntmps134
 try go_wp2_with (first | ((with_reducible refine gd 1 rfl ?_); refine bx 1 #[.int .i64 a3, .int .i64 a4] 33 ?_; intro a9 hg w4 a0 hb; have aE := se hg HB; replace HB := bS HB hb; clear hb hg) | ((with_reducible refine gd 2 rfl ?_); refine bz2 2 33 ?_; intro a6 hg w5 a1 hb; have aF := se hg HB; obtain ⟨a2, a5⟩ := nPB a0 hg; replace a0 := kBB a0 hb; replace HB := bS HB hb; clear hb hg))
 replace a0 := bd a0; replace a1 := bd a1; replace HB := ed HB; refine sa 8 (fun w' => ci a9 0 [.int .i64 a3, .int .i64 a4] w') [] (cI a0) fun Z => ?_; refine with_tabW spec_l2Clamp.tab1 spec_l2Clamp.bits1 fun T Y => ?_; generalize w5.drew = w6 at a0 a1 HB Z ⊢; refine pz 0 3 T ?_; refine pz 3 6 T ?_; refine tz 1 4 T Y Z ?_; refine tz 4 7 T Y Z ?_; refine oo 8 2 5 31 T fun K hK => ?_; refine ky Try.func135 (spec_FixClamp.calls A2.out) ?_; rintro w' ⟨nd, rfl⟩; refine hz hK (cI a0) fun Z => ?_; clear hK K; refine nn 5 ?_; refine oo 8 5 8 63 T fun K hK => ?_; refine ky Try.func135 (spec_FixClamp.calls A3.out) ?_; rintro w' ⟨nd, rfl⟩; refine hz hK (cI a0) fun Z => ?_; clear hK K; refine nn 8 ?_; refine pz 6 9 T ?_; refine op 8 7 255 T fun K hK => ?_; have aI : w6.cell? ⟨a6, 0, none⟩ = some (.int .i64 0) := bc a1 0; have aG := blk_frozen a1.out 0; have aA := a2.out; have aB := a5.out; have aJ : w6.cell? ⟨a6, 1, none⟩ = some (.int .i64 0) := bc a1 1; have aH := blk_frozen a1.out 1; have aC := a2.out; have aD := a5.out; refine sq ?_ ?_ ?_; rotate_left
 ·go_simp
  rfl
 refine hz hK ((cif a2 (cif a2 Z))) fun Z => ?_; clear hK K; refine dn T ?_
 try go_wp2
 refine rz a6 33 #[.int .i64 a7, .int .i64 a8] (qP a1) Try.underlying33 ?_; exact ⟨qE, qL HB⟩

/-! ### spec_l1Root: function 136 -/
mutual
def spec_l1Root.l0 : Nat → Int → Int → Int → Option (Int)
  | 0, _, _, _ => none
  | k + 1, x0, x3, x4 => if (wrap64 (x4 * x4)) ≤ x0 then (spec_l1Root.l0 k x0 x3 (wrap64 (2 * x4))) else (spec_l1Root.l1 k x0 x3 x4)
def spec_l1Root.l1 : Nat → Int → Int → Int → Option (Int)
  | 0, _, _, _ => none
  | k + 1, x0, x3, x4 => if (wrap64 (x4 - x3)) > 1 then (if (wrap64 ((wrap64 (Int.tdiv (wrap64 (x3 + x4)) 2)) * (wrap64 (Int.tdiv (wrap64 (x3 + x4)) 2)))) ≤ x0 then (spec_l1Root.l1 k x0 (wrap64 (Int.tdiv (wrap64 (x3 + x4)) 2)) x4) else (spec_l1Root.l1 k x0 x3 (wrap64 (Int.tdiv (wrap64 (x3 + x4)) 2)))) else (some x3)
end
def spec_l1Root.f (k : Nat) (a0 : Int) : Option (Int) := spec_l1Root.l0 k a0 0 1
theorem spec_l1Root.calls {k : Nat} {a0 r : Int} {w : World} (h : spec_l1Root.f k a0 = some r) :
  Calls Try.prog 136 #[.int .i64 a0] w fun e w' => e = .returned (.int .i64 r) ∧ Drawn0 w w' := by
 have H : (spec_l1Root.l0 k a0 0 1) = some r := h; clear h; have H' := az H; clear H; go_enter Try.func136, Try.ntmps136; go_wp2
 go_loopg [4] k (fun kq v4 w' => ∃ (a3 : Int), v4 = .int .i64 a3 ∧ Aside0 (spec_l1Root.l0 kq a0 0 a3 = some r) ∧ Aside0 (kq ≤ k) ∧ Drawn0 w w')
 case atStart => exact ⟨(1), qG, H', ⟨Nat.le_refl _⟩, by repeat (first | exact Drawn0.refl _ | apply Drawn0.step)⟩
 case round =>
  clear H'
  try clear c1
  obtain ⟨a3, rfl, HA, a4, ⟨m1, rfl⟩⟩ := hrel
  obtain ⟨k1, rfl⟩ := qz gk HA
  have H := HA.out; clear HA; simp only [spec_l1Root.l0] at H; by_cases c2 : (wrap64 (a3 * a3)) ≤ a0
  ·rw [if_pos c2] at H; have a6 : decide ((wrap64 (a3 * a3)) ≤ a0) = true := decide_eq_true c2; clear c2; have H' := az H; clear H; go_wp2
   go_roundg k1
   case measure => exact ma a4
   case rel => exact ⟨(wrap64 (2 * a3)), qG, H', ⟨ma a4⟩, by repeat (first | exact Drawn0.refl _ | apply Drawn0.step)⟩
  rw [if_neg c2] at H; have a6 : decide ((wrap64 (a3 * a3)) ≤ a0) = false := decide_eq_false c2; clear c2; have H' := az H; clear H; go_wp2
  go_loopg [3, 4] k1 (fun kq v3 v4 w' => ∃ (a1 : Int) (a2 : Int), v3 = .int .i64 a1 ∧ v4 = .int .i64 a2 ∧ Aside0 (spec_l1Root.l1 kq a0 a1 a2 = some r) ∧ Aside0 (kq ≤ k1) ∧ Drawn0 w w')
  case atStart => exact ⟨(0), (a3), qG, qG, H', ⟨Nat.le_refl _⟩, by repeat (first | exact Drawn0.refl _ | apply Drawn0.step)⟩
  case round =>
   clear H'; obtain ⟨a1, a2, rfl, rfl, HA, a5, ⟨m2, rfl⟩⟩ := hrel
   obtain ⟨k2, rfl⟩ := qz gk HA
   have H := HA.out; clear HA; simp only [spec_l1Root.l1] at H; by_cases c3 : (wrap64 (a2 - a1)) > 1
   ·rw [if_pos c3] at H; have a7 : decide (1 < (wrap64 (a2 - a1))) = true := decide_eq_true c3; clear c3; by_cases c4 : (wrap64 ((wrap64 (Int.tdiv (wrap64 (a1 + a2)) 2)) * (wrap64 (Int.tdiv (wrap64 (a1 + a2)) 2)))) ≤ a0
    ·rw [if_pos c4] at H; have a8 : decide ((wrap64 ((wrap64 (Int.tdiv (wrap64 (a1 + a2)) 2)) * (wrap64 (Int.tdiv (wrap64 (a1 + a2)) 2)))) ≤ a0) = true := decide_eq_true c4; clear c4; have H' := az H; clear H; go_wp2
     go_roundg k2
     case measure => exact mb a4 a5
     case rel => exact ⟨(wrap64 (Int.tdiv (wrap64 (a1 + a2)) 2)), (a2), qG, qG, H', ⟨mb a4 a5⟩, by repeat (first | exact Drawn0.refl _ | apply Drawn0.step)⟩
    rw [if_neg c4] at H; have a8 : decide ((wrap64 ((wrap64 (Int.tdiv (wrap64 (a1 + a2)) 2)) * (wrap64 (Int.tdiv (wrap64 (a1 + a2)) 2)))) ≤ a0) = false := decide_eq_false c4; clear c4; have H' := az H; clear H; go_wp2
    go_roundg k2
    case measure => exact mb a4 a5
    case rel => exact ⟨(a1), (wrap64 (Int.tdiv (wrap64 (a1 + a2)) 2)), qG, qG, H', ⟨mb a4 a5⟩, by repeat (first | exact Drawn0.refl _ | apply Drawn0.step)⟩
   rw [if_neg c3] at H; have a7 : decide (1 < (wrap64 (a2 - a1))) = false := decide_eq_false c3; clear c3; obtain rfl := Option.some.inj H; go_wp2
   go_ret
   exact ⟨by first | rfl | (simp; done) | (simp [*]; done), by repeat (first | exact Drawn0.refl _ | apply Drawn0.step)⟩

/-! ### spec_VecLen: function 124 -/
def spec_VecLen.f (k : Nat) (a1 a2 : Int) : Option (Int) := (spec_l2Clamp.f a1 a2).bind fun bt218 => ((spec_l2Square.f bt218.1 bt218.2).bind fun a3 => ((spec_l1Root.f k a3).bind fun a4 => ((spec_FixClamp.f a4).bind fun a5 => (some a5))))
theorem spec_VecLen.calls {k : Nat} {a1 a2 r : Int} {w : World} (h : spec_VecLen.f k a1 a2 = some r) :
  Calls Try.prog 124 #[.agg #[.int .i64 a1, .int .i64 a2]] w fun e w' => e = .returned (.int .i64 r) ∧ Below w.heap.size w w' := by
 have hu33 := Try.underlying33; have HB := br w
 unfold spec_VecLen.f at h
 have H := h; clear h; replace H := qH H; obtain ⟨⟨aA, aB⟩, A2, H⟩ := H
 try dsimp only at H
 replace H := qH H; obtain ⟨a3, A3, H⟩ := H
 replace H := qH H; obtain ⟨a4, A4, H⟩ := H
 replace H := qH H; obtain ⟨a5, A5, H⟩ := H
 obtain rfl := Option.some.inj H; go_enter Try.func124, Try.ntmps124; go_wp2_with (first | ((with_reducible refine gd 1 rfl ?_); refine bx 1 #[.int .i64 a1, .int .i64 a2] 33 ?_; intro a6 hg w6 a0 hb; have a9 := se hg HB; replace HB := bS HB hb; clear hb hg; have hcz7_c := cz2 a0.out; have a7 := blk_frozen a0.out 0; have a8 := blk_frozen a0.out 1) | ((with_reducible refine gc 134 rfl ?_); refine gr 4 Try.func134 (spec_l2Clamp.calls A2.out) ?_; rintro w8 hb; replace a0 := kBB a0 hb; replace HB := bS HB hb; clear hb) | ((with_reducible refine gc 122 rfl ?_); refine gr 5 Try.func122 (spec_l2Square.calls A3.out) ?_; rintro w9 hb; replace a0 := kBB a0 hb; replace HB := bS HB hb; clear hb) | ((with_reducible refine gc 136 rfl ?_); refine gr 6 Try.func136 (spec_l1Root.calls A4.out) ?_; rintro w' ⟨nd, rfl⟩) | ((with_reducible refine gc 135 rfl ?_); refine gr 7 Try.func135 (spec_FixClamp.calls A5.out) ?_; rintro w' ⟨nd, rfl⟩))
 go_ret
 exact ⟨qE, qL HB⟩

/-! ### spec_VecUnit: function 123 -/
def spec_VecUnit.f (k : Nat) (a6 a7 : Int) : Option (Int × Int) := (spec_l2Clamp.f a6 a7).bind fun bt225 => ((spec_VecLen.f k bt225.1 bt225.2).bind fun a4 => (if a4 = 0 then (some (0, 256)) else (some (wrap64 (Int.tdiv (wrap64 (bt225.1 * 256)) a4), wrap64 (Int.tdiv (wrap64 (bt225.2 * 256)) a4)))))
def spec_VecUnit.T5 : TT := (true, [([], []), ([0], [0]), ([1], [1]), ([], []), ([2, 3], [2, 3]), ([], []), ([5], [5]), ([6], [6]), ([], []), ([7, 8], [7, 8]), ([4, 9], [4, 9]), ([10, 0, 1, 2, 3, 4, 5, 6, 7, 8, 9, 10], [10])])
def spec_VecUnit.B5 : List Nat := [0, 1, 3, 0, 15, 0, 32, 96, 0, 480, 1023, 2047]
theorem spec_VecUnit.tab5 : rtab .any (opsOf Try.f123 5) = spec_VecUnit.T5 := by kernel_rfl
theorem spec_VecUnit.bits5 : waitsOk spec_VecUnit.T5.2 spec_VecUnit.B5 = true := by kernel_rfl
theorem spec_VecUnit.calls {k : Nat} {a6 a7 r1 r2 : Int} {w : World} (h : spec_VecUnit.f k a6 a7 = some (r1, r2)) :
  Calls Try.prog 123 #[.agg #[.int .i64 a6, .int .i64 a7]] w fun e w' => e = .returned (.agg #[.int .i64 r1, .int .i64 r2]) ∧ Below w.heap.size w w' := by
 have hu33 := Try.underlying33; have HB := br w
 unfold spec_VecUnit.f at h
 have H := h; clear h; replace H := qH H; obtain ⟨⟨a9, aA⟩, A2, H⟩ := H
 try dsimp only at H
 replace H := qH H; obtain ⟨a4, A3, H⟩ := H
 by_cases c4 : a4 = 0
 ·rw [if_pos c4] at H; have aE := ba c4; have aF := bb c4; clear c4; simp only [Option.some.injEq, Prod.mk.injEq] at H; obtain ⟨rfl, rfl⟩ := H; go_enter Try.func123, Try.ntmps123; go_wp2_with (first | ((with_reducible refine gd 1 rfl ?_); refine bx 1 #[.int .i64 a6, .int .i64 a7] 33 ?_; intro a8 hg w5 a0 hb; have aB := se hg HB; replace HB := bS HB hb; clear hb hg) | ((with_reducible refine gd 2 rfl ?_); refine bz2 2 33 ?_; intro a5 hg w6 a1 hb; have aC := se hg HB; obtain ⟨a2, a3⟩ := nPB a0 hg; replace a0 := kBB a0 hb; replace HB := bS HB hb; clear hb hg; have aZ := a2.out; have b0 := a3.out; have hcz8_c := cz2 a0.out; have aS := blk_frozen a0.out 0; have aT := blk_frozen a0.out 1) | ((with_reducible refine gc 134 rfl ?_); refine gr 5 Try.func134 (spec_l2Clamp.calls A2.out) ?_; rintro w9 hb; replace a0 := kBB a0 hb; replace a1 := kBB a1 hb; replace HB := bS HB hb; clear hb; have hcz10_c := cz2 a0.out; have aG := blk_frozen a0.out 0; have aH := blk_frozen a0.out 1) | ((with_reducible refine gc 124 rfl ?_); refine gr 7 Try.func124 (spec_VecLen.calls A3.out) ?_; rintro b3 hb; replace a0 := kBP (o' := .cells #[.int .i64 a9, .int .i64 aA] 33 (0, 0)) a0 hb; replace a1 := kBF a1 hb; replace HB := bS HB hb; clear hb; have hcz12_c := cz2 a1.out; have aI := blk_frozen a1.out 0; have aJ := blk_frozen a1.out 1)); refine rz a5 33 #[.int .i64 0, .int .i64 256] (qP a1) Try.underlying33 ?_; exact ⟨qE, qL HB⟩
 rw [if_neg c4] at H; have aE := be c4; have aF := bf c4; simp only [Option.some.injEq, Prod.mk.injEq] at H; obtain ⟨rfl, rfl⟩ := H; go_enter Try.func123, Try.ntmps123
 try go_wp2_with (first | ((with_reducible refine gd 1 rfl ?_); refine bx 1 #[.int .i64 a6, .int .i64 a7] 33 ?_; intro a8 hg b4 a0 hb; have aB := se hg HB; replace HB := bS HB hb; clear hb hg) | ((with_reducible refine gd 2 rfl ?_); refine bz2 2 33 ?_; intro a5 hg b5 a1 hb; have aC := se hg HB; obtain ⟨a2, a3⟩ := nPB a0 hg; replace a0 := kBB a0 hb; replace HB := bS HB hb; clear hb hg; have aV := a2.out; have aW := a3.out; have hcz16_c := cz2 a0.out; have aK := blk_frozen a0.out 0; have aL := blk_frozen a0.out 1) | ((with_reducible refine gc 134 rfl ?_); refine gr 5 Try.func134 (spec_l2Clamp.calls A2.out) ?_; rintro b6 hb; replace a0 := kBB a0 hb; replace a1 := kBB a1 hb; replace HB := bS HB hb; clear hb; have hcz18_c := cz2 a0.out; have aM := blk_frozen a0.out 0; have aN := blk_frozen a0.out 1) | ((with_reducible refine gc 124 rfl ?_); refine gr 7 Try.func124 (spec_VecLen.calls A3.out) ?_; rintro aU hb; replace a0 := kBP (o' := .cells #[.int .i64 a9, .int .i64 aA] 33 (0, 0)) a0 hb; replace a1 := kBF a1 hb; replace HB := bS HB hb; clear hb))
 replace a0 := bd a0; replace a1 := bd a1; replace HB := ed HB; refine sa 12 (fun w' => ci a8 0 [.int .i64 a9, .int .i64 aA] w') [] (cI a0) fun Z => ?_; refine with_tabW spec_VecUnit.tab5 spec_VecUnit.bits5 fun T Y => ?_; generalize aU.drew = aD at a0 a1 HB Z ⊢; refine pz 0 11 T ?_; refine pz 3 14 T ?_; refine pz 5 16 T ?_; refine pz 8 19 T ?_; refine tz 1 12 T Y Z ?_; refine pz 2 13 T ?_; refine pz 4 15 T ?_; refine tz 6 17 T Y Z ?_; refine pz 7 18 T ?_; refine pz 9 20 T ?_; refine pz 10 21 T ?_; refine op 12 11 4095 T fun K hK => ?_; have b1 : aD.cell? ⟨a5, 0, none⟩ = some (.int .i64 0) := bc a1 0; have aX := blk_frozen a1.out 0; have aO := a2.out; have aP := a3.out; have b2 : aD.cell? ⟨a5, 1, none⟩ = some (.int .i64 0) := bc a1 1; have aY := blk_frozen a1.out 1; have aQ := a2.out; have aR := a3.out; refine sq ?_ ?_ ?_; rotate_left
 ·go_simp
  rfl
 refine hz hK ((cif a2 (cif a2 Z))) fun Z => ?_; clear hK K; refine dn T ?_
 try go_wp2
 refine rz a5 33 #[.int .i64 (wrap64 (Int.tdiv (wrap64 (a9 * 256)) a4)), .int .i64 (wrap64 (Int.tdiv (wrap64 (aA * 256)) a4))] (qP a1) Try.underlying33 ?_; exact ⟨qE, qL HB⟩
end Go.Proofs.Ytdngjedhbnoaoaa.PBig
