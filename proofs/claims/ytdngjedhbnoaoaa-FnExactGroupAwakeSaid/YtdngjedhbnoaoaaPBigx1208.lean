/- What these functions compute, each walked once: spec_l3Less, spec_l7Number, spec_l7Groups, spec_l2Square, spec_FixClamp, spec_l2Clamp; for all arguments and worlds, under the conditions that each theorem names. -/
import Derived.Test.YtdngjedhbnoaoaaSq
namespace Go.Proofs.Ytdngjedhbnoaoaa.PBig
open Go.RowKit Go.Proofs.YtdngjedhbnoaoaaW.PrintWords Go.Proofs.YtdngjedhbnoaoaaW.PrintLast Go.Proofs.YtdngjedhbnoaoaaW.PrintMore
attribute [local go_sem] max2_int min2_int max_two min_two max_three min_three max_four min_four   -- for this text's walks alone
set_option linter.unusedVariables false
set_option linter.unusedSimpArgs false

/-! ### spec_l3Less: function 74 -/
def spec_l3Less.f (a0 : Int) (a1 : Int) : Option (Int) := if a0 < a1 then (some a0) else (some a1)
set_option maxHeartbeats 8000000 in
set_option maxRecDepth 100000 in
theorem spec_l3Less.calls (a0 : Int) (a1 : Int) (r : Int) (w : World) (h : spec_l3Less.f a0 a1 = some r) :
    Calls Try.prog 74 #[.int .i64 a0, .int .i64 a1] w fun e w' => e = .returned (.int .i64 r) ∧ Drawn0 w w' := by
  have H : (if a0 < a1 then (some a0) else (some a1)) = some r := h; clear h; by_cases c3 : a0 < a1
  · rw [if_pos c3] at H; have a2 : decide (a0 < a1) = true := decide_eq_true c3; clear c3; obtain rfl := Option.some.inj H; go_enter Try.func74, Try.ntmps74; go_wp2
    go_ret
    exact ⟨by first | rfl | (simp; done) | (simp [*]; done), by repeat (first | exact Drawn0.refl _ | apply Drawn0.step)⟩
  rw [if_neg c3] at H; have a2 : decide (a0 < a1) = false := decide_eq_false c3; clear c3; obtain rfl := Option.some.inj H; go_enter Try.func74, Try.ntmps74; go_wp2
  go_ret
  exact ⟨by first | rfl | (simp; done) | (simp [*]; done), by repeat (first | exact Drawn0.refl _ | apply Drawn0.step)⟩

/-! ### spec_l7Number: function 75 -/
mutual
def spec_l7Number.l0 : Nat → List (S41) → List Int → List Int → List Int → Int → Option (List Int)
  | 0, _, _, _, _, _ => none
  | k + 1, x0, x1, x5, x6, x7 => if x7 < (x0.length : Int) then (if 0 ≤ x7 then (if ((rd_T41 x0 x7).f4) = 0 then (if x5.length < 17592186044416 then (spec_l7Number.l0 k x0 x1 (x5 ++ [(-1)]) x6 (wrap64 (x7 + 1))) else (none)) else (spec_l7Number.l1 k x0 x1 x5 x6 x7 (-1) 0)) else (none)) else (some x5)
def spec_l7Number.l1 : Nat → List (S41) → List Int → List Int → List Int → Int → Int → Int → Option (List Int)
  | 0, _, _, _, _, _, _, _ => none
  | k + 1, x0, x1, x5, x6, x7, x8, x9 => if x9 < (x6.length : Int) then (if 0 ≤ x9 then (if 0 ≤ x7 then (if x7 < (x1.length : Int) then (if (rd x6 x9) = (rd x1 x7) then (spec_l7Number.l1 k x0 x1 x5 x6 x7 x9 (wrap64 (x9 + 1))) else (spec_l7Number.l1 k x0 x1 x5 x6 x7 x8 (wrap64 (x9 + 1)))) else (none)) else (none)) else (none)) else (if x8 < 0 then (if 0 ≤ x7 then (if x7 < (x1.length : Int) then (if x6.length < 17592186044416 then (if x5.length < 17592186044416 then (spec_l7Number.l0 k x0 x1 (x5 ++ [(x6.length : Int)]) (x6 ++ [rd x1 x7]) (wrap64 (x7 + 1))) else (none)) else (none)) else (none)) else (none)) else (if x5.length < 17592186044416 then (spec_l7Number.l0 k x0 x1 (x5 ++ [x8]) x6 (wrap64 (x7 + 1))) else (none)))
end
def spec_l7Number.f (k : Nat) (l0 : List (S41)) (l1 : List Int) : Option (List Int) := spec_l7Number.l0 k l0 l1 (([] : List Int)) (([] : List Int)) 0
theorem spec_l7Number.mono_l : ∀ k, (∀ y0 y1 y2 y3 y4, LeO (spec_l7Number.l0 k y0 y1 y2 y3 y4) (spec_l7Number.l0 (k + 1) y0 y1 y2 y3 y4)) ∧ (∀ y0 y1 y2 y3 y4 y5 y6, LeO (spec_l7Number.l1 k y0 y1 y2 y3 y4 y5 y6) (spec_l7Number.l1 (k + 1) y0 y1 y2 y3 y4 y5 y6))
  | 0 => ⟨fun _ _ _ _ _ r h => by simp [spec_l7Number.l0] at h, fun _ _ _ _ _ _ _ r h => by simp [spec_l7Number.l1] at h⟩
  | k + 1 => by
    obtain ⟨ih0, ih1⟩ := spec_l7Number.mono_l k
    refine ⟨?_, ?_⟩
    · intro y0 y1 y2 y3 y4
      unfold spec_l7Number.l0
      repeat' first
      | (with_reducible exact ih0 _ _ _ _ _)
      | (with_reducible exact ih1 _ _ _ _ _ _ _)
      | (with_reducible exact LeO.refl _)
      | (with_reducible exact LeO.none _)
      | (with_reducible refine LeO.ite ?_ ?_)
      | (with_reducible refine LeO.bind ?_ (fun _ => ?_))
    · intro y0 y1 y2 y3 y4 y5 y6
      unfold spec_l7Number.l1
      repeat' first
      | (with_reducible exact ih0 _ _ _ _ _)
      | (with_reducible exact ih1 _ _ _ _ _ _ _)
      | (with_reducible exact LeO.refl _)
      | (with_reducible exact LeO.none _)
      | (with_reducible refine LeO.ite ?_ ?_)
      | (with_reducible refine LeO.bind ?_ (fun _ => ?_))
theorem spec_l7Number.mono : ∀ a0 a1 k, LeO (spec_l7Number.f k a0 a1) (spec_l7Number.f (k + 1) a0 a1) := by
  intro a0 a1 k
  obtain ⟨ih0, ih1⟩ := spec_l7Number.mono_l k
  unfold spec_l7Number.f
  repeat' first
      | (with_reducible exact ih0 _ _ _ _ _)
      | (with_reducible exact ih1 _ _ _ _ _ _ _)
      | (with_reducible exact LeO.refl _)
      | (with_reducible exact LeO.none _)
      | (with_reducible refine LeO.ite ?_ ?_)
      | (with_reducible refine LeO.bind ?_ (fun _ => ?_))
set_option maxHeartbeats 8000000 in
set_option maxRecDepth 100000 in
theorem spec_l7Number.calls (k : Nat) (A0 : Option Addr) (c0 : Nat) (l0 : List (S41)) (A1 : Option Addr) (c1 : Nat) (l1 : List Int) (r : List Int) (w : World) (hr0 : Kd.C k41 w A0 l0.length l0) (hc0 : l0.length ≤ c0) (hr1 : Kd.C (Kd.int .i64) w A1 l1.length l1) (hc1 : l1.length ≤ c1) (h : spec_l7Number.f k l0 l1 = some r) :
    Calls Try.prog 75 #[.slice A0 l0.length c0, .slice A1 l1.length c1] w fun e w' => ∃ cE : Value, e = .returned (cE) ∧ Kd.R (Kd.int .i64) 3 w' w.heap.size (fun _ => True) cE r ∧ Below w.heap.size w w' := by
  have HR0 := az hr0; have cW := az hc0; clear hr0 hc0; have HR1 := az hr1; have cX := az hc1; clear hr1 hc1; have HB := az (Below.refl w.heap.size w); have H : (spec_l7Number.l0 k l0 l1 (([] : List Int)) (([] : List Int)) 0) = some r := h; clear h; obtain ⟨bI, aN⟩ : ∃ y_ : List Int, y_ = (([] : List Int)) := ⟨_, rfl⟩
  replace H : (spec_l7Number.l0 k l0 l1 bI (([] : List Int)) 0) = some r := by first | (rw [aN]; with_reducible exact H) | (have H2_ := (Option.bind_some _ _).symm.trans H; rw [aN]; with_reducible exact H2_) | (have H2_ := (Option.bind_some _ _).symm.trans H; with_reducible exact H2_) | with_reducible exact H | (rw [aN]; exact H) | exact H
  have bR := az aN; clear aN; obtain ⟨c5, aQ⟩ : ∃ y_ : List Int, y_ = (([] : List Int)) := ⟨_, rfl⟩
  replace H : (spec_l7Number.l0 k l0 l1 bI c5 0) = some r := by first | (rw [aQ]; with_reducible exact H) | (have H2_ := (Option.bind_some _ _).symm.trans H; rw [aQ]; with_reducible exact H2_) | (have H2_ := (Option.bind_some _ _).symm.trans H; with_reducible exact H2_) | with_reducible exact H | (rw [aQ]; exact H) | exact H
  have bT := az aQ; clear aQ; have H' := az H; clear H; go_enter Try.func75, Try.ntmps75; go_wp2_with (first | ((with_reducible refine gate_dst (N := 10) rfl ?_); refine Kd.R_lit (Kd.int .i64) _ 3 ?hg (N := 10) ?hd (xs := ([] : List Int)) (inner := []) (ok := fun _ => True) (okp := fun _ => True) ?hr ?hp (fun _ hk => hk) trivial (Below.refl _ _) (Nat.le_refl _) (by simp) ?_; (case hd => rfl); (case hg => rfl); (case hr => first | (go_simp; done) | (go_simp; rfl)); (case hp => exact (Reps.none _ _)); intro cR w3 bH hb hg_ hnew_; clear hg_ hnew_; (first | rw [← bR.out] at bH | (simp only [Int.reduceToNat] at bH; rw [← bR.out] at bH)); have aV := az (Kd.R_lower bH (below_size (qL HB))); replace HB := bS HB hb; clear hb bH) | ((with_reducible refine gate_dst (N := 11) rfl ?_); refine Kd.R_lit (Kd.int .i64) _ 3 ?hg (N := 11) ?hd (xs := ([] : List Int)) (inner := []) (ok := fun _ => True) (okp := fun _ => True) ?hr ?hp (fun _ hk => hk) trivial (Below.refl _ _) (Nat.le_refl _) (by simp) ?_; (case hd => rfl); (case hg => rfl); (case hr => first | (go_simp; done) | (go_simp; rfl)); (case hp => exact (Reps.none _ _)); intro cS w5 b1 hb hg_ hnew_; clear hg_ hnew_; (first | rw [← bT.out] at b1 | (simp only [Int.reduceToNat] at b1; rw [← bT.out] at b1)); have cA := az (Kd.R_lower (Kd.R_new' b1 (Kd.R_lt (qR aV))) (below_size (qL HB))); replace aV := az (Kd.R_elder' (qR aV) (Kd.R_base b1) hb); replace HB := bS HB hb; clear hb b1) | (go_quiet (fail)))
  go_loopg [5, 6, 7] k (fun kq v5 v6 v7 w' => ∃ (a8 : List Int) (a3 : List Int) (a2 : Int), v7 = .int .i64 a2 ∧ Aside0 (spec_l7Number.l0 kq l0 l1 a8 a3 a2 = some r) ∧ Aside0 (kq ≤ k) ∧ Aside0 (Kd.R (Kd.int .i64) 3 w' w.heap.size (fun k_ => some k_ ≠ (v6 : Value).ownBlock) v5 a8) ∧ Aside0 (Kd.R (Kd.int .i64) 3 w' w.heap.size (fun k_ => some k_ ≠ (v5 : Value).ownBlock) v6 a3) ∧ Aside0 (Below w.heap.size w w'))
  case atStart => exact ⟨(bI), (c5), (0), qG, H', ⟨Nat.le_refl _⟩, ⟨by (with_reducible repeat (first | apply Kd.R_alloc | apply Kd.R_drewN | apply Kd.R_drew)); exact Kd.R_mono aV.out (fun _ hk => hk.2)⟩, ⟨by (with_reducible repeat (first | apply Kd.R_alloc | apply Kd.R_drewN | apply Kd.R_drew)); exact Kd.R_mono cA.out (fun _ hk => hk.2)⟩, ⟨qL HB⟩⟩
  case round =>
    clear H'; (try clear c1); obtain ⟨a8, a3, a2, rfl, HA, aR, a7, a6, HB⟩ := hrel
    cases gk with
    | zero => exact absurd HA.out (by simp [spec_l7Number.l0])
    | succ k1 => ?_
    have H := HA.out; clear HA; simp only [spec_l7Number.l0] at H; by_cases aE : a2 < (l0.length : Int); rw [if_pos aE] at H; have b2 : decide (a2 < (l0.length : Int)) = true := decide_eq_true aE; clear aE; replace H := qif H; obtain ⟨a9, H⟩ := H; have aU : decide (0 ≤ a2) = true := decide_eq_true a9; clear a9; by_cases aA : ((rd_T41 l0 a2).f4) = 0; rw [if_pos aA] at H; have b3 : (((rd_T41 l0 a2).f4) == 0) = true := beq_iff_eq.mpr aA; have b4 : (((rd_T41 l0 a2).f4) != 0) = false := bne_eq_false_iff_eq.mpr aA; clear aA; replace H := qif H; obtain ⟨aC, H⟩ := H; have LMc7003 := az aC; clear aC; obtain ⟨bU, aH⟩ : ∃ y_ : List Int, y_ = (a8 ++ [(-1)]) := ⟨_, rfl⟩
    replace H : (spec_l7Number.l0 k1 l0 l1 bU a3 (wrap64 (a2 + 1))) = some r := by first | (rw [aH]; with_reducible exact H) | (have H2_ := (Option.bind_some _ _).symm.trans H; rw [aH]; with_reducible exact H2_) | (have H2_ := (Option.bind_some _ _).symm.trans H; with_reducible exact H2_) | with_reducible exact H | (rw [aH]; exact H) | exact H
    have c6 := az aH; clear aH; have H' := az H; clear H; refine ?L1; rotate_left; rw [if_neg aA] at H; have b3 : (((rd_T41 l0 a2).f4) == 0) = false := beq_eq_false_iff_ne.mpr aA; have b4 : (((rd_T41 l0 a2).f4) != 0) = true := bne_iff_ne.mpr aA; have H' := az H; clear H; refine ?L6
    rotate_right
    rotate_left 2
    rw [if_neg aE] at H; have b2 : decide (a2 < (l0.length : Int)) = false := decide_eq_false aE; clear aE; obtain rfl := Option.some.inj H; refine ?L7
    rotate_right 2
    case' L1 | L6 =>
      have bJ : 0 ≤ (a2 : Int) := qD; have bK : a2 < (l0.length : Int) := qD; obtain ⟨cN, cF, b5, b6, b7, b8, b9, bA, bB, bC, bD, bE, aX, aY⟩ := at_T41 HR0.out a2 bJ bK; cases cF; obtain ⟨b5, b6, b7, b8, b9, bA, bB, bC, bD, bE, aX, aY⟩ := hB12 HB b5 b6 b7 b8 b9 bA bB bC bD bE aX aY; replace bJ := eq_true bJ; replace bK := eq_true bK
    case L1 =>
      go_wp2_with (first | ((with_reducible refine gate_builtin (b := .append) (xs := #[.tmp 24, .tmp 25]) rfl ?_); at_builtin; refine Kd.R_append (Kd.int .i64) (w0 := w) w.heap.size rfl (.tmp 24) (.tmp 25) 25 3 (.int .i64 0) 8 rfl Try.underlying25 info3 rfl (by decide) (by omega) u5 a8 (-1) [.int .i64 (-1)] (fun k_ => some k_ ≠ (u6 : Value).ownBlock) (fun _ => False) rfl rfl ?aP (fun _ hk => hk.elim) ?aF ?aO ?aB ?aS ?aL ?_; (case aP => exact rfl); (case aB => exact (qL HB)); (case aF => exact (fun k_ hk => Kd.fresh' (Kd.R_lt (qR a6)) k_ hk)); (case aO => exact (qR a7)); (case aS => exact (below_size (qL HB))); (case aL => have := LMc7003.out; omega); intro cT cY ho hb hg hat; rw [← c6.out] at ho; have cB := az (ho); replace a6 := az (Kd.R_after (ok := (fun _ => True)) (by (with_reducible repeat (first | apply Kd.R_alloc | apply Kd.R_drewN | apply Kd.R_drew)); exact Kd.R_mono a6.out (fun _ hk => ⟨trivial, hk⟩)) hg hat); replace HB := az hb; clear a7 ho hb hg hat) | (go_quiet (fail)))
      go_roundg k1
      case measure => have := aR.out; omega
      exact ⟨(bU), (a3), (wrap64 (a2 + 1)), qG, H', ⟨by have := aR.out; omega⟩, ⟨qR cB⟩, ⟨by (with_reducible repeat (first | apply Kd.R_alloc | apply Kd.R_drewN | apply Kd.R_drew)); exact Kd.R_mono a6.out (fun _ hk => hk.2)⟩, ⟨qL HB⟩⟩
    case L6 =>
      go_wp2
      repeat (go_quiet (fail); try go_wp2)
      go_loopg [8, 9] k1 (fun kq v8 v9 w' => ∃ (aD : Int) (a4 : Int), v8 = .int .i64 aD ∧ v9 = .int .i64 a4 ∧ Aside0 (spec_l7Number.l1 kq l0 l1 a8 a3 a2 aD a4 = some r) ∧ Aside0 (kq ≤ k1) ∧ Aside0 (Kd.R (Kd.int .i64) 3 w' w.heap.size (fun k_ => some k_ ≠ (u6 : Value).ownBlock) u5 a8) ∧ Aside0 (Kd.R (Kd.int .i64) 3 w' w.heap.size (fun k_ => some k_ ≠ (u5 : Value).ownBlock) u6 a3) ∧ Aside0 (Below w.heap.size w w'))
      case atStart => exact ⟨((-1)), (0), qG, qG, H', ⟨Nat.le_refl _⟩, ⟨qR a7⟩, ⟨qR a6⟩, ⟨qL HB⟩⟩
      case round =>
        clear H'; (try clear c1); (try clear aE); (try clear b2); (try clear a9); (try clear aU); (try clear aA); (try clear b3); (try clear b4); obtain ⟨aD, a4, rfl, rfl, HA, aZ, a7, a6, HB⟩ := hrel
        cases gk with
        | zero => exact absurd HA.out (by simp [spec_l7Number.l1])
        | succ k2 => ?_
        have H := HA.out; clear HA; simp only [spec_l7Number.l1] at H; by_cases aJ : a4 < (a3.length : Int); rw [if_pos aJ] at H; have bY : decide (a4 < (a3.length : Int)) = true := decide_eq_true aJ; clear aJ; replace H := qif H; obtain ⟨bV, H⟩ := H; have cL : decide (0 ≤ a4) = true := decide_eq_true bV; clear bV; replace H := qif H; obtain ⟨a9, H⟩ := H; have aU : decide (0 ≤ a2) = true := decide_eq_true a9; clear a9; replace H := qif H; obtain ⟨aT, H⟩ := H; have bZ : decide (a2 < (l1.length : Int)) = true := decide_eq_true aT; clear aT; by_cases aG : (rd a3 a4) = (rd l1 a2); rw [if_pos aG] at H; have c2 : ((rd a3 a4) == (rd l1 a2)) = true := beq_iff_eq.mpr aG; have c3 : ((rd a3 a4) != (rd l1 a2)) = false := bne_eq_false_iff_eq.mpr aG; clear aG; have H' := az H; clear H; refine ?L2; rotate_left; rw [if_neg aG] at H; have c2 : ((rd a3 a4) == (rd l1 a2)) = false := beq_eq_false_iff_ne.mpr aG; have c3 : ((rd a3 a4) != (rd l1 a2)) = true := bne_iff_ne.mpr aG; have H' := az H; clear H; refine ?L3
        rotate_right
        rotate_left 2
        rw [if_neg aJ] at H; have bY : decide (a4 < (a3.length : Int)) = false := decide_eq_false aJ; clear aJ; by_cases aK : aD < 0; rw [if_pos aK] at H; have c4 : decide (aD < 0) = true := decide_eq_true aK; clear aK; replace H := qif H; obtain ⟨a9, H⟩ := H; have aU : decide (0 ≤ a2) = true := decide_eq_true a9; clear a9; replace H := qif H; obtain ⟨aT, H⟩ := H; have bZ : decide (a2 < (l1.length : Int)) = true := decide_eq_true aT; clear aT; replace H := qif H; obtain ⟨bW, H⟩ := H; have LMc7009 := az bW; clear bW; obtain ⟨aM, a5⟩ : ∃ y_ : List Int, y_ = (a3 ++ [rd l1 a2]) := ⟨_, rfl⟩
        replace H : (if a8.length < 17592186044416 then (spec_l7Number.l0 k2 l0 l1 (a8 ++ [(a3.length : Int)]) aM (wrap64 (a2 + 1))) else (none)) = some r := by first | (rw [a5]; with_reducible exact H) | (have H2_ := (Option.bind_some _ _).symm.trans H; rw [a5]; with_reducible exact H2_) | (have H2_ := (Option.bind_some _ _).symm.trans H; with_reducible exact H2_) | with_reducible exact H | (rw [a5]; exact H) | exact H
        have b0 := az a5; clear a5; replace H := qif H; obtain ⟨aC, H⟩ := H; have LMc7003 := az aC; clear aC; obtain ⟨bX, aI⟩ : ∃ y_ : List Int, y_ = (a8 ++ [(a3.length : Int)]) := ⟨_, rfl⟩
        replace H : (spec_l7Number.l0 k2 l0 l1 bX aM (wrap64 (a2 + 1))) = some r := by first | (rw [aI]; with_reducible exact H) | (have H2_ := (Option.bind_some _ _).symm.trans H; rw [aI]; with_reducible exact H2_) | (have H2_ := (Option.bind_some _ _).symm.trans H; with_reducible exact H2_) | with_reducible exact H | (rw [aI]; exact H) | exact H
        have c7 := az aI; clear aI; have H' := az H; clear H; refine ?L4; rotate_left; rw [if_neg aK] at H; have c4 : decide (aD < 0) = false := decide_eq_false aK; clear aK; replace H := qif H; obtain ⟨aC, H⟩ := H; have LMc7003 := az aC; clear aC; obtain ⟨aM, a5⟩ : ∃ y_ : List Int, y_ = (a8 ++ [aD]) := ⟨_, rfl⟩
        replace H : (spec_l7Number.l0 k2 l0 l1 aM a3 (wrap64 (a2 + 1))) = some r := by first | (rw [a5]; with_reducible exact H) | (have H2_ := (Option.bind_some _ _).symm.trans H; rw [a5]; with_reducible exact H2_) | (have H2_ := (Option.bind_some _ _).symm.trans H; with_reducible exact H2_) | with_reducible exact H | (rw [a5]; exact H) | exact H
        have b0 := az a5; clear a5; have H' := az H; clear H; refine ?L5
        rotate_right
        rotate_right 2
        case' L2 | L3 | L4 | L5 =>
          obtain ⟨c8, c9, cG⟩ := Kd.R_slice a6.out; subst cG
        case' L2 | L3 =>
          have bL : 0 ≤ (a4 : Int) := qD; have bM : a4 < (a3.length : Int) := qD; obtain ⟨cO, cH, cM⟩ := Kd.at_int (Kd.R_reads' a6.out).2.2 a4 bL bM; cases cH; replace bL := eq_true bL; replace bM := eq_true bM; have bN : 0 ≤ (a2 : Int) := qD; have bO : a2 < (l1.length : Int) := qD; obtain ⟨cP, cI, bF⟩ := Kd.at_int HR1.out a2 bN bO; cases cI; replace bF := hB HB bF; replace bN := eq_true bN; replace bO := eq_true bO; go_wp2
          repeat (go_quiet (fail); try go_wp2)
          go_roundg k2
          case measure => have := aR.out; have := aZ.out; omega
        case L2 =>
          exact ⟨(a4), (wrap64 (a4 + 1)), qG, qG, H', ⟨by have := aR.out; have := aZ.out; omega⟩, ⟨qR a7⟩, ⟨qR a6⟩, ⟨qL HB⟩⟩
        case L3 =>
          exact ⟨(aD), (wrap64 (a4 + 1)), qG, qG, H', ⟨by have := aR.out; have := aZ.out; omega⟩, ⟨qR a7⟩, ⟨qR a6⟩, ⟨qL HB⟩⟩
        case L4 =>
          have bP : 0 ≤ (a2 : Int) := qD; have bQ : a2 < (l1.length : Int) := qD; obtain ⟨cQ, cJ, bG⟩ := Kd.at_int HR1.out a2 bP bQ; cases cJ; replace bG := hB HB bG; replace bP := eq_true bP; replace bQ := eq_true bQ; go_wp2_with (first | ((with_reducible refine gate_builtin (b := .append) (xs := #[.tmp 47, .tmp 52]) rfl ?_); at_builtin; refine Kd.R_append (Kd.int .i64) (w0 := w) w.heap.size rfl (.tmp 47) (.tmp 52) 25 3 (.int .i64 0) 8 rfl Try.underlying25 info3 rfl (by decide) (by omega) (.slice c8 a3.length c9) a3 (rd l1 a2) [.int .i64 (rd l1 a2)] (fun k_ => some k_ ≠ (u5 : Value).ownBlock) (fun _ => False) rfl rfl ?aP (fun _ hk => hk.elim) ?aF ?aO ?aB ?aS ?aL ?_; (case aP => exact rfl); (case aB => exact (qL HB)); (case aF => exact (fun k_ hk => Kd.fresh' (Kd.R_lt (qR a7)) k_ hk)); (case aO => exact (qR a6)); (case aS => exact (below_size (qL HB))); (case aL => have := LMc7009.out; omega); intro cK cZ ho hb hg hat; rw [← b0.out] at ho; have aW := az (ho); replace a7 := az (Kd.R_after (ok := (fun _ => True)) (by (with_reducible repeat (first | apply Kd.R_alloc | apply Kd.R_drewN | apply Kd.R_drew)); exact Kd.R_mono a7.out (fun _ hk => ⟨trivial, hk⟩)) hg hat); replace HB := az hb; clear a6 ho hb hg hat) | ((with_reducible refine gate_builtin (b := .append) (xs := #[.tmp 54, .tmp 56]) rfl ?_); at_builtin; refine Kd.R_append (Kd.int .i64) (w0 := w) w.heap.size rfl (.tmp 54) (.tmp 56) 25 3 (.int .i64 0) 8 rfl Try.underlying25 info3 rfl (by decide) (by omega) u5 a8 (a3.length : Int) [.int .i64 (a3.length : Int)] (fun k_ => some k_ ≠ (cK : Value).ownBlock) (fun _ => False) rfl rfl ?aP (fun _ hk => hk.elim) ?aF ?aO ?aB ?aS ?aL ?_; (case aP => exact rfl); (case aB => exact (qL HB)); (case aF => exact (fun k_ hk => Kd.fresh' (Kd.R_lt (qR aW)) k_ hk)); (case aO => exact (by (with_reducible repeat (first | apply Kd.R_alloc | apply Kd.R_drewN | apply Kd.R_drew)); exact Kd.R_mono a7.out (fun _ hk => hk.2))); (case aS => exact (below_size (qL HB))); (case aL => have := LMc7003.out; omega); intro cU dA ho hb hg hat; rw [← c7.out] at ho; have cC := az (ho); replace aW := az (Kd.R_after (ok := (fun _ => True)) (by (with_reducible repeat (first | apply Kd.R_alloc | apply Kd.R_drewN | apply Kd.R_drew)); exact Kd.R_mono aW.out (fun _ hk => ⟨trivial, hk⟩)) hg hat); replace HB := az hb; clear a7 ho hb hg hat) | (go_quiet (fail)))
          go_roundg k2
          case measure => have := aR.out; have := aZ.out; omega
          exact ⟨(bX), (aM), (wrap64 (a2 + 1)), qG, H', ⟨by have := aR.out; have := aZ.out; omega⟩, ⟨qR cC⟩, ⟨by (with_reducible repeat (first | apply Kd.R_alloc | apply Kd.R_drewN | apply Kd.R_drew)); exact Kd.R_mono aW.out (fun _ hk => hk.2)⟩, ⟨qL HB⟩⟩
        case L5 =>
          go_wp2_with (first | ((with_reducible refine gate_builtin (b := .append) (xs := #[.tmp 54, .tmp 56]) rfl ?_); at_builtin; refine Kd.R_append (Kd.int .i64) (w0 := w) w.heap.size rfl (.tmp 54) (.tmp 56) 25 3 (.int .i64 0) 8 rfl Try.underlying25 info3 rfl (by decide) (by omega) u5 a8 aD [.int .i64 aD] (fun k_ => some k_ ≠ (.slice c8 a3.length c9 : Value).ownBlock) (fun _ => False) rfl rfl ?aP (fun _ hk => hk.elim) ?aF ?aO ?aB ?aS ?aL ?_; (case aP => exact rfl); (case aB => exact (qL HB)); (case aF => exact (fun k_ hk => Kd.fresh' (Kd.R_lt (qR a6)) k_ hk)); (case aO => exact (qR a7)); (case aS => exact (below_size (qL HB))); (case aL => have := LMc7003.out; omega); intro cV dB ho hb hg hat; rw [← b0.out] at ho; have cD := az (ho); replace a6 := az (Kd.R_after (ok := (fun _ => True)) (by (with_reducible repeat (first | apply Kd.R_alloc | apply Kd.R_drewN | apply Kd.R_drew)); exact Kd.R_mono a6.out (fun _ hk => ⟨trivial, hk⟩)) hg hat); replace HB := az hb; clear a7 ho hb hg hat) | (go_quiet (fail)))
          go_roundg k2
          case measure => have := aR.out; have := aZ.out; omega
          exact ⟨(aM), (a3), (wrap64 (a2 + 1)), qG, H', ⟨by have := aR.out; have := aZ.out; omega⟩, ⟨qR cD⟩, ⟨by (with_reducible repeat (first | apply Kd.R_alloc | apply Kd.R_drewN | apply Kd.R_drew)); exact Kd.R_mono a6.out (fun _ hk => hk.2)⟩, ⟨qL HB⟩⟩
    case L7 =>
      go_wp2
      repeat (go_quiet (fail); try go_wp2)
      go_ret
      exact ⟨_, qE, by (with_reducible repeat (first | apply Kd.R_alloc | apply Kd.R_drewN | apply Kd.R_drew)); exact Kd.R_mono a7.out (fun _ hk => trivial), qL HB⟩
      

/-! ### spec_l7Groups: function 52 -/
mutual
def spec_l7Groups.l0 : Nat → List (S41) → List (S37) → List Int → Int → Option (List Int)
  | 0, _, _, _, _ => none
  | k + 1, x0, x1, x5, x6 => if x6 < (x0.length : Int) then (if x5.length < 17592186044416 then (spec_l7Groups.l0 k x0 x1 (x5 ++ [x6]) (wrap64 (x6 + 1))) else (none)) else (spec_l7Groups.l1 k x0 x1 x5 0)
def spec_l7Groups.l1 : Nat → List (S41) → List (S37) → List Int → Int → Option (List Int)
  | 0, _, _, _, _ => none
  | k + 1, x0, x1, x5, x7 => if x7 < (x0.length : Int) then (spec_l7Groups.l2 k x0 x1 x5 x7 0) else ((spec_l7Number.f k x0 x5).bind fun eC => (some eC))
def spec_l7Groups.l2 : Nat → List (S41) → List (S37) → List Int → Int → Int → Option (List Int)
  | 0, _, _, _, _, _ => none
  | k + 1, x0, x1, x5, x7, x8 => if x8 < (x1.length : Int) then (if 0 ≤ x8 then (if 0 ≤ ((rd_T37 x1 x8).f0) then (if ((rd_T37 x1 x8).f0) < (x0.length : Int) then (if ((rd_T41 x0 ((rd_T37 x1 x8).f0)).f4) = 0 then (spec_l7Groups.l2 k x0 x1 x5 x7 (wrap64 (x8 + 1))) else (if 0 ≤ ((rd_T37 x1 x8).f1) then (if ((rd_T37 x1 x8).f1) < (x0.length : Int) then (if ((rd_T41 x0 ((rd_T37 x1 x8).f1)).f4) = 0 then (spec_l7Groups.l2 k x0 x1 x5 x7 (wrap64 (x8 + 1))) else (if ((rd_T37 x1 x8).f0) < (x5.length : Int) then (if ((rd_T37 x1 x8).f1) < (x5.length : Int) then ((spec_l3Less.f (rd x5 ((rd_T37 x1 x8).f0)) (rd x5 ((rd_T37 x1 x8).f1))).bind fun dR => (spec_l7Groups.l2 k x0 x1 ((x5.set (((rd_T37 x1 x8).f0) : Int).toNat dR).set (((rd_T37 x1 x8).f1) : Int).toNat dR) x7 (wrap64 (x8 + 1)))) else (none)) else (none))) else (none)) else (none))) else (none)) else (none)) else (none)) else (spec_l7Groups.l1 k x0 x1 x5 (wrap64 (x7 + 1)))
end
def spec_l7Groups.f (k : Nat) (l0 : List (S41)) (l1 : List (S37)) : Option (List Int) := spec_l7Groups.l0 k l0 l1 (([] : List Int)) 0
theorem spec_l7Groups.mono_l : ∀ k, (∀ y0 y1 y2 y3, LeO (spec_l7Groups.l0 k y0 y1 y2 y3) (spec_l7Groups.l0 (k + 1) y0 y1 y2 y3)) ∧ (∀ y0 y1 y2 y3, LeO (spec_l7Groups.l1 k y0 y1 y2 y3) (spec_l7Groups.l1 (k + 1) y0 y1 y2 y3)) ∧ (∀ y0 y1 y2 y3 y4, LeO (spec_l7Groups.l2 k y0 y1 y2 y3 y4) (spec_l7Groups.l2 (k + 1) y0 y1 y2 y3 y4))
  | 0 => ⟨fun _ _ _ _ r h => by simp [spec_l7Groups.l0] at h, fun _ _ _ _ r h => by simp [spec_l7Groups.l1] at h, fun _ _ _ _ _ r h => by simp [spec_l7Groups.l2] at h⟩
  | k + 1 => by
    obtain ⟨ih0, ih1, ih2⟩ := spec_l7Groups.mono_l k
    refine ⟨?_, ?_, ?_⟩
    · intro y0 y1 y2 y3
      unfold spec_l7Groups.l0
      repeat' first
      | (with_reducible exact ih0 _ _ _ _)
      | (with_reducible exact ih1 _ _ _ _)
      | (with_reducible exact ih2 _ _ _ _ _)
      | (with_reducible exact spec_l7Number.mono _ _ _)
      | (with_reducible exact LeO.refl _)
      | (with_reducible exact LeO.none _)
      | (with_reducible refine LeO.ite ?_ ?_)
      | (with_reducible refine LeO.bind ?_ (fun _ => ?_))
    · intro y0 y1 y2 y3
      unfold spec_l7Groups.l1
      repeat' first
      | (with_reducible exact ih0 _ _ _ _)
      | (with_reducible exact ih1 _ _ _ _)
      | (with_reducible exact ih2 _ _ _ _ _)
      | (with_reducible exact spec_l7Number.mono _ _ _)
      | (with_reducible exact LeO.refl _)
      | (with_reducible exact LeO.none _)
      | (with_reducible refine LeO.ite ?_ ?_)
      | (with_reducible refine LeO.bind ?_ (fun _ => ?_))
    · intro y0 y1 y2 y3 y4
      unfold spec_l7Groups.l2
      repeat' first
      | (with_reducible exact ih0 _ _ _ _)
      | (with_reducible exact ih1 _ _ _ _)
      | (with_reducible exact ih2 _ _ _ _ _)
      | (with_reducible exact spec_l7Number.mono _ _ _)
      | (with_reducible exact LeO.refl _)
      | (with_reducible exact LeO.none _)
      | (with_reducible refine LeO.ite ?_ ?_)
      | (with_reducible refine LeO.bind ?_ (fun _ => ?_))
theorem spec_l7Groups.mono : ∀ a0 a1 k, LeO (spec_l7Groups.f k a0 a1) (spec_l7Groups.f (k + 1) a0 a1) := by
  intro a0 a1 k
  obtain ⟨ih0, ih1, ih2⟩ := spec_l7Groups.mono_l k
  unfold spec_l7Groups.f
  repeat' first
      | (with_reducible exact ih0 _ _ _ _)
      | (with_reducible exact ih1 _ _ _ _)
      | (with_reducible exact ih2 _ _ _ _ _)
      | (with_reducible exact spec_l7Number.mono _ _ _)
      | (with_reducible exact LeO.refl _)
      | (with_reducible exact LeO.none _)
      | (with_reducible refine LeO.ite ?_ ?_)
      | (with_reducible refine LeO.bind ?_ (fun _ => ?_))
set_option maxHeartbeats 8000000 in
set_option maxRecDepth 100000 in
theorem spec_l7Groups.calls (k : Nat) (A0 : Option Addr) (c0 : Nat) (l0 : List (S41)) (A1 : Option Addr) (c1 : Nat) (l1 : List (S37)) (r : List Int) (w : World) (hr0 : Kd.C k41 w A0 l0.length l0) (hc0 : l0.length ≤ c0) (hr1 : Kd.C k37 w A1 l1.length l1) (hc1 : l1.length ≤ c1) (h : spec_l7Groups.f k l0 l1 = some r) :
    Calls Try.prog 52 #[.slice A0 l0.length c0, .slice A1 l1.length c1] w fun e w' => ∃ eA : Value, e = .returned (eA) ∧ Kd.R (Kd.int .i64) 3 w' w.heap.size (fun _ => True) eA r ∧ Below w.heap.size w w' := by
  have hu37 := Try.underlying37; have HR0 := az hr0; have gT := az hc0; clear hr0 hc0; have HR1 := az hr1; have hF := az hc1; clear hr1 hc1; have HB := az (Below.refl w.heap.size w); have H : (spec_l7Groups.l0 k l0 l1 (([] : List Int)) 0) = some r := h; clear h; obtain ⟨dS, bL⟩ : ∃ y_ : List Int, y_ = (([] : List Int)) := ⟨_, rfl⟩
  replace H : (spec_l7Groups.l0 k l0 l1 dS 0) = some r := by first | (rw [bL]; with_reducible exact H) | (have H2_ := (Option.bind_some _ _).symm.trans H; rw [bL]; with_reducible exact H2_) | (have H2_ := (Option.bind_some _ _).symm.trans H; with_reducible exact H2_) | with_reducible exact H | (rw [bL]; exact H) | exact H
  have cO := az bL; clear bL; have H' := az H; clear H; go_enter Try.func52, Try.ntmps52; go_wp2_with (first | ((with_reducible refine gate_dst (N := 11) rfl ?_); refine Kd.R_lit (Kd.int .i64) _ 3 ?hg (N := 11) ?hd (xs := ([] : List Int)) (inner := []) (ok := fun _ => True) (okp := fun _ => True) ?hr ?hp (fun _ hk => hk) trivial (Below.refl _ _) (Nat.le_refl _) (by simp) ?_; (case hd => rfl); (case hg => rfl); (case hr => first | (go_simp; done) | (go_simp; rfl)); (case hp => exact (Reps.none _ _)); intro gX w3 cD hb hg_ hnew_; clear hg_ hnew_; (first | rw [← cO.out] at cD | (simp only [Int.reduceToNat] at cD; rw [← cO.out] at cD)); have e2 := az (Kd.R_lower cD (below_size (qL HB))); replace HB := bS HB hb; clear hb cD) | (go_quiet (fail)))
  go_loopg [5, 6] k (fun kq v5 v6 w' => ∃ (bM : List Int) (b2 : Int), v6 = .int .i64 b2 ∧ Aside0 (spec_l7Groups.l0 kq l0 l1 bM b2 = some r) ∧ Aside0 (kq ≤ k) ∧ Aside0 (Kd.R (Kd.int .i64) 3 w' w.heap.size (fun _ => True) v5 bM) ∧ Aside0 (Below w.heap.size w w'))
  case atStart => exact ⟨(dS), (0), qG, H', ⟨Nat.le_refl _⟩, ⟨qR e2⟩, ⟨qL HB⟩⟩
  case round =>
    clear H'; (try clear c1); obtain ⟨bM, b2, rfl, HA, bH, a4, HB⟩ := hrel
    cases gk with
    | zero => exact absurd HA.out (by simp [spec_l7Groups.l0])
    | succ k1 => ?_
    have H := HA.out; clear HA; simp only [spec_l7Groups.l0] at H; by_cases b5 : b2 < (l0.length : Int); rw [if_pos b5] at H; have bN : decide (b2 < (l0.length : Int)) = true := decide_eq_true b5; clear b5; replace H := qif H; obtain ⟨cP, H⟩ := H; have LMc7001 := az cP; clear cP; obtain ⟨cQ, bD⟩ : ∃ y_ : List Int, y_ = (bM ++ [b2]) := ⟨_, rfl⟩
    replace H : (spec_l7Groups.l0 k1 l0 l1 cQ (wrap64 (b2 + 1))) = some r := by first | (rw [bD]; with_reducible exact H) | (have H2_ := (Option.bind_some _ _).symm.trans H; rw [bD]; with_reducible exact H2_) | (have H2_ := (Option.bind_some _ _).symm.trans H; with_reducible exact H2_) | with_reducible exact H | (rw [bD]; exact H) | exact H
    have dT := az bD; clear bD; have H' := az H; clear H; refine ?L1; rotate_left; rw [if_neg b5] at H; have bN : decide (b2 < (l0.length : Int)) = false := decide_eq_false b5; clear b5; have H' := az H; clear H; refine ?L8
    rotate_right
    case L1 =>
      go_wp2_with (first | ((with_reducible refine gate_builtin (b := .append) (xs := #[.tmp 18, .tmp 20]) rfl ?_); at_builtin; refine Kd.R_append (Kd.int .i64) (w0 := w) w.heap.size rfl (.tmp 18) (.tmp 20) 25 3 (.int .i64 0) 8 rfl Try.underlying25 info3 rfl (by decide) (by omega) u5 bM b2 [.int .i64 b2] (fun _ => True) (fun _ => False) rfl rfl ?aP (fun _ hk => hk.elim) ?aF ?aO ?aB ?aS ?aL ?_; (case aP => exact rfl); (case aB => exact (qL HB)); (case aF => exact (fun _ _ => trivial)); (case aO => exact (qR a4)); (case aS => exact (below_size (qL HB))); (case aL => have := LMc7001.out; omega); intro gY w7 ho hb hg hat; rw [← dT.out] at ho; have e3 := az (ho); replace HB := az hb; clear a4 ho hb hg hat) | (go_quiet (fail)))
      go_roundg k1
      case measure => have := bH.out; omega
      exact ⟨(cQ), (wrap64 (b2 + 1)), qG, H', ⟨by have := bH.out; omega⟩, ⟨qR e3⟩, ⟨qL HB⟩⟩
    case L8 =>
      go_wp2
      repeat (go_quiet (fail); try go_wp2)
      go_loopg [7] k1 (fun kq v7 w' => ∃ (bT : List Int) (b7 : Int), v7 = .int .i64 b7 ∧ Aside0 (spec_l7Groups.l1 kq l0 l1 bT b7 = some r) ∧ Aside0 (kq ≤ k1) ∧ Aside0 (Kd.R (Kd.int .i64) 3 w' w.heap.size (fun _ => True) u5 bT) ∧ Aside0 (Below w.heap.size w w'))
      case atStart => exact ⟨(bM), (0), qG, H', ⟨Nat.le_refl _⟩, ⟨qR a4⟩, ⟨qL HB⟩⟩
      case round =>
        clear H'; (try clear c1); (try clear b5); (try clear bN); obtain ⟨bT, b7, rfl, HA, bO, a4, HB⟩ := hrel
        cases gk with
        | zero => exact absurd HA.out (by simp [spec_l7Groups.l1])
        | succ k2 => ?_
        have H := HA.out; clear HA; simp only [spec_l7Groups.l1] at H; by_cases b9 : b7 < (l0.length : Int); rw [if_pos b9] at H; have bZ : decide (b7 < (l0.length : Int)) = true := decide_eq_true b9; clear b9; have H' := az H; clear H; refine ?L6; rotate_left; rw [if_neg b9] at H; have bZ : decide (b7 < (l0.length : Int)) = false := decide_eq_false b9; clear b9; replace H := qH H; obtain ⟨e4, e5, H⟩ := H
        try dsimp only at H
        obtain rfl := Option.some.inj H; refine ?L7
        rotate_right
        case L6 =>
          go_wp2
          repeat (go_quiet (fail); try go_wp2)
          go_loopg [8] k2 (fun kq v8 w' => ∃ (aK : List Int) (a2 : Int), v8 = .int .i64 a2 ∧ Aside0 (spec_l7Groups.l2 kq l0 l1 aK b7 a2 = some r) ∧ Aside0 (kq ≤ k2) ∧ Aside0 (Kd.R (Kd.int .i64) 3 w' w.heap.size (fun _ => True) u5 aK) ∧ Aside0 (Below w.heap.size w w'))
          case atStart => exact ⟨(bT), (0), qG, H', ⟨Nat.le_refl _⟩, ⟨qR a4⟩, ⟨qL HB⟩⟩
          case round =>
            clear H'; (try clear c1); (try clear b5); (try clear bN); (try clear b9); (try clear bZ); obtain ⟨aK, a2, rfl, HA, bP, a4, HB⟩ := hrel
            cases gk with
            | zero => exact absurd HA.out (by simp [spec_l7Groups.l2])
            | succ k3 => ?_
            have H := HA.out; clear HA; simp only [spec_l7Groups.l2] at H; by_cases bG : a2 < (l1.length : Int); rw [if_pos bG] at H; have dC : decide (a2 < (l1.length : Int)) = true := decide_eq_true bG; clear bG; replace H := qif H; obtain ⟨cR, H⟩ := H; have eL : decide (0 ≤ a2) = true := decide_eq_true cR; clear cR; replace H := qif H; obtain ⟨cS, H⟩ := H; have eM : decide (0 ≤ ((rd_T37 l1 a2).f0)) = true := decide_eq_true cS; clear cS; replace H := qif H; obtain ⟨cT, H⟩ := H; have eN : decide (((rd_T37 l1 a2).f0) < (l0.length : Int)) = true := decide_eq_true cT; clear cT; by_cases bA : ((rd_T41 l0 ((rd_T37 l1 a2).f0)).f4) = 0; rw [if_pos bA] at H; have dD : (((rd_T41 l0 ((rd_T37 l1 a2).f0)).f4) == 0) = true := beq_iff_eq.mpr bA; have dE : (((rd_T41 l0 ((rd_T37 l1 a2).f0)).f4) != 0) = false := bne_eq_false_iff_eq.mpr bA; clear bA; have H' := az H; clear H; refine ?L2; rotate_left; rw [if_neg bA] at H; have dD : (((rd_T41 l0 ((rd_T37 l1 a2).f0)).f4) == 0) = false := beq_eq_false_iff_ne.mpr bA; have dE : (((rd_T41 l0 ((rd_T37 l1 a2).f0)).f4) != 0) = true := bne_iff_ne.mpr bA; replace H := qif H; obtain ⟨cU, H⟩ := H; have eO : decide (0 ≤ ((rd_T37 l1 a2).f1)) = true := decide_eq_true cU; clear cU; replace H := qif H; obtain ⟨cV, H⟩ := H; have eP : decide (((rd_T37 l1 a2).f1) < (l0.length : Int)) = true := decide_eq_true cV; clear cV; by_cases bB : ((rd_T41 l0 ((rd_T37 l1 a2).f1)).f4) = 0; rw [if_pos bB] at H; have dF : (((rd_T41 l0 ((rd_T37 l1 a2).f1)).f4) == 0) = true := beq_iff_eq.mpr bB; have dG : (((rd_T41 l0 ((rd_T37 l1 a2).f1)).f4) != 0) = false := bne_eq_false_iff_eq.mpr bB; clear bB; have H' := az H; clear H; refine ?L3; rotate_left; rw [if_neg bB] at H; have dF : (((rd_T41 l0 ((rd_T37 l1 a2).f1)).f4) == 0) = false := beq_eq_false_iff_ne.mpr bB; have dG : (((rd_T41 l0 ((rd_T37 l1 a2).f1)).f4) != 0) = true := bne_iff_ne.mpr bB; replace H := qif H; obtain ⟨cW, H⟩ := H; have eQ : decide (((rd_T37 l1 a2).f0) < (aK.length : Int)) = true := decide_eq_true cW; clear cW; replace H := qif H; obtain ⟨cX, H⟩ := H; have eR : decide (((rd_T37 l1 a2).f1) < (aK.length : Int)) = true := decide_eq_true cX; clear cX; replace H := qH H; obtain ⟨aR, cY, H⟩ := H
            try dsimp only at H
            obtain ⟨cA, bE⟩ : ∃ y_ : List Int, y_ = (aK.set (((rd_T37 l1 a2).f0) : Int).toNat aR) := ⟨_, rfl⟩
            replace H : (spec_l7Groups.l2 k3 l0 l1 (cA.set (((rd_T37 l1 a2).f1) : Int).toNat aR) b7 (wrap64 (a2 + 1))) = some r := by first | (rw [bE]; with_reducible exact H) | (have H2_ := (Option.bind_some _ _).symm.trans H; rw [bE]; with_reducible exact H2_) | (have H2_ := (Option.bind_some _ _).symm.trans H; with_reducible exact H2_) | with_reducible exact H | (rw [bE]; exact H) | exact H
            have dU := az bE; clear bE; obtain ⟨cB, bF⟩ : ∃ y_ : List Int, y_ = (cA.set (((rd_T37 l1 a2).f1) : Int).toNat aR) := ⟨_, rfl⟩
            replace H : (spec_l7Groups.l2 k3 l0 l1 cB b7 (wrap64 (a2 + 1))) = some r := by first | (rw [bF]; with_reducible exact H) | (have H2_ := (Option.bind_some _ _).symm.trans H; rw [bF]; with_reducible exact H2_) | (have H2_ := (Option.bind_some _ _).symm.trans H; with_reducible exact H2_) | with_reducible exact H | (rw [bF]; exact H) | exact H
            have dV := az bF; clear bF; have H' := az H; clear H; refine ?L4
            rotate_right
            rotate_right
            rotate_left 3
            rw [if_neg bG] at H; have dC : decide (a2 < (l1.length : Int)) = false := decide_eq_false bG; clear bG; have H' := az H; clear H; refine ?L5
            rotate_right 3
            case' L2 | L3 | L4 =>
              have cE : 0 ≤ (a2 : Int) := qD; have cF : a2 < (l1.length : Int) := qD; obtain ⟨gW, eD, c2, c3, c4, c5, c6⟩ := at_T37 HR1.out a2 cE cF; cases eD; obtain ⟨c2, c3, c4, c5, c6⟩ := hB5 HB c2 c3 c4 c5 c6; replace cE := eq_true cE; replace cF := eq_true cF
            case L2 =>
              go_wp2_with (first | ((with_reducible refine gate_dst (N := 9) rfl ?_); refine bz5 (N := 9) (t := 37) ?_; intro a3 hg gU hbox hb; have a5 := az hbox; have b6 := az ((gE hg (qL HB) : w.heap.size ≤ a3)); have cZ := b6; replace a4 := az (Kd.R_below (qR a4) hb); replace HB := bS HB hb; clear hb hbox hg; obtain ⟨eS, eT, eU, eV, eW⟩ := cz5 a5.out; obtain ⟨eX, eY, eZ, fA, fB⟩ := fz5 a5.out; have b3 : 0 ≤ (((rd_T37 l1 a2).f0) : Int) := qD; have b4 : ((rd_T37 l1 a2).f0) < (l0.length : Int) := qD; obtain ⟨bC, bU, a8, a9, aA, aC, aD, aE, aG, aH, aI, aJ, a6, a7⟩ := at_T41 HR0.out ((rd_T37 l1 a2).f0) b3 b4; cases bU; have b8 : bC.block ≠ a3 := Nat.ne_of_lt (Nat.lt_of_lt_of_le (by have := World.block_lt_of_cell? _ _ a8; first | rwa [add_block] at this | exact this) b6.out); obtain ⟨a8, a9, aA, aC, aD, aE, aG, aH, aI, aJ, a6, a7⟩ := hB12 HB a8 a9 aA aC aD aE aG aH aI aJ a6 a7; obtain ⟨a8, a9, aA, aC, aD, aE, aG, aH, aI, aJ, a6, a7⟩ := ff5x12 a3 (.int .i64 ((rd_T37 l1 a2).f0)) (.int .i64 ((rd_T37 l1 a2).f1)) (.int .i64 ((rd_T37 l1 a2).f2.f0.f0)) (.int .i64 ((rd_T37 l1 a2).f2.f0.f1)) (.int .i64 ((rd_T37 l1 a2).f2.f1)) (qN b8) a8 a9 aA aC aD aE aG aH aI aJ a6 a7; (try obtain ⟨dH, dI, dJ, dK, dL, dM, dN, dO, dP, dQ, cG, cH⟩ := yy12 (fun n_ => ((((((gU.drewN n_).setCell ⟨a3, 0, none⟩ (.int .i64 ((rd_T37 l1 a2).f0))).setCell ⟨a3, 1, none⟩ (.int .i64 ((rd_T37 l1 a2).f1))).setCell ⟨a3, 2, none⟩ (.int .i64 ((rd_T37 l1 a2).f2.f0.f0))).setCell ⟨a3, 3, none⟩ (.int .i64 ((rd_T37 l1 a2).f2.f0.f1))).setCell ⟨a3, 4, none⟩ (.int .i64 ((rd_T37 l1 a2).f2.f1)))) a8 a9 aA aC aD aE aG aH aI aJ a6 a7); clear b8; replace b3 := eq_true b3; replace b4 := eq_true b4) | (go_quiet (fail)))
              go_roundg k3
              case measure => have := bH.out; have := bO.out; have := bP.out; omega
              exact ⟨(aK), (wrap64 (a2 + 1)), qG, H', ⟨by have := bH.out; have := bO.out; have := bP.out; omega⟩, ⟨by (with_reducible repeat (first | apply Kd.R_alloc | apply Kd.R_drewN | apply Kd.R_drew)); exact Kd.R_mono (Kd.R_far (p := ⟨a3, 4, none⟩) (Kd.R_far (p := ⟨a3, 3, none⟩) (Kd.R_far (p := ⟨a3, 2, none⟩) (Kd.R_far (p := ⟨a3, 1, none⟩) (Kd.R_far (p := ⟨a3, 0, none⟩) (Kd.R_types a4.out a5.out (by decide)) (fun _ hk => hk.2) (.int .i64 ((rd_T37 l1 a2).f0))) (fun _ hk => hk.2) (.int .i64 ((rd_T37 l1 a2).f1))) (fun _ hk => hk.2) (.int .i64 ((rd_T37 l1 a2).f2.f0.f0))) (fun _ hk => hk.2) (.int .i64 ((rd_T37 l1 a2).f2.f0.f1))) (fun _ hk => hk.2) (.int .i64 ((rd_T37 l1 a2).f2.f1))) (fun _ hk => trivial)⟩, ⟨qL HB⟩⟩
            case L3 =>
              go_wp2_with (first | ((with_reducible refine gate_dst (N := 9) rfl ?_); refine bz5 (N := 9) (t := 37) ?_; intro a3 hg eB hbox hb; have a5 := az hbox; have b6 := az ((gE hg (qL HB) : w.heap.size ≤ a3)); have cZ := b6; replace a4 := az (Kd.R_below (qR a4) hb); replace HB := bS HB hb; clear hb hbox hg; obtain ⟨fC, fD, fE, fG, fH⟩ := cz5 a5.out; obtain ⟨fI, fJ, fK, fL, fM⟩ := fz5 a5.out; have b3 : 0 ≤ (((rd_T37 l1 a2).f0) : Int) := qD; have b4 : ((rd_T37 l1 a2).f0) < (l0.length : Int) := qD; obtain ⟨bC, bU, a8, a9, aA, aC, aD, aE, aG, aH, aI, aJ, a6, a7⟩ := at_T41 HR0.out ((rd_T37 l1 a2).f0) b3 b4; cases bU; have b8 : bC.block ≠ a3 := Nat.ne_of_lt (Nat.lt_of_lt_of_le (by have := World.block_lt_of_cell? _ _ a8; first | rwa [add_block] at this | exact this) b6.out); obtain ⟨a8, a9, aA, aC, aD, aE, aG, aH, aI, aJ, a6, a7⟩ := hB12 HB a8 a9 aA aC aD aE aG aH aI aJ a6 a7; obtain ⟨a8, a9, aA, aC, aD, aE, aG, aH, aI, aJ, a6, a7⟩ := ff5x12 a3 (.int .i64 ((rd_T37 l1 a2).f0)) (.int .i64 ((rd_T37 l1 a2).f1)) (.int .i64 ((rd_T37 l1 a2).f2.f0.f0)) (.int .i64 ((rd_T37 l1 a2).f2.f0.f1)) (.int .i64 ((rd_T37 l1 a2).f2.f1)) (qN b8) a8 a9 aA aC aD aE aG aH aI aJ a6 a7; (try obtain ⟨dH, dI, dJ, dK, dL, dM, dN, dO, dP, dQ, cG, cH⟩ := yy12 (fun n_ => ((((((eB.drewN n_).setCell ⟨a3, 0, none⟩ (.int .i64 ((rd_T37 l1 a2).f0))).setCell ⟨a3, 1, none⟩ (.int .i64 ((rd_T37 l1 a2).f1))).setCell ⟨a3, 2, none⟩ (.int .i64 ((rd_T37 l1 a2).f2.f0.f0))).setCell ⟨a3, 3, none⟩ (.int .i64 ((rd_T37 l1 a2).f2.f0.f1))).setCell ⟨a3, 4, none⟩ (.int .i64 ((rd_T37 l1 a2).f2.f1)))) a8 a9 aA aC aD aE aG aH aI aJ a6 a7); clear b8; replace b3 := eq_true b3; replace b4 := eq_true b4; have bI : 0 ≤ (((rd_T37 l1 a2).f1) : Int) := qD; have bJ : ((rd_T37 l1 a2).f1) < (l0.length : Int) := qD; obtain ⟨cC, cI, aQ, aT, aU, aV, aW, aX, aY, aZ, b0, b1, aM, aN⟩ := at_T41 HR0.out ((rd_T37 l1 a2).f1) bI bJ; obtain rfl : bC = cC := (by injection cI); have c7 : bC.block ≠ a3 := Nat.ne_of_lt (Nat.lt_of_lt_of_le (by have := World.block_lt_of_cell? _ _ aQ; first | rwa [add_block] at this | exact this) b6.out); obtain ⟨aQ, aT, aU, aV, aW, aX, aY, aZ, b0, b1, aM, aN⟩ := hB12 HB aQ aT aU aV aW aX aY aZ b0 b1 aM aN; obtain ⟨aQ, aT, aU, aV, aW, aX, aY, aZ, b0, b1, aM, aN⟩ := ff5x12 a3 (.int .i64 ((rd_T37 l1 a2).f0)) (.int .i64 ((rd_T37 l1 a2).f1)) (.int .i64 ((rd_T37 l1 a2).f2.f0.f0)) (.int .i64 ((rd_T37 l1 a2).f2.f0.f1)) (.int .i64 ((rd_T37 l1 a2).f2.f1)) (qN c7) aQ aT aU aV aW aX aY aZ b0 b1 aM aN; (try obtain ⟨fN, fO, fP, fQ, fR, fS, fT, fU, fV, fW, eE, eF⟩ := yy12 (fun n_ => ((((((eB.drewN n_).setCell ⟨a3, 0, none⟩ (.int .i64 ((rd_T37 l1 a2).f0))).setCell ⟨a3, 1, none⟩ (.int .i64 ((rd_T37 l1 a2).f1))).setCell ⟨a3, 2, none⟩ (.int .i64 ((rd_T37 l1 a2).f2.f0.f0))).setCell ⟨a3, 3, none⟩ (.int .i64 ((rd_T37 l1 a2).f2.f0.f1))).setCell ⟨a3, 4, none⟩ (.int .i64 ((rd_T37 l1 a2).f2.f1)))) aQ aT aU aV aW aX aY aZ b0 b1 aM aN); clear c7; replace bI := eq_true bI; replace bJ := eq_true bJ) | (go_quiet (fail)))
              go_roundg k3
              case measure => have := bH.out; have := bO.out; have := bP.out; omega
              exact ⟨(aK), (wrap64 (a2 + 1)), qG, H', ⟨by have := bH.out; have := bO.out; have := bP.out; omega⟩, ⟨by (with_reducible repeat (first | apply Kd.R_alloc | apply Kd.R_drewN | apply Kd.R_drew)); exact Kd.R_mono (Kd.R_far (p := ⟨a3, 4, none⟩) (Kd.R_far (p := ⟨a3, 3, none⟩) (Kd.R_far (p := ⟨a3, 2, none⟩) (Kd.R_far (p := ⟨a3, 1, none⟩) (Kd.R_far (p := ⟨a3, 0, none⟩) (Kd.R_types a4.out a5.out (by decide)) (fun _ hk => hk.2) (.int .i64 ((rd_T37 l1 a2).f0))) (fun _ hk => hk.2) (.int .i64 ((rd_T37 l1 a2).f1))) (fun _ hk => hk.2) (.int .i64 ((rd_T37 l1 a2).f2.f0.f0))) (fun _ hk => hk.2) (.int .i64 ((rd_T37 l1 a2).f2.f0.f1))) (fun _ hk => hk.2) (.int .i64 ((rd_T37 l1 a2).f2.f1))) (fun _ hk => trivial)⟩, ⟨qL HB⟩⟩
            case L4 =>
              go_wp2_with (first | ((with_reducible refine gate_dst (N := 9) rfl ?_); refine bz5 (N := 9) (t := 37) ?_; intro a3 hg dA hbox hb; have a5 := az hbox; have b6 := az ((gE hg (qL HB) : w.heap.size ≤ a3)); have cZ := b6; replace a4 := az (Kd.R_below (qR a4) hb); replace HB := bS HB hb; clear hb hbox hg; obtain ⟨fX, fY, fZ, g0, g1⟩ := cz5 a5.out; obtain ⟨g2, g3, g4, g5, g6⟩ := fz5 a5.out) | ((with_reducible refine gate_store (t := 37) (p := 9) rfl ?_); (try (rw [drewN_self dA]; generalize hq_ : World.drewN dA _ = dA; have n0_ := az (Kd.R_at hq_ a4.out); have n1_ := az (blk_at hq_ a5.out); have n2_ := az (below_at hq_ HB.out); clear hq_ a4 a5 HB; have a4 := n0_; have a5 := n1_; have HB := n2_; clear n0_ n1_ n2_)); refine store_event (t := 37) (p := 9) (v := ?vo_w28) (w1 := (((((dA.setCell ⟨a3, 0, none⟩ (.int .i64 ((rd_T37 l1 a2).f0))).setCell ⟨a3, 1, none⟩ (.int .i64 ((rd_T37 l1 a2).f1))).setCell ⟨a3, 2, none⟩ (.int .i64 ((rd_T37 l1 a2).f2.f0.f0))).setCell ⟨a3, 3, none⟩ (.int .i64 ((rd_T37 l1 a2).f2.f0.f1))).setCell ⟨a3, 4, none⟩ (.int .i64 ((rd_T37 l1 a2).f2.f1)))) ?hg ?ho ?hn ?hr ?_; (case ho => rfl); (case hg => rfl); (case hn => rfl); (case hr => first | (go_simp; done) | (go_simp; rfl)); intro bQ hw; have n0_ : Aside0 (Kd.R (Kd.int .i64) 3 bQ w.heap.size (fun _ => True) u5 aK) := ⟨(by rw [hw]; exact (by (with_reducible repeat (first | apply Kd.R_alloc | apply Kd.R_drewN | apply Kd.R_drew)); exact Kd.R_mono (Kd.R_far (p := ⟨a3, 4, none⟩) (Kd.R_far (p := ⟨a3, 3, none⟩) (Kd.R_far (p := ⟨a3, 2, none⟩) (Kd.R_far (p := ⟨a3, 1, none⟩) (Kd.R_far (p := ⟨a3, 0, none⟩) (Kd.R_types a4.out a5.out (by decide)) (fun _ hk => hk.2) (.int .i64 ((rd_T37 l1 a2).f0))) (fun _ hk => hk.2) (.int .i64 ((rd_T37 l1 a2).f1))) (fun _ hk => hk.2) (.int .i64 ((rd_T37 l1 a2).f2.f0.f0))) (fun _ hk => hk.2) (.int .i64 ((rd_T37 l1 a2).f2.f0.f1))) (fun _ hk => hk.2) (.int .i64 ((rd_T37 l1 a2).f2.f1))) (fun _ hk => trivial)))⟩; have n1_ : Aside0 (bQ.heap[a3]? = some (.cells #[.int .i64 ((rd_T37 l1 a2).f0), .int .i64 ((rd_T37 l1 a2).f1), .int .i64 ((rd_T37 l1 a2).f2.f0.f0), .int .i64 ((rd_T37 l1 a2).f2.f0.f1), .int .i64 ((rd_T37 l1 a2).f2.f1)] 37 (0, 0))) := ⟨(by rw [hw]; exact (qP a5))⟩; have n2_ : Aside0 (Below w.heap.size w bQ) := ⟨(by rw [hw]; exact (qL HB))⟩; clear hw a4 a5 HB; have a4 := n0_; have a5 := n1_; have HB := n2_; clear n0_ n1_ n2_; obtain ⟨g7, g8, g9, gA, gB⟩ := cz5 a5.out; obtain ⟨gC, gD, gF, gG, gH⟩ := fz5 a5.out; have b3 : 0 ≤ (((rd_T37 l1 a2).f0) : Int) := qD; have b4 : ((rd_T37 l1 a2).f0) < (l0.length : Int) := qD; obtain ⟨bC, bU, a8, a9, aA, aC, aD, aE, aG, aH, aI, aJ, a6, a7⟩ := at_T41 HR0.out ((rd_T37 l1 a2).f0) b3 b4; cases bU; obtain ⟨a8, a9, aA, aC, aD, aE, aG, aH, aI, aJ, a6, a7⟩ := hB12 HB a8 a9 aA aC aD aE aG aH aI aJ a6 a7; replace b3 := eq_true b3; replace b4 := eq_true b4; have bI : 0 ≤ (((rd_T37 l1 a2).f1) : Int) := qD; have bJ : ((rd_T37 l1 a2).f1) < (l0.length : Int) := qD; obtain ⟨cC, cI, aQ, aT, aU, aV, aW, aX, aY, aZ, b0, b1, aM, aN⟩ := at_T41 HR0.out ((rd_T37 l1 a2).f1) bI bJ; obtain rfl : bC = cC := (by injection cI); obtain ⟨aQ, aT, aU, aV, aW, aX, aY, aZ, b0, b1, aM, aN⟩ := hB12 HB aQ aT aU aV aW aX aY aZ b0 b1 aM aN; replace bI := eq_true bI; replace bJ := eq_true bJ; obtain ⟨gZ, dW, eG⟩ := Kd.R_slice a4.out; subst eG; have cJ : 0 ≤ (((rd_T37 l1 a2).f0) : Int) := qD; have cK : ((rd_T37 l1 a2).f0) < (aK.length : Int) := qD; obtain ⟨e6, eH, c8⟩ := Kd.at_int (Kd.R_reads' a4.out).2.2 ((rd_T37 l1 a2).f0) cJ cK; cases eH; replace cJ := eq_true cJ; replace cK := eq_true cK; have cL : 0 ≤ (((rd_T37 l1 a2).f1) : Int) := qD; have cM : ((rd_T37 l1 a2).f1) < (aK.length : Int) := qD; obtain ⟨e7, eI, c9⟩ := Kd.at_int (Kd.R_reads' a4.out).2.2 ((rd_T37 l1 a2).f1) cL cM; obtain rfl : e6 = e7 := (by injection eI); replace cL := eq_true cL; replace cM := eq_true cM) | (go_at_call 74; (with_reducible refine (spec_l3Less.calls (rd aK ((rd_T37 l1 a2).f0)) (rd aK ((rd_T37 l1 a2).f1)) aR _ cY.out).mono ?_); rintro e w' ⟨rfl, ⟨nd, rfl⟩⟩; (try first | exact ⟨rfl, _, World.drewN_drewN _ _ _⟩ | exact ⟨rfl, _, Eq.trans (World.drewN_drewN _ _ _) (congrArg (World.drewN _) (Nat.add_assoc _ _ _))⟩); have bV : 0 ≤ (((rd_T37 l1 a2).f0) : Int) := qD; have bW : (((rd_T37 l1 a2).f0) : Int) < ((aK.length : Int) : Int) := qD; obtain ⟨bK, eJ, bX, bY, cN, cl24, HG24⟩ := Kd.R_form a4.out (by omega); (first | cases bX | (injection bX with ea_ en_ ec_; (first | subst ea_ | (injection ea_ with ea_; subst ea_)); subst ec_; clear en_)); have GB24 := az bY; have GG24 := az HG24; clear bY cN HG24; (first | simp only [add_plain] at c8 | skip); (first | simp only [add_plain] at c9 | skip); obtain ⟨dX, hf24_0⟩ := Kd.R_celln 0 a4.out (((rd_T37 l1 a2).f0) : Int) bV bW; replace bV := eq_true bV; replace bW := eq_true bW; obtain ⟨dB, hz31_⟩ := Kd.R_celln 0 a4.out (((rd_T37 l1 a2).f0) : Int) (of_decide_eq_true (by first | (with_reducible assumption) | assumption)) (of_decide_eq_true (by first | (with_reducible assumption) | assumption)); have HP31 := Kd.R_putg a4.out (((rd_T37 l1 a2).f0) : Int) aR) | ((with_reducible refine gate_store (t := 3) (p := 69) rfl ?_); (try (rw [drewN_self bQ]; generalize hq_ : World.drewN bQ _ = bQ; have n0_ := az (Kd.R_at hq_ a4.out); have n1_ := az (blk_at hq_ a5.out); have n2_ := az (below_at hq_ HB.out); clear hq_ a4 a5 HB; have a4 := n0_; have a5 := n1_; have HB := n2_; clear n0_ n1_ n2_; (try (obtain ⟨dB, hz31_⟩ := Kd.R_celln 0 a4.out (((rd_T37 l1 a2).f0) : Int) (of_decide_eq_true (by first | (with_reducible assumption) | assumption)) (of_decide_eq_true (by first | (with_reducible assumption) | assumption)))); (try (have HP31 := Kd.R_putg a4.out (((rd_T37 l1 a2).f0) : Int) aR)))); refine store_event (t := 3) (p := 69) (v := ?vo_w32) (w1 := (bQ.setCell ⟨bK, (((rd_T37 l1 a2).f0) : Int).toNat, none⟩ (.int .i64 aR))) ?hg ?ho ?hn ?hr ?_; (case ho => rfl); (case hg => rfl); (case hn => rfl); (case hr => first | (go_simp; done) | (go_simp; rfl)); intro bR hw; have hg : bQ.grownBy bR (some bK) := (by rw [hw]; exact HP31.2); have hp_ : Kd.R (Kd.int .i64) 3 bR w.heap.size (fun _ => True) (.slice (some ⟨bK, 0, none⟩) aK.length dW) cA := (by rw [hw, dU.out]; exact HP31.1); clear HP31; replace a5 := az (blk_grown (g := a3) (o := .cells #[.int .i64 ((rd_T37 l1 a2).f0), .int .i64 ((rd_T37 l1 a2).f1), .int .i64 ((rd_T37 l1 a2).f2.f0.f0), .int .i64 ((rd_T37 l1 a2).f2.f0.f1), .int .i64 ((rd_T37 l1 a2).f2.f1)] 37 (0, 0)) (qB a5) hg (Kd.R_ne a4.out a5.out (by decide))); replace a4 := az (hp_); replace HB := az ((by rw [hw]; exact below_set (HB.out) GB24.out : Below w.heap.size w bR)); clear hg hw hp_; obtain ⟨gI, gJ, gL, gM, gN⟩ := cz5 a5.out; obtain ⟨gO, gP, gQ, gR, gS⟩ := fz5 a5.out; have dY : 0 ≤ (((rd_T37 l1 a2).f1) : Int) := qD; have dZ : (((rd_T37 l1 a2).f1) : Int) < ((aK.length : Int) : Int) := qD; obtain ⟨gV, hf25_0⟩ := Kd.R_celln 0 a4.out (((rd_T37 l1 a2).f1) : Int) dY dZ; replace dY := eq_true dY; replace dZ := eq_true dZ; obtain ⟨e8, hz34_⟩ := Kd.R_celln 0 a4.out (((rd_T37 l1 a2).f1) : Int) (of_decide_eq_true (by first | (with_reducible assumption) | assumption)) (of_decide_eq_true (by first | (with_reducible assumption) | assumption)); have HP34 := Kd.R_putg a4.out (((rd_T37 l1 a2).f1) : Int) aR) | ((with_reducible refine gate_store (t := 3) (p := 74) rfl ?_); (try (rw [drewN_self bR]; generalize hq_ : World.drewN bR _ = bR; have n0_ := az (Kd.R_at hq_ a4.out); have n1_ := az (blk_at hq_ a5.out); have n2_ := az (below_at hq_ HB.out); clear hq_ a4 a5 HB; have a4 := n0_; have a5 := n1_; have HB := n2_; clear n0_ n1_ n2_; (try (obtain ⟨e8, hz34_⟩ := Kd.R_celln 0 a4.out (((rd_T37 l1 a2).f1) : Int) (of_decide_eq_true (by first | (with_reducible assumption) | assumption)) (of_decide_eq_true (by first | (with_reducible assumption) | assumption)))); (try (have HP34 := Kd.R_putg a4.out (((rd_T37 l1 a2).f1) : Int) aR)))); refine store_event (t := 3) (p := 74) (v := ?vo_w35) (w1 := (bR.setCell ⟨bK, (((rd_T37 l1 a2).f1) : Int).toNat, none⟩ (.int .i64 aR))) ?hg ?ho ?hn ?hr ?_; (case ho => rfl); (case hg => rfl); (case hn => rfl); (case hr => first | (go_simp; done) | (go_simp; rfl)); intro e0 hw; have hg : bR.grownBy e0 (some bK) := (by rw [hw]; exact HP34.2); have hp_ : Kd.R (Kd.int .i64) 3 e0 w.heap.size (fun _ => True) (.slice (some ⟨bK, 0, none⟩) aK.length dW) cB := (by rw [hw, dV.out]; exact HP34.1); clear HP34; replace a5 := az (blk_grown (g := a3) (o := .cells #[.int .i64 ((rd_T37 l1 a2).f0), .int .i64 ((rd_T37 l1 a2).f1), .int .i64 ((rd_T37 l1 a2).f2.f0.f0), .int .i64 ((rd_T37 l1 a2).f2.f0.f1), .int .i64 ((rd_T37 l1 a2).f2.f1)] 37 (0, 0)) (qB a5) hg (Kd.R_ne a4.out a5.out (by decide))); replace a4 := az (hp_); replace HB := az ((by rw [hw]; exact below_set (HB.out) GB24.out : Below w.heap.size w e0)); clear hg hw hp_) | (go_quiet (first | (go_at_call 74; (with_reducible refine (spec_l3Less.calls (rd aK ((rd_T37 l1 a2).f0)) (rd aK ((rd_T37 l1 a2).f1)) aR _ cY.out).mono ?_); rintro e w' ⟨rfl, ⟨nd, rfl⟩⟩; (try first | exact ⟨rfl, _, World.drewN_drewN _ _ _⟩ | exact ⟨rfl, _, Eq.trans (World.drewN_drewN _ _ _) (congrArg (World.drewN _) (Nat.add_assoc _ _ _))⟩); have bV : 0 ≤ (((rd_T37 l1 a2).f0) : Int) := qD; have bW : (((rd_T37 l1 a2).f0) : Int) < ((aK.length : Int) : Int) := qD; obtain ⟨bK, eJ, bX, bY, cN, cl24, HG24⟩ := Kd.R_form a4.out (by omega); (first | cases bX | (injection bX with ea_ en_ ec_; (first | subst ea_ | (injection ea_ with ea_; subst ea_)); subst ec_; clear en_)); have GB24 := az bY; have GG24 := az HG24; clear bY cN HG24; (first | simp only [add_plain] at c8 | skip); (first | simp only [add_plain] at c9 | skip); obtain ⟨dX, hf24_0⟩ := Kd.R_celln 0 a4.out (((rd_T37 l1 a2).f0) : Int) bV bW; replace bV := eq_true bV; replace bW := eq_true bW; obtain ⟨dB, hz31_⟩ := Kd.R_celln 0 a4.out (((rd_T37 l1 a2).f0) : Int) (of_decide_eq_true (by first | (with_reducible assumption) | assumption)) (of_decide_eq_true (by first | (with_reducible assumption) | assumption)); have HP31 := Kd.R_putg a4.out (((rd_T37 l1 a2).f0) : Int) aR))))
              go_roundg k3
              case measure => have := bH.out; have := bO.out; have := bP.out; omega
              exact ⟨(cB), (wrap64 (a2 + 1)), qG, H', ⟨by have := bH.out; have := bO.out; have := bP.out; omega⟩, ⟨qR a4⟩, ⟨qL HB⟩⟩
            case L5 =>
              go_wp2
              repeat (go_quiet (fail); try go_wp2)
              go_roundg k3
              case measure => have := bH.out; have := bO.out; have := bP.out; omega
              exact ⟨(aK), (wrap64 (b7 + 1)), qG, H', ⟨by have := bH.out; have := bO.out; have := bP.out; omega⟩, ⟨qR a4⟩, ⟨qL HB⟩⟩
        case L7 =>
          obtain ⟨hA, hD, eK⟩ := Kd.R_slice a4.out; subst eK; go_wp2_with (first | (go_at_call 75; (with_reducible refine (spec_l7Number.calls k2 _ _ l0 _ _ bT e4 _ ?side1 ?side2 ?side3 ?side4 e5.out).mono ?_); (case side1 => repeat (first | exact (Kd.C_below HR0.out HB.out) | (with_reducible refine Kd.C_alloc ?_ _) | (with_reducible refine Kd.C_drewN ?_ _) | (with_reducible refine Kd.C_drew ?_))); (case side2 => exact gT.out); (case side3 => exact qC (Kd.R_reads' a4.out).2.2); (case side4 => exact (Kd.R_reads' a4.out).2.1); rintro e hG ⟨hE, rfl, e1, hb⟩; have e9 := az (Kd.R_lower (Kd.R_new' e1 (Kd.R_lt (qR a4))) (below_size (qL HB))); replace a4 := az (Kd.R_elder' (qR a4) (Kd.R_base e1) hb); replace HB := bS HB hb; clear hb; (try clear e1)) | (go_quiet (fail)))
          go_ret
          exact ⟨_, qE, by (with_reducible repeat (first | apply Kd.R_alloc | apply Kd.R_drewN | apply Kd.R_drew)); exact Kd.R_mono e9.out (fun _ hk => trivial), qL HB⟩
          

/-! ### spec_l2Square: function 122 -/
def spec_l2Square.f (a0 : Int) (a1 : Int) : Option (Int) := some (wrap64 ((wrap64 (a0 * a0)) + (wrap64 (a1 * a1))))
set_option maxHeartbeats 8000000 in
set_option maxRecDepth 100000 in
theorem spec_l2Square.calls (a0 : Int) (a1 : Int) (r : Int) (w : World) (h : spec_l2Square.f a0 a1 = some r) :
    Calls Try.prog 122 #[.agg #[.int .i64 a0, .int .i64 a1]] w fun e w' => e = .returned (.int .i64 r) ∧ Below w.heap.size w w' := by
  have hu33 := Try.underlying33; have HB := az (Below.refl w.heap.size w); have H : (some (wrap64 ((wrap64 (a0 * a0)) + (wrap64 (a1 * a1))))) = some r := h; clear h; obtain rfl := Option.some.inj H; go_enter Try.func122, Try.ntmps122; go_wp2_with (first | ((with_reducible refine gate_dst (N := 1) rfl ?_); refine bx (N := 1) (cs := #[.int .i64 a0, .int .i64 a1]) (t := 33) ?_; intro a3 hg w2 hbox hb; have a2 := az hbox; have a4 := az ((gE hg (qL HB) : w.heap.size ≤ a3)); have a9 := a4; replace HB := bS HB hb; clear hb hbox hg; obtain ⟨a5, a6⟩ := cz2 a2.out; have a7 := blk_frozen a2.out 0; have a8 := blk_frozen a2.out 1))
  go_ret
  exact ⟨qE, qL HB⟩

/-! ### spec_FixClamp: function 135 -/
def spec_FixClamp.f (a0 : Int) : Option (Int) := if a0 > 1000000000 then (some 1000000000) else (if a0 < (-1000000000) then (some (-1000000000)) else (some a0))
set_option maxHeartbeats 8000000 in
set_option maxRecDepth 100000 in
theorem spec_FixClamp.calls (a0 : Int) (r : Int) (w : World) (h : spec_FixClamp.f a0 = some r) :
    Calls Try.prog 135 #[.int .i64 a0] w fun e w' => e = .returned (.int .i64 r) ∧ Drawn0 w w' := by
  have H : (if a0 > 1000000000 then (some 1000000000) else (if a0 < (-1000000000) then (some (-1000000000)) else (some a0))) = some r := h; clear h; by_cases a1 : a0 > 1000000000; rw [if_pos a1] at H; have a3 : decide (1000000000 < a0) = true := decide_eq_true a1; clear a1; obtain rfl := Option.some.inj H; refine ?L1; rotate_left; rw [if_neg a1] at H; have a3 : decide (1000000000 < a0) = false := decide_eq_false a1; clear a1; by_cases a2 : a0 < (-1000000000); rw [if_pos a2] at H; have a4 : decide (a0 < (-1000000000)) = true := decide_eq_true a2; clear a2; obtain rfl := Option.some.inj H; refine ?L2; rotate_left; rw [if_neg a2] at H; have a4 : decide (a0 < (-1000000000)) = false := decide_eq_false a2; clear a2; obtain rfl := Option.some.inj H; refine ?L3
  rotate_right
  rotate_right
  case' L1 | L2 | L3 =>
    go_enter Try.func135, Try.ntmps135; go_wp2
    go_ret
  case' L1 | L2 =>
    exact ⟨by first | rfl | (simp; done) | (simp [*]; done), by repeat (first | exact Drawn0.refl _ | apply Drawn0.step)⟩
  case L3 =>
    exact ⟨by first | rfl | (simp; done) | (simp [*]; done), by repeat (first | exact Drawn0.refl _ | apply Drawn0.step)⟩
    

/-! ### spec_l2Clamp: function 134 -/
def spec_l2Clamp.f (a3 : Int) (a4 : Int) : Option (Int × Int) := (spec_FixClamp.f a3).bind fun a5 => ((spec_FixClamp.f a4).bind fun a6 => (some (a5, a6)))
def spec_l2Clamp.T1 : Bool × List (List Nat × List Nat) := (true, [([], []), ([0], [0]), ([1], [1]), ([], []), ([3], [3]), ([4, 2], [4]), ([2, 5], [2, 5]), ([6, 5, 0, 1, 2, 3, 4, 5, 6], [6])])
def spec_l2Clamp.B1 : List Nat := [0, 1, 3, 0, 8, 31, 63, 127]
theorem spec_l2Clamp.tab1 : rtab .any (opsOf Try.f134 1) = spec_l2Clamp.T1 := by kernel_rfl
theorem spec_l2Clamp.bits1 : waitsOk spec_l2Clamp.T1.2 spec_l2Clamp.B1 = true := by kernel_rfl
set_option maxHeartbeats 8000000 in
set_option maxRecDepth 100000 in
theorem spec_l2Clamp.calls (a3 : Int) (a4 : Int) (r1 : Int) (r2 : Int) (w : World) (h : spec_l2Clamp.f a3 a4 = some (r1, r2)) :
    Calls Try.prog 134 #[.agg #[.int .i64 a3, .int .i64 a4]] w fun e w' => e = .returned (.agg #[.int .i64 r1, .int .i64 r2]) ∧ Below w.heap.size w w' := by
  have hu33 := Try.underlying33; have HB := az (Below.refl w.heap.size w); have H : ((spec_FixClamp.f a3).bind fun a5 => ((spec_FixClamp.f a4).bind fun a6 => (some (a5, a6)))) = some (r1, r2) := h; clear h; replace H := qH H; obtain ⟨a5, A2, H⟩ := H
  try dsimp only at H
  replace H := qH H; obtain ⟨a6, A3, H⟩ := H
  try dsimp only at H
  simp only [Option.some.injEq, Prod.mk.injEq] at H; obtain ⟨rfl, rfl⟩ := H; go_enter Try.func134, Try.ntmps134
  try go_wp2_with (first | ((with_reducible refine gate_dst (N := 1) rfl ?_); refine bx (N := 1) (cs := #[.int .i64 a3, .int .i64 a4]) (t := 33) ?_; intro a9 hg w4 hbox hb; have a0 := az hbox; have aA := az ((gE hg (qL HB) : w.heap.size ≤ a9)); have aG := aA; replace HB := bS HB hb; clear hb hbox hg) | ((with_reducible refine gate_dst (N := 2) rfl ?_); refine bz2 (N := 2) (t := 33) ?_; intro a8 hg w5 hbox hb; have a2 := az hbox; have aB := az ((gE hg (qL HB) : w.heap.size ≤ a8)); have aH := aB; obtain ⟨a1, a7⟩ := nPB a0 hg; replace a0 := kBB a0 hb; replace HB := bS HB hb; clear hb hbox hg))
  replace a0 := az (blk_drew a0.out); replace a2 := az (blk_drew a2.out); replace HB := az (below_drew1 HB.out); refine start_ (n := 8) (S := fun w' => w'.cell? ⟨a9, 0, none⟩ = some (.int .i64 a3) ∧ w'.cell? ⟨a9, 1, none⟩ = some (.int .i64 a4)) (ds := []) #[false, false, false, false, false, false, false, false] (by kernel_rfl) rfl rfl ⟨bc a0 0, bc a0 1⟩ (fun hHeld => ?_); refine with_tabW spec_l2Clamp.tab1 spec_l2Clamp.bits1 (fun HT_ HW_ => ?_); generalize w5.drew = w6 at a0 a2 HB hHeld ⊢; refine pu 0 (some 3) (fl 8 1) HT_ ?_; refine pu 3 (some 6) (fl 8 9) HT_ ?_; refine tk2 1 (some 4) (fl 8 11) HT_ HW_ hHeld ?_; refine tk2 4 (some 7) (fl 8 27) HT_ HW_ hHeld ?_; refine on 2 (some 5) (fl 8 31) HT_ (fun K hK => ?_); refine go1 Try.func135 #[.int .i64 a3] ?_
  with_reducible refine (spec_FixClamp.calls a3 a5 _ A2.out).mono ?_
  rintro e w' ⟨rfl, ⟨nd, rfl⟩⟩; refine ⟨_, rfl, ?_⟩; refine hK.out _ _ ⟨bc a0 0, bc a0 1⟩ (fun hHeld => ?_); clear hK K; refine nm (some 5) ?_; refine on 5 (some 8) (fl 8 63) HT_ (fun K hK => ?_); refine go1 Try.func135 #[.int .i64 a4] ?_
  with_reducible refine (spec_FixClamp.calls a4 a6 _ A3.out).mono ?_
  rintro e w' ⟨rfl, ⟨nd, rfl⟩⟩; refine ⟨_, rfl, ?_⟩; refine hK.out _ _ ⟨bc a0 0, bc a0 1⟩ (fun hHeld => ?_); clear hK K; refine nm (some 8) ?_; refine pu 6 (some 9) (fl 8 127) HT_ ?_; refine on 7 (none) (fl 8 255) HT_ (fun K hK => ?_); have aK : w6.cell? ⟨a8, 0, none⟩ = some (.int .i64 0) := bc a2 0; have aI := blk_frozen a2.out 0; have aC := a1.out; have aD := a7.out; have aL : w6.cell? ⟨a8, 1, none⟩ = some (.int .i64 0) := bc a2 1; have aJ := blk_frozen a2.out 1; have aE := a1.out; have aF := a7.out; refine skip_ (w1 := ?_) ?hw ?hn ?_ ?_; (case hw => unfold Region.wanted; rfl); (case hn => rfl); rotate_left
  · go_simp
    rfl
  refine hK.out _ _ ⟨(cf a1 ((cf a1 (hHeld.1)))), (cf a1 ((cf a1 (hHeld.2))))⟩ (fun hHeld => ?_); clear hK K; refine done_ (done_of HT_.out (by kernel_rfl)) ?_
  try go_wp2
  refine bodyPost_ret (results_cell_row rfl _ _ a8 33 #[.int .i64 a5, .int .i64 a6] (0, 0) _ rfl (qP a2) Try.underlying33 rfl (by kernel_rfl)) rfl ?_; exact ⟨qE, qL HB⟩
end Go.Proofs.Ytdngjedhbnoaoaa.PBig
