/- What these functions compute, each walked once: spec_GroupOf; for all arguments and worlds, under the conditions that each theorem names. -/
import Derived.Test.YtdngjedhbnoaoaaSq
import Derived.Test.YtdngjedhbnoaoaaPBigx1308
import Derived.Test.YtdngjedhbnoaoaaPBigx1312
import Derived.Test.YtdngjedhbnoaoaaPBigx1313
namespace Go.Proofs.Ytdngjedhbnoaoaa.PBig
open Go.RowKit Go.Proofs.YtdngjedhbnoaoaaW.PrintWords Go.Proofs.YtdngjedhbnoaoaaW.PrintLast Go.Proofs.YtdngjedhbnoaoaaW.PrintMore
attribute [local go_sem] max2_int min2_int max_two min_two max_three min_three max_four min_four   -- for this text's walks alone
set_option linter.unusedVariables false
set_option linter.unusedSimpArgs false

/-! ### spec_GroupOf: function 26 -/
mutual
def spec_GroupOf.j0 : Nat → List (S41) → Int → List (S41) → Bool → Option ((List (S41)))
  | 0, _, _, _, _ => none
  | k + 1, x0, x1, x5, cS => if cS = true then (some x5) else ((spec_l7Contacts.f k x0).bind fun cC => ((spec_l7Groups.f k x0 cC).bind fun cD => (spec_GroupOf.l0 k x0 x1 x5 cD 0)))
def spec_GroupOf.l0 : Nat → List (S41) → Int → List (S41) → List Int → Int → Option ((List (S41)))
  | 0, _, _, _, _, _ => none
  | k + 1, x0, x1, x5, x6, x7 => if x7 < (x0.length : Int) then (if 0 ≤ x7 then (if x7 < (x6.length : Int) then (if (rd x6 x7) = x1 then (if x5.length < 1466015503701 then (spec_GroupOf.l0 k x0 x1 (x5 ++ [(⟨(rd_T41 x0 x7).f0, (⟨(rd_T41 x0 x7).f1.f0, (rd_T41 x0 x7).f1.f1, (rd_T41 x0 x7).f1.f2⟩ : S39), (⟨(rd_T41 x0 x7).f2.f0, (rd_T41 x0 x7).f2.f1⟩ : S33), (⟨(rd_T41 x0 x7).f3.f0, (rd_T41 x0 x7).f3.f1⟩ : S33), (rd_T41 x0 x7).f4, (rd_T41 x0 x7).f5, (rd_T41 x0 x7).f6, (rd_T41 x0 x7).f7⟩ : S41)]) x6 (wrap64 (x7 + 1))) else (none)) else (if (rd x6 x7) < 0 then (if x5.length < 1466015503701 then (spec_GroupOf.l0 k x0 x1 (x5 ++ [(⟨(rd_T41 x0 x7).f0, (⟨(rd_T41 x0 x7).f1.f0, (rd_T41 x0 x7).f1.f1, (rd_T41 x0 x7).f1.f2⟩ : S39), (⟨(rd_T41 x0 x7).f2.f0, (rd_T41 x0 x7).f2.f1⟩ : S33), (⟨(rd_T41 x0 x7).f3.f0, (rd_T41 x0 x7).f3.f1⟩ : S33), (rd_T41 x0 x7).f4, (rd_T41 x0 x7).f5, (rd_T41 x0 x7).f6, (rd_T41 x0 x7).f7⟩ : S41)]) x6 (wrap64 (x7 + 1))) else (none)) else (spec_GroupOf.l0 k x0 x1 x5 x6 (wrap64 (x7 + 1))))) else (none)) else (none)) else (some x5)
end
def spec_GroupOf.f (k : Nat) (l0 : List (S41)) (a1 : Int) : Option ((List (S41))) := (some (([] : List (S41)) : List (S41))).bind fun a6 => ((spec_BodiesOk.f k l0).bind fun aJ => (if aJ = true then (spec_GroupOf.j0 k l0 a1 a6 (decide (a1 < 0))) else (spec_GroupOf.j0 k l0 a1 a6 true)))
theorem spec_GroupOf.mono_l : ∀ k, (∀ y0 y1 y2 y3, LeO (spec_GroupOf.j0 k y0 y1 y2 y3) (spec_GroupOf.j0 (k + 1) y0 y1 y2 y3)) ∧ (∀ y0 y1 y2 y3 y4, LeO (spec_GroupOf.l0 k y0 y1 y2 y3 y4) (spec_GroupOf.l0 (k + 1) y0 y1 y2 y3 y4))
  | 0 => ⟨fun _ _ _ _ r h => by simp [spec_GroupOf.j0] at h, fun _ _ _ _ _ r h => by simp [spec_GroupOf.l0] at h⟩
  | k + 1 => by
    obtain ⟨ih0, ih1⟩ := spec_GroupOf.mono_l k
    refine ⟨?_, ?_⟩
    · intro y0 y1 y2 y3
      unfold spec_GroupOf.j0
      repeat' first
      | (with_reducible exact ih0 _ _ _ _)
      | (with_reducible exact ih1 _ _ _ _ _)
      | (with_reducible exact spec_BodiesOk.mono _ _)
      | (with_reducible exact spec_l7Contacts.mono _ _)
      | (with_reducible exact spec_l7Groups.mono _ _ _)
      | (with_reducible exact LeO.refl _)
      | (with_reducible exact LeO.none _)
      | (with_reducible refine LeO.ite ?_ ?_)
      | (with_reducible refine LeO.bind ?_ (fun _ => ?_))
    · intro y0 y1 y2 y3 y4
      unfold spec_GroupOf.l0
      repeat' first
      | (with_reducible exact ih0 _ _ _ _)
      | (with_reducible exact ih1 _ _ _ _ _)
      | (with_reducible exact spec_BodiesOk.mono _ _)
      | (with_reducible exact spec_l7Contacts.mono _ _)
      | (with_reducible exact spec_l7Groups.mono _ _ _)
      | (with_reducible exact LeO.refl _)
      | (with_reducible exact LeO.none _)
      | (with_reducible refine LeO.ite ?_ ?_)
      | (with_reducible refine LeO.bind ?_ (fun _ => ?_))
theorem spec_GroupOf.mono : ∀ a0 a1 k, LeO (spec_GroupOf.f k a0 a1) (spec_GroupOf.f (k + 1) a0 a1) := by
  intro a0 a1 k
  obtain ⟨ih0, ih1⟩ := spec_GroupOf.mono_l k
  unfold spec_GroupOf.f
  repeat' first
      | (with_reducible exact ih0 _ _ _ _)
      | (with_reducible exact ih1 _ _ _ _ _)
      | (with_reducible exact spec_BodiesOk.mono _ _)
      | (with_reducible exact spec_l7Contacts.mono _ _)
      | (with_reducible exact spec_l7Groups.mono _ _ _)
      | (with_reducible exact LeO.refl _)
      | (with_reducible exact LeO.none _)
      | (with_reducible refine LeO.ite ?_ ?_)
      | (with_reducible refine LeO.bind ?_ (fun _ => ?_))
set_option maxHeartbeats 8000000 in
set_option maxRecDepth 100000 in
theorem spec_GroupOf.calls (k : Nat) (A0 : Option Addr) (c0 : Nat) (l0 : List (S41)) (a1 : Int) (r : List (S41)) (w : World) (hr0 : Kd.C k41 w A0 l0.length l0) (hc0 : l0.length ≤ c0) (h : spec_GroupOf.f k l0 a1 = some r) :
    Calls Try.prog 26 #[.slice A0 l0.length c0, .int .i64 a1] w fun e w' => ∃ cK : Value, e = .returned (cK) ∧ Kd.R k41 41 w' w.heap.size (fun _ => True) cK r ∧ Below w.heap.size w w' := by
  have hu41 := Try.underlying41; have HR0 := az hr0; have bZ := az hc0; clear hr0 hc0; have HB := az (Below.refl w.heap.size w); have H : ((some (([] : List (S41)) : List (S41))).bind fun a6 => ((spec_BodiesOk.f k l0).bind fun aJ => (if aJ = true then (spec_GroupOf.j0 k l0 a1 a6 (decide (a1 < 0))) else (spec_GroupOf.j0 k l0 a1 a6 true)))) = some r := h; clear h; obtain ⟨a6, aC⟩ : ∃ y_ : List (S41), y_ = (([] : List (S41))) := ⟨_, rfl⟩
  replace H : ((spec_BodiesOk.f k l0).bind fun aJ => (if aJ = true then (spec_GroupOf.j0 k l0 a1 a6 (decide (a1 < 0))) else (spec_GroupOf.j0 k l0 a1 a6 true))) = some r := by first | (rw [aC]; with_reducible exact H) | (have H2_ := (Option.bind_some _ _).symm.trans H; rw [aC]; with_reducible exact H2_) | (have H2_ := (Option.bind_some _ _).symm.trans H; with_reducible exact H2_) | with_reducible exact H | (rw [aC]; exact H) | exact H
  have bU := az aC; clear aC; have c8 := az H; clear H; go_enter Try.func26, Try.ntmps26
  go_upto_region 2 with (first | ((with_reducible refine gate_dst (N := 8) rfl ?_); refine Kd.R_lit k41 _ 41 ?hg (N := 8) ?hd (xs := ([] : List (S41))) (inner := []) (ok := fun _ => True) (okp := fun _ => True) ?hr ?hp (fun _ hk => hk) trivial (Below.refl _ _) (Nat.le_refl _) (by simp) ?_; (case hd => rfl); (case hg => rfl); (case hr => first | (go_simp; done) | (go_simp; rfl)); (case hp => exact (Reps.none _ _)); intro cE w4 bV hb hg_ hnew_; clear hg_ hnew_; (first | rw [← bU.out] at bV | (simp only [Int.reduceToNat] at bV; rw [← bU.out] at bV)); have a9 := az (Kd.R_lower bV (below_size (qL HB))); replace HB := bS HB hb; clear hb bV))
  (try simp only [Act.put, List.setIfInBounds_toArray, List.set_cons_zero, List.set_cons_succ])
  go_cut [15] (fun cT wc => ∃ (kq : Nat) (aW : Bool), cT = .bool aW ∧ Aside0 (spec_GroupOf.j0 kq l0 a1 a6 aW = some r) ∧ Aside0 (kq ≤ k) ∧ Aside0 (Kd.R k41 41 wc w.heap.size (fun _ => True) cE a6) ∧ Aside0 (Below w.heap.size w wc))
  case first =>
    have H := c8.out; clear c8; replace H := qH H; obtain ⟨aK, aX, H⟩ := H
    try dsimp only at H
    by_cases aY : aK = true; subst aY; replace H := qT H; have H' := az H; clear H; refine ?L1; rotate_left; replace aY := Bool.eq_false_iff.mpr aY; subst aY; replace H := qU H; have H' := az H; clear H; refine ?L2
    rotate_right
    case L1 =>
      go_wp2_with (first | ((with_reducible refine gate_callee (f := 17) rfl ?_); refine gl (some 10) Try.func17 #[.slice A0 l0.length c0] ?_; (with_reducible refine (spec_BodiesOk.calls k _ _ l0 true _ ?side1 ?side2 aX.out).mono ?_); (case side1 => repeat (first | exact (Kd.C_below HR0.out HB.out) | (with_reducible refine Kd.C_alloc ?_ _) | (with_reducible refine Kd.C_drewN ?_ _) | (with_reducible refine Kd.C_drew ?_))); (case side2 => exact bZ.out); rintro e w8 ⟨rfl, hb⟩; refine ⟨_, rfl, ?_⟩; replace a9 := az (Kd.R_below (qR a9) hb); replace HB := bS HB hb; clear hb))
      go_meet
      exact ⟨_, (decide (a1 < 0)), qG, H', ⟨qO⟩, ⟨qR a9⟩, ⟨qL HB⟩⟩
    case L2 =>
      go_wp2_with (first | ((with_reducible refine gate_callee (f := 17) rfl ?_); refine gl (some 10) Try.func17 #[.slice A0 l0.length c0] ?_; (with_reducible refine (spec_BodiesOk.calls k _ _ l0 false _ ?side1 ?side2 aX.out).mono ?_); (case side1 => repeat (first | exact (Kd.C_below HR0.out HB.out) | (with_reducible refine Kd.C_alloc ?_ _) | (with_reducible refine Kd.C_drewN ?_ _) | (with_reducible refine Kd.C_drew ?_))); (case side2 => exact bZ.out); rintro e w9 ⟨rfl, hb⟩; refine ⟨_, rfl, ?_⟩; replace a9 := az (Kd.R_below (qR a9) hb); replace HB := bS HB hb; clear hb))
      go_meet
      exact ⟨_, (true), qG, H', ⟨qO⟩, ⟨qR a9⟩, ⟨qL HB⟩⟩
  case rest =>
    clear c8; obtain ⟨kq, aW, rfl, HA, bL, a5, HB⟩ := hcut
    cases kq with
    | zero => exact absurd HA.out (by simp [spec_GroupOf.j0])
    | succ c1 => ?_
    have H := HA.out; clear HA; simp only [spec_GroupOf.j0] at H; by_cases aM : aW = true; subst aM; replace H := qT H; obtain rfl := Option.some.inj H; refine ?L3; rotate_left; replace aM := Bool.eq_false_iff.mpr aM; subst aM; replace H := qU H; replace H := qH H; obtain ⟨aK, aX, H⟩ := H
    try dsimp only at H
    replace H := qH H; obtain ⟨a3, cF, H⟩ := H
    try dsimp only at H
    have H' := az H; clear H; refine ?L8
    rotate_right
    case L3 =>
      go_wp2
      go_ret
      exact ⟨_, qE, qR a5, qL HB⟩
    case L8 =>
      go_wp2_with (first | ((with_reducible refine gate_callee (f := 53) rfl ?_); refine gl (some 19) Try.func53 #[.slice A0 l0.length c0] ?_; (with_reducible refine (spec_l7Contacts.calls c1 _ _ l0 aK _ ?side1 ?side2 aX.out).mono ?_); (case side1 => repeat (first | exact (Kd.C_below HR0.out HB.out) | (with_reducible refine Kd.C_alloc ?_ _) | (with_reducible refine Kd.C_drewN ?_ _) | (with_reducible refine Kd.C_drew ?_))); (case side2 => exact bZ.out); rintro e dB ⟨cW, rfl, bW, hb⟩; refine ⟨_, rfl, ?_⟩; have aD := az (Kd.R_lower bW (below_size (qL HB))); replace a5 := az (Kd.R_below (qR a5) hb); replace HB := bS HB hb; clear hb; (try clear bW); obtain ⟨cL, cM, cN⟩ := Kd.R_slice aD.out; subst cN) | ((with_reducible refine gate_callee (f := 52) rfl ?_); refine gl (some 20) Try.func52 #[.slice A0 l0.length c0, .slice cL aK.length cM] ?_; (with_reducible refine (spec_l7Groups.calls c1 _ _ l0 _ _ aK a3 _ ?side1 ?side2 ?side3 ?side4 cF.out).mono ?_); (case side1 => repeat (first | exact (Kd.C_below HR0.out HB.out) | (with_reducible refine Kd.C_alloc ?_ _) | (with_reducible refine Kd.C_drewN ?_ _) | (with_reducible refine Kd.C_drew ?_))); (case side2 => exact bZ.out); (case side3 => exact qC (Kd.R_reads' aD.out).2.2); (case side4 => exact (Kd.R_reads' aD.out).2.1); rintro e dC ⟨cG, rfl, bW, hb⟩; refine ⟨_, rfl, ?_⟩; have c9 := az (Kd.R_lower bW (below_size (qL HB))); replace a5 := az (Kd.R_below (qR a5) hb); replace aD := az (Kd.R_below (qR aD) hb); replace HB := bS HB hb; clear hb; (try clear bW)))
      go_loopg [5, 7] c1 (fun kq v5 v7 w' => ∃ (aE : List (S41)) (a2 : Int), v7 = .int .i64 a2 ∧ Aside0 (spec_GroupOf.l0 kq l0 a1 aE a3 a2 = some r) ∧ Aside0 (kq ≤ c1) ∧ Aside0 (Kd.R k41 41 w' w.heap.size (fun _ => True) v5 aE) ∧ Aside0 (Kd.R (Kd.int .i64) 3 w' w.heap.size (fun _ => True) cG a3) ∧ Aside0 (Below w.heap.size w w'))
      case atStart => exact ⟨(a6), (0), qG, H', ⟨Nat.le_refl _⟩, ⟨qR a5⟩, ⟨qR c9⟩, ⟨qL HB⟩⟩
      case round =>
        clear H'; (try clear aM); obtain ⟨aE, a2, rfl, HA, bM, a5, a8, HB⟩ := hrel
        cases gk with
        | zero => exact absurd HA.out (by simp [spec_GroupOf.l0])
        | succ k2 => ?_
        have H := HA.out; clear HA; simp only [spec_GroupOf.l0] at H; by_cases aG : a2 < (l0.length : Int); rw [if_pos aG] at H; have c4 : decide (a2 < (l0.length : Int)) = true := decide_eq_true aG; clear aG; replace H := qif H; obtain ⟨c2, H⟩ := H; have cQ : decide (0 ≤ a2) = true := decide_eq_true c2; clear c2; replace H := qif H; obtain ⟨c3, H⟩ := H; have cR : decide (a2 < (a3.length : Int)) = true := decide_eq_true c3; clear c3; by_cases aA : (rd a3 a2) = a1; rw [if_pos aA] at H; have c5 : ((rd a3 a2) == a1) = true := beq_iff_eq.mpr aA; have c6 : ((rd a3 a2) != a1) = false := bne_eq_false_iff_eq.mpr aA; clear aA; replace H := qif H; obtain ⟨aN, H⟩ := H; have LMc7006 := az aN; clear aN; obtain ⟨aQ, a4⟩ : ∃ y_ : List (S41), y_ = (aE ++ [(⟨(rd_T41 l0 a2).f0, (⟨(rd_T41 l0 a2).f1.f0, (rd_T41 l0 a2).f1.f1, (rd_T41 l0 a2).f1.f2⟩ : S39), (⟨(rd_T41 l0 a2).f2.f0, (rd_T41 l0 a2).f2.f1⟩ : S33), (⟨(rd_T41 l0 a2).f3.f0, (rd_T41 l0 a2).f3.f1⟩ : S33), (rd_T41 l0 a2).f4, (rd_T41 l0 a2).f5, (rd_T41 l0 a2).f6, (rd_T41 l0 a2).f7⟩ : S41)]) := ⟨_, rfl⟩
        replace H : (spec_GroupOf.l0 k2 l0 a1 aQ a3 (wrap64 (a2 + 1))) = some r := by first | (rw [a4]; with_reducible exact H) | (have H2_ := (Option.bind_some _ _).symm.trans H; rw [a4]; with_reducible exact H2_) | (have H2_ := (Option.bind_some _ _).symm.trans H; with_reducible exact H2_) | with_reducible exact H | (rw [a4]; exact H) | exact H
        have aZ := az a4; clear a4; have H' := az H; clear H; refine ?L4; rotate_left; rw [if_neg aA] at H; have c5 : ((rd a3 a2) == a1) = false := beq_eq_false_iff_ne.mpr aA; have c6 : ((rd a3 a2) != a1) = true := bne_iff_ne.mpr aA; by_cases aH : (rd a3 a2) < 0; rw [if_pos aH] at H; have c7 : decide ((rd a3 a2) < 0) = true := decide_eq_true aH; clear aH; replace H := qif H; obtain ⟨aN, H⟩ := H; have LMc7006 := az aN; clear aN; obtain ⟨aQ, a4⟩ : ∃ y_ : List (S41), y_ = (aE ++ [(⟨(rd_T41 l0 a2).f0, (⟨(rd_T41 l0 a2).f1.f0, (rd_T41 l0 a2).f1.f1, (rd_T41 l0 a2).f1.f2⟩ : S39), (⟨(rd_T41 l0 a2).f2.f0, (rd_T41 l0 a2).f2.f1⟩ : S33), (⟨(rd_T41 l0 a2).f3.f0, (rd_T41 l0 a2).f3.f1⟩ : S33), (rd_T41 l0 a2).f4, (rd_T41 l0 a2).f5, (rd_T41 l0 a2).f6, (rd_T41 l0 a2).f7⟩ : S41)]) := ⟨_, rfl⟩
        replace H : (spec_GroupOf.l0 k2 l0 a1 aQ a3 (wrap64 (a2 + 1))) = some r := by first | (rw [a4]; with_reducible exact H) | (have H2_ := (Option.bind_some _ _).symm.trans H; rw [a4]; with_reducible exact H2_) | (have H2_ := (Option.bind_some _ _).symm.trans H; with_reducible exact H2_) | with_reducible exact H | (rw [a4]; exact H) | exact H
        have aZ := az a4; clear a4; have H' := az H; clear H; refine ?L5; rotate_left; rw [if_neg aH] at H; have c7 : decide ((rd a3 a2) < 0) = false := decide_eq_false aH; clear aH; have H' := az H; clear H; refine ?L6
        rotate_right
        rotate_right
        rotate_left 3
        rw [if_neg aG] at H; have c4 : decide (a2 < (l0.length : Int)) = false := decide_eq_false aG; clear aG; obtain rfl := Option.some.inj H; refine ?L7
        rotate_right 3
        case' L4 | L5 | L6 =>
          obtain ⟨cZ, dA, cO⟩ := Kd.R_slice a8.out; subst cO; have bN : 0 ≤ (a2 : Int) := qD; have bO : a2 < (a3.length : Int) := qD; obtain ⟨bX, cH, cP⟩ := Kd.at_int (Kd.R_reads' a8.out).2.2 a2 bN bO; cases cH; replace bN := eq_true bN; replace bO := eq_true bO; have a7 : 0 ≤ (a2 : Int) := qD
        case L4 =>
          have bP : a2 < (l0.length : Int) := qD; obtain ⟨cU, cI, b0, b1, b2, b3, b4, b5, b6, b7, b8, b9, aR, aT⟩ := at_T41 HR0.out a2 a7 bP; cases cI; obtain ⟨b0, b1, b2, b3, b4, b5, b6, b7, b8, b9, aR, aT⟩ := hB12 HB b0 b1 b2 b3 b4 b5 b6 b7 b8 b9 aR aT; replace a7 := eq_true a7; replace bP := eq_true bP; go_wp2_with (first | ((with_reducible refine gate_builtin (b := .append) (xs := #[.tmp 40, .tmp 45]) rfl ?_); at_builtin; refine Kd.R_append k41 (w0 := w) w.heap.size rfl (.tmp 40) (.tmp 45) 23 41 (.agg #[(.int .i64 0), (.int .i64 0), (.int .i64 0), (.int .i64 0), (.int .i64 0), (.int .i64 0), (.int .i64 0), (.int .i64 0), (.int .i64 0), (.int .i64 0), (.int .i64 0), (.int .i64 0)]) 96 rfl Try.underlying23 info41 rfl (by decide) (by omega) u5 aE (⟨(rd_T41 l0 a2).f0, (⟨(rd_T41 l0 a2).f1.f0, (rd_T41 l0 a2).f1.f1, (rd_T41 l0 a2).f1.f2⟩ : S39), (⟨(rd_T41 l0 a2).f2.f0, (rd_T41 l0 a2).f2.f1⟩ : S33), (⟨(rd_T41 l0 a2).f3.f0, (rd_T41 l0 a2).f3.f1⟩ : S33), (rd_T41 l0 a2).f4, (rd_T41 l0 a2).f5, (rd_T41 l0 a2).f6, (rd_T41 l0 a2).f7⟩ : S41) [.int .i64 ((rd_T41 l0 a2).f0), .int .i64 ((rd_T41 l0 a2).f1.f0), .int .i64 ((rd_T41 l0 a2).f1.f1), .int .i64 ((rd_T41 l0 a2).f1.f2), .int .i64 ((rd_T41 l0 a2).f2.f0), .int .i64 ((rd_T41 l0 a2).f2.f1), .int .i64 ((rd_T41 l0 a2).f3.f0), .int .i64 ((rd_T41 l0 a2).f3.f1), .int .i64 ((rd_T41 l0 a2).f4), .int .i64 ((rd_T41 l0 a2).f5), .int .i64 ((rd_T41 l0 a2).f6), .int .i64 ((rd_T41 l0 a2).f7)] (fun _ => True) (fun _ => False) rfl rfl ?aP (fun _ hk => hk.elim) ?aF ?aO ?aB ?aS ?aL ?_; (case aP => exact k41_mkM _ _ _ (⟨(rd_T41 l0 a2).f0, (⟨(rd_T41 l0 a2).f1.f0, (rd_T41 l0 a2).f1.f1, (rd_T41 l0 a2).f1.f2⟩ : S39), (⟨(rd_T41 l0 a2).f2.f0, (rd_T41 l0 a2).f2.f1⟩ : S33), (⟨(rd_T41 l0 a2).f3.f0, (rd_T41 l0 a2).f3.f1⟩ : S33), (rd_T41 l0 a2).f4, (rd_T41 l0 a2).f5, (rd_T41 l0 a2).f6, (rd_T41 l0 a2).f7⟩ : S41)); (case aB => exact (qL HB)); (case aF => exact (fun _ _ => trivial)); (case aO => exact (qR a5)); (case aS => exact (below_size (qL HB))); (case aL => have := LMc7006.out; omega); intro cX dD ho hb hg hat; rw [← aZ.out] at ho; have cA := az (ho); replace a8 := az (Kd.R_over' (qR a8) (Kd.R_typed (qR a5)) (by decide) hg); replace HB := az hb; clear a5 ho hb hg hat))
          go_roundg k2
          case measure => have := bL.out; have := bM.out; omega
          exact ⟨(aQ), (wrap64 (a2 + 1)), qG, H', ⟨by have := bL.out; have := bM.out; omega⟩, ⟨qR cA⟩, ⟨qR a8⟩, ⟨qL HB⟩⟩
        case' L5 | L6 =>
          have aI : a2 < (a3.length : Int) := qD
        case L5 =>
          obtain ⟨bA, bQ, bY⟩ := Kd.at_int (Kd.R_reads' a8.out).2.2 a2 a7 aI; obtain rfl : bX = bA := (by injection bQ); replace a7 := eq_true a7; replace aI := eq_true aI; have bR : 0 ≤ (a2 : Int) := qD; have bT : a2 < (l0.length : Int) := qD; obtain ⟨cV, cJ, bB, bC, bD, bE, bF, bG, bH, bI, bJ, bK, aU, aV⟩ := at_T41 HR0.out a2 bR bT; cases cJ; obtain ⟨bB, bC, bD, bE, bF, bG, bH, bI, bJ, bK, aU, aV⟩ := hB12 HB bB bC bD bE bF bG bH bI bJ bK aU aV; replace bR := eq_true bR; replace bT := eq_true bT; go_wp2_with (first | ((with_reducible refine gate_builtin (b := .append) (xs := #[.tmp 40, .tmp 45]) rfl ?_); at_builtin; refine Kd.R_append k41 (w0 := w) w.heap.size rfl (.tmp 40) (.tmp 45) 23 41 (.agg #[(.int .i64 0), (.int .i64 0), (.int .i64 0), (.int .i64 0), (.int .i64 0), (.int .i64 0), (.int .i64 0), (.int .i64 0), (.int .i64 0), (.int .i64 0), (.int .i64 0), (.int .i64 0)]) 96 rfl Try.underlying23 info41 rfl (by decide) (by omega) u5 aE (⟨(rd_T41 l0 a2).f0, (⟨(rd_T41 l0 a2).f1.f0, (rd_T41 l0 a2).f1.f1, (rd_T41 l0 a2).f1.f2⟩ : S39), (⟨(rd_T41 l0 a2).f2.f0, (rd_T41 l0 a2).f2.f1⟩ : S33), (⟨(rd_T41 l0 a2).f3.f0, (rd_T41 l0 a2).f3.f1⟩ : S33), (rd_T41 l0 a2).f4, (rd_T41 l0 a2).f5, (rd_T41 l0 a2).f6, (rd_T41 l0 a2).f7⟩ : S41) [.int .i64 ((rd_T41 l0 a2).f0), .int .i64 ((rd_T41 l0 a2).f1.f0), .int .i64 ((rd_T41 l0 a2).f1.f1), .int .i64 ((rd_T41 l0 a2).f1.f2), .int .i64 ((rd_T41 l0 a2).f2.f0), .int .i64 ((rd_T41 l0 a2).f2.f1), .int .i64 ((rd_T41 l0 a2).f3.f0), .int .i64 ((rd_T41 l0 a2).f3.f1), .int .i64 ((rd_T41 l0 a2).f4), .int .i64 ((rd_T41 l0 a2).f5), .int .i64 ((rd_T41 l0 a2).f6), .int .i64 ((rd_T41 l0 a2).f7)] (fun _ => True) (fun _ => False) rfl rfl ?aP (fun _ hk => hk.elim) ?aF ?aO ?aB ?aS ?aL ?_; (case aP => exact k41_mkM _ _ _ (⟨(rd_T41 l0 a2).f0, (⟨(rd_T41 l0 a2).f1.f0, (rd_T41 l0 a2).f1.f1, (rd_T41 l0 a2).f1.f2⟩ : S39), (⟨(rd_T41 l0 a2).f2.f0, (rd_T41 l0 a2).f2.f1⟩ : S33), (⟨(rd_T41 l0 a2).f3.f0, (rd_T41 l0 a2).f3.f1⟩ : S33), (rd_T41 l0 a2).f4, (rd_T41 l0 a2).f5, (rd_T41 l0 a2).f6, (rd_T41 l0 a2).f7⟩ : S41)); (case aB => exact (qL HB)); (case aF => exact (fun _ _ => trivial)); (case aO => exact (qR a5)); (case aS => exact (below_size (qL HB))); (case aL => have := LMc7006.out; omega); intro cY dE ho hb hg hat; rw [← aZ.out] at ho; have cB := az (ho); replace a8 := az (Kd.R_over' (qR a8) (Kd.R_typed (qR a5)) (by decide) hg); replace HB := az hb; clear a5 ho hb hg hat))
          go_roundg k2
          case measure => have := bL.out; have := bM.out; omega
          exact ⟨(aQ), (wrap64 (a2 + 1)), qG, H', ⟨by have := bL.out; have := bM.out; omega⟩, ⟨qR cB⟩, ⟨qR a8⟩, ⟨qL HB⟩⟩
        case L6 =>
          obtain ⟨bA, bQ, bY⟩ := Kd.at_int (Kd.R_reads' a8.out).2.2 a2 a7 aI; obtain rfl : bX = bA := (by injection bQ); replace a7 := eq_true a7; replace aI := eq_true aI; go_wp2
          go_roundg k2
          case measure => have := bL.out; have := bM.out; omega
          exact ⟨(aE), (wrap64 (a2 + 1)), qG, H', ⟨by have := bL.out; have := bM.out; omega⟩, ⟨qR a5⟩, ⟨qR a8⟩, ⟨qL HB⟩⟩
        case L7 =>
          go_wp2
          go_ret
          exact ⟨_, qE, qR a5, qL HB⟩
          
end Go.Proofs.Ytdngjedhbnoaoaa.PBig
