/- What these functions compute, each walked once: impl_GroupOf; for all arguments and worlds, under the conditions that each theorem names. -/
import Derived.Test.YtdngjedhbnoaoaaSq
import Derived.Test.YtdngjedhbnoaoaaPBigx1306
namespace Go.Proofs.Ytdngjedhbnoaoaa.PBig
open Go.RowKit Go.Proofs.YtdngjedhbnoaoaaW.PrintWords Go.Proofs.YtdngjedhbnoaoaaW.PrintLast Go.Proofs.YtdngjedhbnoaoaaW.PrintMore
attribute [local go_sem] max2_int min2_int max_two min_two max_three min_three max_four min_four   -- for this text's walks alone
set_option linter.unusedVariables false
set_option linter.unusedSimpArgs false

/-! ### impl_GroupOf: function 24 -/
def impl_GroupOf.l0 : Nat → List (S41) → Int → List (S41) → List Int → Int → Int → Option ((List (S41)))
  | 0, _, _, _, _, _, _ => none
  | k + 1, x0, x1, x5, aZ, b8, a4 => if a4 < b8 then (if 0 ≤ a4 then (if a4 < (aZ.length : Int) then (if (rd aZ a4) = x1 then (if a4 < (x0.length : Int) then (if x5.length < 1466015503701 then (impl_GroupOf.l0 k x0 x1 (x5 ++ [(⟨(rd_T41 x0 a4).f0, (⟨(rd_T41 x0 a4).f1.f0, (rd_T41 x0 a4).f1.f1, (rd_T41 x0 a4).f1.f2⟩ : S39), (⟨(rd_T41 x0 a4).f2.f0, (rd_T41 x0 a4).f2.f1⟩ : S33), (⟨(rd_T41 x0 a4).f3.f0, (rd_T41 x0 a4).f3.f1⟩ : S33), (rd_T41 x0 a4).f4, (rd_T41 x0 a4).f5, (rd_T41 x0 a4).f6, (rd_T41 x0 a4).f7⟩ : S41)]) aZ b8 (wrap64 (a4 + 1))) else (none)) else (none)) else (if (rd aZ a4) < 0 then (if a4 < (x0.length : Int) then (if x5.length < 1466015503701 then (impl_GroupOf.l0 k x0 x1 (x5 ++ [(⟨(rd_T41 x0 a4).f0, (⟨(rd_T41 x0 a4).f1.f0, (rd_T41 x0 a4).f1.f1, (rd_T41 x0 a4).f1.f2⟩ : S39), (⟨(rd_T41 x0 a4).f2.f0, (rd_T41 x0 a4).f2.f1⟩ : S33), (⟨(rd_T41 x0 a4).f3.f0, (rd_T41 x0 a4).f3.f1⟩ : S33), (rd_T41 x0 a4).f4, (rd_T41 x0 a4).f5, (rd_T41 x0 a4).f6, (rd_T41 x0 a4).f7⟩ : S41)]) aZ b8 (wrap64 (a4 + 1))) else (none)) else (none)) else (impl_GroupOf.l0 k x0 x1 x5 aZ b8 (wrap64 (a4 + 1))))) else (none)) else (none)) else (some x5)
def impl_GroupOf.f (k : Nat) (l0 : List (S41)) (a1 : Int) : Option ((List (S41))) := if a1 < 0 then (some ([] : List (S41))) else ((impl_Groups.f k l0).bind fun aC => (impl_GroupOf.l0 k l0 a1 ([] : List (S41)) aC (aC.length : Int) 0))
theorem impl_GroupOf.mono_l : ∀ k, (∀ y0 y1 y2 y3 y4 y5, LeO (impl_GroupOf.l0 k y0 y1 y2 y3 y4 y5) (impl_GroupOf.l0 (k + 1) y0 y1 y2 y3 y4 y5))
  | 0 => fun _ _ _ _ _ _ r h => by simp [impl_GroupOf.l0] at h
  | k + 1 => by
    have ih0 := impl_GroupOf.mono_l k
    · intro y0 y1 y2 y3 y4 y5
      unfold impl_GroupOf.l0
      repeat' first
      | (with_reducible exact ih0 _ _ _ _ _ _)
      | (with_reducible exact impl_Groups.mono _ _)
      | (with_reducible exact LeO.refl _)
      | (with_reducible exact LeO.none _)
      | (with_reducible refine LeO.ite ?_ ?_)
      | (with_reducible refine LeO.bind ?_ (fun _ => ?_))
theorem impl_GroupOf.mono : ∀ a0 a1 k, LeO (impl_GroupOf.f k a0 a1) (impl_GroupOf.f (k + 1) a0 a1) := by
  intro a0 a1 k
  have ih0 := impl_GroupOf.mono_l k
  unfold impl_GroupOf.f
  repeat' first
      | (with_reducible exact ih0 _ _ _ _ _ _)
      | (with_reducible exact impl_Groups.mono _ _)
      | (with_reducible exact LeO.refl _)
      | (with_reducible exact LeO.none _)
      | (with_reducible refine LeO.ite ?_ ?_)
      | (with_reducible refine LeO.bind ?_ (fun _ => ?_))
set_option maxHeartbeats 8000000 in
set_option maxRecDepth 100000 in
theorem impl_GroupOf.calls (k : Nat) (A0 : Option Addr) (c0 : Nat) (l0 : List (S41)) (a1 : Int) (r : List (S41)) (w : World) (hr0 : Kd.C k41 w A0 l0.length l0) (hc0 : l0.length ≤ c0) (h : impl_GroupOf.f k l0 a1 = some r) :
    Calls Try.prog 24 #[.slice A0 l0.length c0, .int .i64 a1] w fun e w' => ∃ bJ : Value, e = .returned (bJ) ∧ Kd.R k41 41 w' w.heap.size (fun _ => True) bJ r ∧ Below w.heap.size w w' := by
  have hu41 := Try.underlying41; have HR0 := az hr0; have bN := az hc0; clear hr0 hc0; have HB := az (Below.refl w.heap.size w); have H : (if a1 < 0 then (some ([] : List (S41))) else ((impl_Groups.f k l0).bind fun aC => (impl_GroupOf.l0 k l0 a1 ([] : List (S41)) aC (aC.length : Int) 0))) = some r := h; clear h; by_cases a7 : a1 < 0; rw [if_pos a7] at H; have b0 : decide (a1 < 0) = true := decide_eq_true a7; clear a7; obtain rfl := Option.some.inj H; refine ?L1; rotate_left; rw [if_neg a7] at H; have b0 : decide (a1 < 0) = false := decide_eq_false a7; clear a7; replace H := qH H; obtain ⟨a3, bG, H⟩ := H
  try dsimp only at H
  have H' := az H; clear H; refine ?L6
  rotate_right
  case' L1 | L6 =>
    go_enter Try.func24, Try.ntmps24
  case L1 =>
    go_wp2
    go_ret
    exact ⟨_, qE, by first | exact Kd.R_nil _ _ _ _ _ | exact Kd.N_nil _ _ _ _ _ | exact Kd.V_nil _ _ _ _ _ | exact Kd.Q_nil _ _ _ _ _ | exact Kd.S_nil _ _ _ _ _, qL HB⟩
  case L6 =>
    go_wp2_with (first | ((with_reducible refine gate_callee (f := 14) rfl ?_); refine gl (some 11) Try.func14 #[.slice A0 l0.length c0] ?_; (with_reducible refine (impl_Groups.calls k _ _ l0 a3 _ ?side1 ?side2 bG.out).mono ?_); (case side1 => repeat (first | exact HR0.out | (with_reducible refine Kd.C_alloc ?_ _) | (with_reducible refine Kd.C_drewN ?_ _) | (with_reducible refine Kd.C_drew ?_))); (case side2 => exact bN.out); rintro e w5 ⟨bU, rfl, bK, hb⟩; refine ⟨_, rfl, ?_⟩; have b6 := az (Kd.R_lower bK (below_size (qL HB))); replace HB := bS HB hb; clear hb; (try clear bK); obtain ⟨bO, bP, bQ⟩ := Kd.R_slice b6.out; subst bQ))
    go_loopg [5, 13] k (fun kq v5 v13 w' => ∃ (aA : List (S41)) (a2 : Int), v13 = .int .i64 a2 ∧ Aside0 (impl_GroupOf.l0 kq l0 a1 aA a3 (a3.length : Int) a2 = some r) ∧ Aside0 (kq ≤ k) ∧ Aside0 (Kd.R k41 41 w' w.heap.size (fun _ => True) v5 aA) ∧ Aside0 (Kd.R (Kd.int .i64) 3 w' w.heap.size (fun _ => True) (.slice bO a3.length bP) a3) ∧ Aside0 (Below w.heap.size w w'))
    case atStart => exact ⟨(([] : List (S41))), (0), qG, H', ⟨Nat.le_refl _⟩, ⟨by first | exact Kd.R_nil _ _ _ _ _ | exact Kd.N_nil _ _ _ _ _ | exact Kd.V_nil _ _ _ _ _ | exact Kd.Q_nil _ _ _ _ _ | exact Kd.S_nil _ _ _ _ _⟩, ⟨qR b6⟩, ⟨qL HB⟩⟩
    case round =>
      clear H'; (try clear a7); (try clear b0); obtain ⟨aA, a2, rfl, HA, b9, aK, aD, HB⟩ := hrel
      cases gk with
      | zero => exact absurd HA.out (by simp [impl_GroupOf.l0])
      | succ k1 => ?_
      have H := HA.out; clear HA; simp only [impl_GroupOf.l0] at H; by_cases a6 : a2 < (a3.length : Int); rw [if_pos a6] at H; have b1 : decide (a2 < (a3.length : Int)) = true := decide_eq_true a6; clear a6; replace H := qif H; obtain ⟨bA, H⟩ := H; have bM : decide (0 ≤ a2) = true := decide_eq_true bA; clear bA; replace H := qif H; obtain ⟨a6, H⟩ := H; have b1 : decide (a2 < (a3.length : Int)) = true := decide_eq_true a6; clear a6; by_cases a8 : (rd a3 a2) = a1; rw [if_pos a8] at H; have bB : ((rd a3 a2) == a1) = true := beq_iff_eq.mpr a8; have bC : ((rd a3 a2) != a1) = false := bne_eq_false_iff_eq.mpr a8; clear a8; replace H := qif H; obtain ⟨aE, H⟩ := H; have bD : decide (a2 < (l0.length : Int)) = true := decide_eq_true aE; clear aE; replace H := qif H; obtain ⟨aG, H⟩ := H; have LMc7005 := az aG; clear aG; obtain ⟨aJ, a5⟩ : ∃ y_ : List (S41), y_ = (aA ++ [(⟨(rd_T41 l0 a2).f0, (⟨(rd_T41 l0 a2).f1.f0, (rd_T41 l0 a2).f1.f1, (rd_T41 l0 a2).f1.f2⟩ : S39), (⟨(rd_T41 l0 a2).f2.f0, (rd_T41 l0 a2).f2.f1⟩ : S33), (⟨(rd_T41 l0 a2).f3.f0, (rd_T41 l0 a2).f3.f1⟩ : S33), (rd_T41 l0 a2).f4, (rd_T41 l0 a2).f5, (rd_T41 l0 a2).f6, (rd_T41 l0 a2).f7⟩ : S41)]) := ⟨_, rfl⟩
      replace H : (impl_GroupOf.l0 k1 l0 a1 aJ a3 (a3.length : Int) (wrap64 (a2 + 1))) = some r := by first | (rw [a5]; with_reducible exact H) | (have H2_ := (Option.bind_some _ _).symm.trans H; rw [a5]; with_reducible exact H2_) | (have H2_ := (Option.bind_some _ _).symm.trans H; with_reducible exact H2_) | with_reducible exact H | (rw [a5]; exact H) | exact H
      have b7 := az a5; clear a5; have H' := az H; clear H; refine ?L2; rotate_left; rw [if_neg a8] at H; have bB : ((rd a3 a2) == a1) = false := beq_eq_false_iff_ne.mpr a8; have bC : ((rd a3 a2) != a1) = true := bne_iff_ne.mpr a8; by_cases a9 : (rd a3 a2) < 0; rw [if_pos a9] at H; have bE : decide ((rd a3 a2) < 0) = true := decide_eq_true a9; clear a9; replace H := qif H; obtain ⟨aE, H⟩ := H; have bD : decide (a2 < (l0.length : Int)) = true := decide_eq_true aE; clear aE; replace H := qif H; obtain ⟨aG, H⟩ := H; have LMc7005 := az aG; clear aG; obtain ⟨aJ, a5⟩ : ∃ y_ : List (S41), y_ = (aA ++ [(⟨(rd_T41 l0 a2).f0, (⟨(rd_T41 l0 a2).f1.f0, (rd_T41 l0 a2).f1.f1, (rd_T41 l0 a2).f1.f2⟩ : S39), (⟨(rd_T41 l0 a2).f2.f0, (rd_T41 l0 a2).f2.f1⟩ : S33), (⟨(rd_T41 l0 a2).f3.f0, (rd_T41 l0 a2).f3.f1⟩ : S33), (rd_T41 l0 a2).f4, (rd_T41 l0 a2).f5, (rd_T41 l0 a2).f6, (rd_T41 l0 a2).f7⟩ : S41)]) := ⟨_, rfl⟩
      replace H : (impl_GroupOf.l0 k1 l0 a1 aJ a3 (a3.length : Int) (wrap64 (a2 + 1))) = some r := by first | (rw [a5]; with_reducible exact H) | (have H2_ := (Option.bind_some _ _).symm.trans H; rw [a5]; with_reducible exact H2_) | (have H2_ := (Option.bind_some _ _).symm.trans H; with_reducible exact H2_) | with_reducible exact H | (rw [a5]; exact H) | exact H
      have b7 := az a5; clear a5; have H' := az H; clear H; refine ?L3; rotate_left; rw [if_neg a9] at H; have bE : decide ((rd a3 a2) < 0) = false := decide_eq_false a9; clear a9; have H' := az H; clear H; refine ?L4
      rotate_right
      rotate_right
      rotate_left 3
      rw [if_neg a6] at H; have b1 : decide (a2 < (a3.length : Int)) = false := decide_eq_false a6; clear a6; obtain rfl := Option.some.inj H; refine ?L5
      rotate_right 3
      case' L2 | L3 | L4 =>
        have b2 : 0 ≤ (a2 : Int) := qD; have b3 : a2 < (a3.length : Int) := qD; obtain ⟨bR, bH, bL⟩ := Kd.at_int (Kd.R_reads' aD.out).2.2 a2 b2 b3; cases bH; replace b2 := eq_true b2; replace b3 := eq_true b3
      case' L2 | L3 =>
        have b4 : 0 ≤ (a2 : Int) := qD; have b5 : a2 < (l0.length : Int) := qD; obtain ⟨bT, bI, aM, aN, aQ, aR, aT, aU, aV, aW, aX, aY, aH, aI⟩ := at_T41 HR0.out a2 b4 b5; cases bI; obtain ⟨aM, aN, aQ, aR, aT, aU, aV, aW, aX, aY, aH, aI⟩ := hB12 HB aM aN aQ aR aT aU aV aW aX aY aH aI; replace b4 := eq_true b4; replace b5 := eq_true b5; go_wp2_with (first | ((with_reducible refine gate_builtin (b := .append) (xs := #[.tmp 25, .tmp 30]) rfl ?_); at_builtin; refine Kd.R_append k41 (w0 := w) w.heap.size rfl (.tmp 25) (.tmp 30) 23 41 (.agg #[(.int .i64 0), (.int .i64 0), (.int .i64 0), (.int .i64 0), (.int .i64 0), (.int .i64 0), (.int .i64 0), (.int .i64 0), (.int .i64 0), (.int .i64 0), (.int .i64 0), (.int .i64 0)]) 96 rfl Try.underlying23 info41 rfl (by decide) (by omega) u5 aA (⟨(rd_T41 l0 a2).f0, (⟨(rd_T41 l0 a2).f1.f0, (rd_T41 l0 a2).f1.f1, (rd_T41 l0 a2).f1.f2⟩ : S39), (⟨(rd_T41 l0 a2).f2.f0, (rd_T41 l0 a2).f2.f1⟩ : S33), (⟨(rd_T41 l0 a2).f3.f0, (rd_T41 l0 a2).f3.f1⟩ : S33), (rd_T41 l0 a2).f4, (rd_T41 l0 a2).f5, (rd_T41 l0 a2).f6, (rd_T41 l0 a2).f7⟩ : S41) [.int .i64 ((rd_T41 l0 a2).f0), .int .i64 ((rd_T41 l0 a2).f1.f0), .int .i64 ((rd_T41 l0 a2).f1.f1), .int .i64 ((rd_T41 l0 a2).f1.f2), .int .i64 ((rd_T41 l0 a2).f2.f0), .int .i64 ((rd_T41 l0 a2).f2.f1), .int .i64 ((rd_T41 l0 a2).f3.f0), .int .i64 ((rd_T41 l0 a2).f3.f1), .int .i64 ((rd_T41 l0 a2).f4), .int .i64 ((rd_T41 l0 a2).f5), .int .i64 ((rd_T41 l0 a2).f6), .int .i64 ((rd_T41 l0 a2).f7)] (fun _ => True) (fun _ => False) rfl rfl ?aP (fun _ hk => hk.elim) ?aF ?aO ?aB ?aS ?aL ?_; (case aP => exact k41_mkM _ _ _ (⟨(rd_T41 l0 a2).f0, (⟨(rd_T41 l0 a2).f1.f0, (rd_T41 l0 a2).f1.f1, (rd_T41 l0 a2).f1.f2⟩ : S39), (⟨(rd_T41 l0 a2).f2.f0, (rd_T41 l0 a2).f2.f1⟩ : S33), (⟨(rd_T41 l0 a2).f3.f0, (rd_T41 l0 a2).f3.f1⟩ : S33), (rd_T41 l0 a2).f4, (rd_T41 l0 a2).f5, (rd_T41 l0 a2).f6, (rd_T41 l0 a2).f7⟩ : S41)); (case aB => exact (qL HB)); (case aF => exact (fun _ _ => trivial)); (case aO => exact (qR aK)); (case aS => exact (below_size (qL HB))); (case aL => have := LMc7005.out; omega); intro bV bW ho hb hg hat; rw [← b7.out] at ho; have bF := az (ho); replace aD := az (Kd.R_over' (qR aD) (Kd.R_typed (qR aK)) (by decide) hg); replace HB := az hb; clear aK ho hb hg hat))
        go_roundg k1
        case measure => have := b9.out; omega
        exact ⟨(aJ), (wrap64 (a2 + 1)), qG, H', ⟨by have := b9.out; omega⟩, ⟨qR bF⟩, ⟨qR aD⟩, ⟨qL HB⟩⟩
      case L4 =>
        go_wp2
        go_roundg k1
        case measure => have := b9.out; omega
        exact ⟨(aA), (wrap64 (a2 + 1)), qG, H', ⟨by have := b9.out; omega⟩, ⟨qR aK⟩, ⟨qR aD⟩, ⟨qL HB⟩⟩
      case L5 =>
        go_wp2
        go_ret
        exact ⟨_, qE, qR aK, qL HB⟩
        
end Go.Proofs.Ytdngjedhbnoaoaa.PBig
