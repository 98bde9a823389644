/- What these functions compute, each walked once: base_3, spec_l7Neg, spec_DrawGroupOf, impl_GroupOf, laws_pqBodies, spec_GroupOf, laws_FnGroupOf; for all arguments and worlds, under the conditions that each theorem names. -/
import Derived.Test.YtdngjedhbnoaoaaSq
import Derived.Test.YtdngjedhbnoaoaaPBigx900
import Derived.Test.YtdngjedhbnoaoaaPBigx903
import Derived.Test.YtdngjedhbnoaoaaPBigx905
import Derived.Test.YtdngjedhbnoaoaaPBigx912
import Derived.Test.YtdngjedhbnoaoaaPBigx914
import Derived.Test.YtdngjedhbnoaoaaPBigx917
import Derived.Test.YtdngjedhbnoaoaaPBigx920
namespace Go.Proofs.Ytdngjedhbnoaoaa.PBig
open Go.RowKit Go.Proofs.YtdngjedhbnoaoaaW.PrintWords Go.Proofs.YtdngjedhbnoaoaaW.PrintLast Go.Proofs.YtdngjedhbnoaoaaW.PrintMore
attribute [local go_sem] max2_int min2_int max_two min_two max_three min_three max_four min_four
set_option linter.unusedVariables false
set_option linter.unusedSimpArgs false
set_option maxHeartbeats 8000000
set_option maxRecDepth 100000

theorem eqA39 (d : Nat) (w : World) (x0 y0 : Int) (x1 y1 : Int) (x2 y2 : Int) :
    (Op.equalIn (d + 2) 39 (.agg #[.int .i64 x0, .int .i64 x1, .int .i64 x2]) (.agg #[.int .i64 y0, .int .i64 y1, .int .i64 y2])).run Try.prog w = .ok (x0 == y0 && (x1 == y1 && (x2 == y2))) w := by
  refine eqA_of Try.underlying39 (by kernel_rfl) ?_
  refine eqf_cons (by rfl) (by go_simp; rfl) (by go_simp; rfl) (by go_simp) ?_
  refine eqf_cons (by rfl) (by go_simp; rfl) (by go_simp; rfl) (by go_simp) ?_
  exact eqf_last (by rfl) (by go_simp; rfl) (by go_simp; rfl) (by go_simp)
theorem eqA41 (d : Nat) (w : World) (x0 y0 : Int) (x1 y1 : Int) (x2 y2 : Int) (x3 y3 : Int) (x4 y4 : Int) (x5 y5 : Int) (x6 y6 : Int) (x7 y7 : Int) (x8 y8 : Int) (x9 y9 : Int) (a0 a1 : Int) (a2 a3 : Int) :
    (Op.equalIn (d + 3) 41 (.agg #[.int .i64 x0, .int .i64 x1, .int .i64 x2, .int .i64 x3, .int .i64 x4, .int .i64 x5, .int .i64 x6, .int .i64 x7, .int .i64 x8, .int .i64 x9, .int .i64 a0, .int .i64 a2]) (.agg #[.int .i64 y0, .int .i64 y1, .int .i64 y2, .int .i64 y3, .int .i64 y4, .int .i64 y5, .int .i64 y6, .int .i64 y7, .int .i64 y8, .int .i64 y9, .int .i64 a1, .int .i64 a3])).run Try.prog w = .ok (x0 == y0 && ((x1 == y1 && (x2 == y2 && (x3 == y3))) && ((x4 == y4 && (x5 == y5)) && ((x6 == y6 && (x7 == y7)) && (x8 == y8 && (x9 == y9 && (a0 == a1 && (a2 == a3)))))))) w := by
  refine eqA_of Try.underlying41 (by kernel_rfl) ?_
  refine eqf_cons (by rfl) (by go_simp; rfl) (by go_simp; rfl) (by go_simp) ?_
  refine eqf_cons (by rfl) (by go_simp) (by go_simp) (eqA39 (d + 0) w _ _ _ _ _ _) ?_
  refine eqf_cons (by rfl) (by go_simp) (by go_simp) (eqA33 (d + 0) w _ _ _ _) ?_
  refine eqf_cons (by rfl) (by go_simp) (by go_simp) (eqA33 (d + 0) w _ _ _ _) ?_
  refine eqf_cons (by rfl) (by go_simp; rfl) (by go_simp; rfl) (by go_simp) ?_
  refine eqf_cons (by rfl) (by go_simp; rfl) (by go_simp; rfl) (by go_simp) ?_
  refine eqf_cons (by rfl) (by go_simp; rfl) (by go_simp; rfl) (by go_simp) ?_
  exact eqf_last (by rfl) (by go_simp; rfl) (by go_simp; rfl) (by go_simp)

/-! ### spec_l7Neg: function 60 -/
def spec_l7Neg.f (a0 : Bool) : Option (Int) := if a0 = true then (some 5) else (some 0)
theorem spec_l7Neg.calls {a0 : Bool} {r : Int} {w : World} (h : spec_l7Neg.f a0 = some r) :
  Calls Try.prog 60 #[.bool a0] w fun e w' => e = .returned (.int .i64 r) ∧ Drawn0 w w' := by
 have H : (if a0 = true then (some 5) else (some 0)) = some r := h; clear h; by_cases c2 : a0 = true
 ·subst c2; replace H := qT H; obtain rfl := Option.some.inj H; go_enter Try.func60, Try.ntmps60; go_wp2
  go_ret
  exact ⟨by first | rfl | (simp; done) | (simp [*]; done), by repeat (first | exact Drawn0.refl _ | apply Drawn0.step)⟩
 replace c2 := Bool.eq_false_iff.mpr c2; subst c2; replace H := qU H; obtain rfl := Option.some.inj H; go_enter Try.func60, Try.ntmps60; go_wp2
 go_ret
 exact ⟨by first | rfl | (simp; done) | (simp [*]; done), by repeat (first | exact Drawn0.refl _ | apply Drawn0.step)⟩

/-! ### spec_DrawGroupOf: function 23 -/
def spec_DrawGroupOf.f (k : Nat) (l0 : List Int) : Option ((List S41) × Int) := (spec_l1Open.f l0).bind fun bt1163 => ((spec_l11AnyBodies.f k bt1163.1 bt1163.2).bind fun bt1166 => ((spec_l1Rd_pick.f k bt1163.1 bt1166.2 4).bind fun bt1170 => ((spec_l1Rd_pick.f k bt1163.1 bt1170.2 8).bind fun bt1172 => ((spec_l7Neg.f (bt1172.1 == 0)).bind fun a3 => (some (bt1166.1, wrap64 (bt1170.1 - a3)))))))
theorem spec_DrawGroupOf.calls {k : Nat} {A0 : Option Addr} {c0 : Nat} {l0 : List Int} {r1 : List S41} {r2 : Int} {w : World} (hr0 : Kd.C (Kd.int .u8) w A0 l0.length l0) (hc0 : l0.length ≤ c0) (h : spec_DrawGroupOf.f k l0 = some (r1, r2)) :
  Calls Try.prog 23 #[.slice A0 l0.length c0] w fun e w' => ∃ a7 : Value, e = .returned (.tuple #[a7, .int .i64 r2]) ∧ Kd.R k41 41 w' w.heap.size (fun _ => True) a7 r1 ∧ Below w.heap.size w w' := by
 have HR0 := az hr0; have a9 := az hc0; clear hr0 hc0; have HB := br w
 unfold spec_DrawGroupOf.f at h
 have H := h; clear h; replace H := qH H; obtain ⟨⟨a4, aA⟩, A2, H⟩ := H
 try dsimp only at H
 replace H := qH H; obtain ⟨⟨aB, a5⟩, A3, H⟩ := H
 try dsimp only at H
 replace H := qH H; obtain ⟨⟨aC, a6⟩, A4, H⟩ := H
 try dsimp only at H
 replace H := qH H; obtain ⟨⟨aD, aE⟩, A5, H⟩ := H
 try dsimp only at H
 replace H := qH H; obtain ⟨a3, A6, H⟩ := H
 simp only [Option.some.injEq, Prod.mk.injEq] at H; obtain ⟨rfl, rfl⟩ := H; go_enter Try.func23, Try.ntmps23; go_wp2_with (first | ((with_reducible refine gc 50 rfl ?_); refine gx 6 Try.func50 (spec_l1Open.calls (w0 := w) (qL HB) HR0.out a9.out A2.out) ?_; rintro a2 w7 ⟨hi, hb, hb2⟩; have a0 := az hi; replace HB := az hb; clear hb2 hb hi) | ((with_reducible refine gc 49 rfl ?_); refine gx 8 Try.func49 (spec_l11AnyBodies.calls (g := a2) (w0 := w) (qI a0) (qL HB) A3.out) ?_; rintro aF w8 ⟨a8, hi, hb, hk⟩; have a1 := lo a8 HB; replace HB := az hb; replace a0 := az hi; clear hb hk hi) | ((with_reducible refine gc 59 rfl ?_); refine gr 10 Try.func59 (spec_l1Rd_pick.calls (g := a2) (w0 := w) (qI a0) (qL HB) A4.out) ?_; rintro w9 ⟨hi, hb, hk⟩; replace a1 := ia a0 a1 hk; replace HB := az hb; replace a0 := az hi; clear hb hk hi) | ((with_reducible refine gc 59 rfl ?_); refine gr 12 Try.func59 (spec_l1Rd_pick.calls (g := a2) (w0 := w) (qI a0) (qL HB) A5.out) ?_; rintro aG ⟨hi, hb, hk⟩; replace a1 := ia a0 a1 hk; replace HB := az hb; replace a0 := az hi; clear hb hk hi) | ((with_reducible refine gc 60 rfl ?_); refine gr 14 Try.func60 (spec_l7Neg.calls A6.out) ?_; rintro w' ⟨nd, rfl⟩))
 go_ret2
 exact ⟨_, qE, qR a1, qL HB⟩

/-! ### impl_GroupOf: function 24 -/
def impl_GroupOf.l0 : Nat → List S41 → Int → List S41 → List Int → Int → Int → Option ((List S41))
  | 0, _, _, _, _, _, _ => none
  | k + 1, x0, x1, x5, aX, b6, a3 => if a3 < b6 then (if 0 ≤ a3 then (if a3 < (aX.length : Int) then (if (rd aX a3) = x1 then (if a3 < (x0.length : Int) then (if x5.length < 1466015503701 then (impl_GroupOf.l0 k x0 x1 (x5 ++ [(⟨(rd_T41 x0 a3).f0, (⟨(rd_T41 x0 a3).f1.f0, (rd_T41 x0 a3).f1.f1, (rd_T41 x0 a3).f1.f2⟩ : S39), (⟨(rd_T41 x0 a3).f2.f0, (rd_T41 x0 a3).f2.f1⟩ : S33), (⟨(rd_T41 x0 a3).f3.f0, (rd_T41 x0 a3).f3.f1⟩ : S33), (rd_T41 x0 a3).f4, (rd_T41 x0 a3).f5, (rd_T41 x0 a3).f6, (rd_T41 x0 a3).f7⟩ : S41)]) aX b6 (wrap64 (a3 + 1))) else none) else none) else (if (rd aX a3) < 0 then (if a3 < (x0.length : Int) then (if x5.length < 1466015503701 then (impl_GroupOf.l0 k x0 x1 (x5 ++ [(⟨(rd_T41 x0 a3).f0, (⟨(rd_T41 x0 a3).f1.f0, (rd_T41 x0 a3).f1.f1, (rd_T41 x0 a3).f1.f2⟩ : S39), (⟨(rd_T41 x0 a3).f2.f0, (rd_T41 x0 a3).f2.f1⟩ : S33), (⟨(rd_T41 x0 a3).f3.f0, (rd_T41 x0 a3).f3.f1⟩ : S33), (rd_T41 x0 a3).f4, (rd_T41 x0 a3).f5, (rd_T41 x0 a3).f6, (rd_T41 x0 a3).f7⟩ : S41)]) aX b6 (wrap64 (a3 + 1))) else none) else none) else (impl_GroupOf.l0 k x0 x1 x5 aX b6 (wrap64 (a3 + 1))))) else none) else none) else (some x5)
def impl_GroupOf.f (k : Nat) (l0 : List S41) (a1 : Int) : Option ((List S41)) := if a1 < 0 then (some ([] : List S41)) else ((impl_Groups.f k l0).bind fun b7 => (impl_GroupOf.l0 k l0 a1 ([] : List S41) b7 (b7.length : Int) 0))
theorem impl_GroupOf.calls {k : Nat} {A0 : Option Addr} {c0 : Nat} {l0 : List S41} {a1 : Int} {r : List S41} {w : World} (hr0 : Kd.C k41 w A0 l0.length l0) (hc0 : l0.length ≤ c0) (h : impl_GroupOf.f k l0 a1 = some r) :
  Calls Try.prog 24 #[.slice A0 l0.length c0, .int .i64 a1] w fun e w' => ∃ bI : Value, e = .returned (bI) ∧ Kd.R k41 41 w' w.heap.size (fun _ => True) bI r ∧ Below w.heap.size w w' := by
 have hu41 := Try.underlying41; have HR0 := az hr0; have bM := az hc0; clear hr0 hc0; have HB := br w
 unfold impl_GroupOf.f at h
 have H := h; clear h; replace H := qc H; obtain ⟨aY, H⟩ | ⟨aY, H⟩ := H; obtain rfl := Option.some.inj H; refine ?L1; rotate_left; replace H := qH H; obtain ⟨a2, bF, H⟩ := H
 have H' := az H; clear H; refine ?L6
 rotate_right
 case' L1 | L6 =>
  go_enter Try.func24, Try.ntmps24
 case L1 =>
  go_wp2
  go_ret
  exact ⟨_, qE, by first | exact Kd.R_nil _ _ _ _ _ | exact Kd.N_nil _ _ _ _ _ | exact Kd.V_nil _ _ _ _ _ | exact Kd.Q_nil _ _ _ _ _ | exact Kd.S_nil _ _ _ _ _, qL HB⟩
 case L6 =>
  go_wp2_with (first | ((with_reducible refine gc 14 rfl ?_); refine gx 11 Try.func14 (impl_Groups.calls (qC HR0.out) bM.out bF.out) ?_; rintro bT w5 ⟨bJ, hb⟩; have b4 := lo bJ HB; replace HB := bS HB hb; clear hb; obtain ⟨bN, bO, bP⟩ := Kd.R_slice b4.out; subst bP))
  go_loopg [5, 13] k (fun kq v5 v13 w' => ∃ (a9 : List S41) (a0 : Int), v13 = .int .i64 a0 ∧ Aside0 (impl_GroupOf.l0 kq l0 a1 a9 a2 (a2.length : Int) a0 = some r) ∧ Aside0 (kq ≤ k) ∧ Aside0 (Kd.R k41 41 w' w.heap.size (fun _ => True) v5 a9) ∧ Aside0 (Kd.R (Kd.int .i64) 3 w' w.heap.size (fun _ => True) (.slice bN a2.length bO) a2) ∧ Aside0 (Below w.heap.size w w'))
  case atStart => exact ⟨(([] : List S41)), (0), qG, H', ⟨Nat.le_refl _⟩, ⟨by first | exact Kd.R_nil _ _ _ _ _ | exact Kd.N_nil _ _ _ _ _ | exact Kd.V_nil _ _ _ _ _ | exact Kd.Q_nil _ _ _ _ _ | exact Kd.S_nil _ _ _ _ _⟩, ⟨qR b4⟩, ⟨qL HB⟩⟩
  case round =>
   clear H'; obtain ⟨a9, a0, rfl, HA, b8, aI, aA, HB⟩ := hrel
   obtain ⟨k1, rfl⟩ := qz gk HA
   have H := HA.out; clear HA; simp only [impl_GroupOf.l0] at H; replace H := qc H; obtain ⟨aZ, H⟩ | ⟨aZ, H⟩ := H; replace H := qd H; obtain ⟨bL, H⟩ := H; replace H := qd H; obtain ⟨aZ, H⟩ := H; by_cases a7 : (rd a2 a0) = a1; rw [if_pos a7] at H; have bA : ((rd a2 a0) == a1) = true := beq_iff_eq.mpr a7; have bB : ((rd a2 a0) != a1) = false := bne_eq_false_iff_eq.mpr a7; clear a7; replace H := qd H; obtain ⟨bC, H⟩ := H; replace H := qif H; obtain ⟨aD, H⟩ := H; have LMc7005 := az aD; clear aD; obtain ⟨aH, a4⟩ : ∃ y_ : List S41, y_ = (a9 ++ [(⟨(rd_T41 l0 a0).f0, (⟨(rd_T41 l0 a0).f1.f0, (rd_T41 l0 a0).f1.f1, (rd_T41 l0 a0).f1.f2⟩ : S39), (⟨(rd_T41 l0 a0).f2.f0, (rd_T41 l0 a0).f2.f1⟩ : S33), (⟨(rd_T41 l0 a0).f3.f0, (rd_T41 l0 a0).f3.f1⟩ : S33), (rd_T41 l0 a0).f4, (rd_T41 l0 a0).f5, (rd_T41 l0 a0).f6, (rd_T41 l0 a0).f7⟩ : S41)]) := ⟨_, rfl⟩
   replace H : (impl_GroupOf.l0 k1 l0 a1 aH a2 (a2.length : Int) (wrap64 (a0 + 1))) = some r := qs H a4
   have b5 := az a4; clear a4; have H' := az H; clear H; refine ?L2; rotate_left; rw [if_neg a7] at H; have bA : ((rd a2 a0) == a1) = false := beq_eq_false_iff_ne.mpr a7; have bB : ((rd a2 a0) != a1) = true := bne_iff_ne.mpr a7; replace H := qc H; obtain ⟨bD, H⟩ | ⟨bD, H⟩ := H; replace H := qd H; obtain ⟨bC, H⟩ := H; replace H := qif H; obtain ⟨aD, H⟩ := H; have LMc7005 := az aD; clear aD; obtain ⟨aH, a4⟩ : ∃ y_ : List S41, y_ = (a9 ++ [(⟨(rd_T41 l0 a0).f0, (⟨(rd_T41 l0 a0).f1.f0, (rd_T41 l0 a0).f1.f1, (rd_T41 l0 a0).f1.f2⟩ : S39), (⟨(rd_T41 l0 a0).f2.f0, (rd_T41 l0 a0).f2.f1⟩ : S33), (⟨(rd_T41 l0 a0).f3.f0, (rd_T41 l0 a0).f3.f1⟩ : S33), (rd_T41 l0 a0).f4, (rd_T41 l0 a0).f5, (rd_T41 l0 a0).f6, (rd_T41 l0 a0).f7⟩ : S41)]) := ⟨_, rfl⟩
   replace H : (impl_GroupOf.l0 k1 l0 a1 aH a2 (a2.length : Int) (wrap64 (a0 + 1))) = some r := qs H a4
   have b5 := az a4; clear a4; have H' := az H; clear H; refine ?L3; rotate_left; have H' := az H; clear H; refine ?L4
   rotate_right 2
   rotate_left 3
   obtain rfl := Option.some.inj H; refine ?L5
   rotate_right 3
   case' L2 | L3 | L4 =>
    obtain ⟨b0, b1, bQ, bG, bK⟩ := ayi (rr aA) a0; cases bG
   case' L2 | L3 =>
    obtain ⟨b2, b3, bR, bH, aJ, aK, aM, aN, aQ, aR, aT, aU, aV, aW, aE, aG⟩ := ay41 HR0.out a0; cases bH; obtain ⟨aJ, aK, aM, aN, aQ, aR, aT, aU, aV, aW, aE, aG⟩ := hB12 HB aJ aK aM aN aQ aR aT aU aV aW aE aG; go_wp2_with (first | ((with_reducible refine ga 25 30 rfl ?_); at_builtin; refine Kd.R_append k41 (w0 := w) w.heap.size rfl (.tmp 25) (.tmp 30) 23 41 (.agg #[(.int .i64 0), (.int .i64 0), (.int .i64 0), (.int .i64 0), (.int .i64 0), (.int .i64 0), (.int .i64 0), (.int .i64 0), (.int .i64 0), (.int .i64 0), (.int .i64 0), (.int .i64 0)]) 96 rfl Try.underlying23 info41 rfl (by decide) (by omega) u5 a9 (⟨(rd_T41 l0 a0).f0, (⟨(rd_T41 l0 a0).f1.f0, (rd_T41 l0 a0).f1.f1, (rd_T41 l0 a0).f1.f2⟩ : S39), (⟨(rd_T41 l0 a0).f2.f0, (rd_T41 l0 a0).f2.f1⟩ : S33), (⟨(rd_T41 l0 a0).f3.f0, (rd_T41 l0 a0).f3.f1⟩ : S33), (rd_T41 l0 a0).f4, (rd_T41 l0 a0).f5, (rd_T41 l0 a0).f6, (rd_T41 l0 a0).f7⟩ : S41) (v41 (rd_T41 l0 a0)) (fun _ => True) (fun _ => False) rfl rfl ?aP (fun _ hk => hk.elim) ?aF ?aO ?aB ?aS ?aL ?_; (case aP => exact k41_mkM _ _ _ (⟨(rd_T41 l0 a0).f0, (⟨(rd_T41 l0 a0).f1.f0, (rd_T41 l0 a0).f1.f1, (rd_T41 l0 a0).f1.f2⟩ : S39), (⟨(rd_T41 l0 a0).f2.f0, (rd_T41 l0 a0).f2.f1⟩ : S33), (⟨(rd_T41 l0 a0).f3.f0, (rd_T41 l0 a0).f3.f1⟩ : S33), (rd_T41 l0 a0).f4, (rd_T41 l0 a0).f5, (rd_T41 l0 a0).f6, (rd_T41 l0 a0).f7⟩ : S41)); (case aB => exact (qL HB)); (case aF => exact (fun _ _ => trivial)); (case aO => exact (qR aI)); (case aS => exact (below_size (qL HB))); (case aL => have := LMc7005.out; omega); intro bU bV ho hb hg hat; rw [← b5.out] at ho; have bE := az ho; replace aA := az (Kd.R_over' (qR aA) (Kd.R_typed (qR aI)) (by decide) hg); replace HB := az hb; clear aI ho hb hg hat))
    go_roundg k1
    case measure => exact ma b8
    exact ⟨(aH), (wrap64 (a0 + 1)), qG, H', ⟨ma b8⟩, ⟨qR bE⟩, ⟨qR aA⟩, ⟨qL HB⟩⟩
   case L4 =>
    go_wp2
    go_roundg k1
    case measure => exact ma b8
    exact ⟨(a9), (wrap64 (a0 + 1)), qG, H', ⟨ma b8⟩, ⟨qR aI⟩, ⟨qR aA⟩, ⟨qL HB⟩⟩
   case L5 =>
    go_wp2
    go_ret
    exact ⟨_, qE, qR aI, qL HB⟩

attribute [local go_sem high] eqA41
/-! ### laws_pqBodies: function 25 -/
def laws_pqBodies.l0 : Nat → List S41 → List S41 → Int → Option (Bool)
  | 0, _, _, _ => none
  | k + 1, x0, x1, x5 => if x5 < (x0.length : Int) then (if 0 ≤ x5 then (if x5 < (x1.length : Int) then (if (!(((rd_T41 x0 x5).f0) == ((rd_T41 x1 x5).f0)) || ((!(((rd_T41 x0 x5).f1.f0) == ((rd_T41 x1 x5).f1.f0)) || (!(((rd_T41 x0 x5).f1.f1) == ((rd_T41 x1 x5).f1.f1)) || (!(((rd_T41 x0 x5).f1.f2) == ((rd_T41 x1 x5).f1.f2))))) || ((!(((rd_T41 x0 x5).f2.f0) == ((rd_T41 x1 x5).f2.f0)) || (!(((rd_T41 x0 x5).f2.f1) == ((rd_T41 x1 x5).f2.f1)))) || ((!(((rd_T41 x0 x5).f3.f0) == ((rd_T41 x1 x5).f3.f0)) || (!(((rd_T41 x0 x5).f3.f1) == ((rd_T41 x1 x5).f3.f1)))) || (!(((rd_T41 x0 x5).f4) == ((rd_T41 x1 x5).f4)) || (!(((rd_T41 x0 x5).f5) == ((rd_T41 x1 x5).f5)) || (!(((rd_T41 x0 x5).f6) == ((rd_T41 x1 x5).f6)) || (!(((rd_T41 x0 x5).f7) == ((rd_T41 x1 x5).f7)))))))))) = true then (some false) else (laws_pqBodies.l0 k x0 x1 (wrap64 (x5 + 1)))) else none) else none) else (some true)
def laws_pqBodies.f (k : Nat) (l0 l1 : List S41) : Option (Bool) := if (l0.length : Int) = (l1.length : Int) then (laws_pqBodies.l0 k l0 l1 0) else (some false)
theorem laws_pqBodies.calls {k : Nat} {A0 : Option Addr} {c0 : Nat} {l0 : List S41} {A1 : Option Addr} {c1 : Nat} {l1 : List S41} {r : Bool} {w : World} (hr0 : Kd.C k41 w A0 l0.length l0) (hc0 : l0.length ≤ c0) (hr1 : Kd.C k41 w A1 l1.length l1) (hc1 : l1.length ≤ c1) (h : laws_pqBodies.f k l0 l1 = some r) :
  Calls Try.prog 25 #[.slice A0 l0.length c0, .slice A1 l1.length c1] w fun e w' => e = .returned (.bool r) ∧ Drawn0 w w' := by
 have hu41 := Try.underlying41; have HR0 := az hr0; have bA := az hc0; clear hr0 hc0; have HR1 := az hr1; have bB := az hc1; clear hr1 hc1; have H : (if (l0.length : Int) = (l1.length : Int) then (laws_pqBodies.l0 k l0 l1 0) else (some false)) = some r := h; clear h; by_cases a1 : (l0.length : Int) = (l1.length : Int); rw [if_pos a1] at H; have a4 : ((l0.length : Int) == (l1.length : Int)) = true := beq_iff_eq.mpr a1; have a5 : ((l0.length : Int) != (l1.length : Int)) = false := bne_eq_false_iff_eq.mpr a1
 have a6 : (l0.length == l1.length) = true := by first | simpa using a1 | (simp at a1 ⊢; omega)
 clear a1; have H' := az H; clear H; refine ?L4; rotate_left; rw [if_neg a1] at H; have a4 : ((l0.length : Int) == (l1.length : Int)) = false := beq_eq_false_iff_ne.mpr a1; have a5 : ((l0.length : Int) != (l1.length : Int)) = true := bne_iff_ne.mpr a1
 have a6 : (l0.length == l1.length) = false := by first | simpa using a1 | (simp at a1 ⊢; omega)
 obtain rfl := Option.some.inj H; refine ?L5
 rotate_right
 case' L4 | L5 =>
  go_enter Try.func25, Try.ntmps25; go_wp2
  repeat (go_quiet (fail); try go_wp2)
 case L4 =>
  go_loopg [5] k (fun kq v5 w' => ∃ (a0 : Int), v5 = .int .i64 a0 ∧ Aside0 (laws_pqBodies.l0 kq l0 l1 a0 = some r) ∧ Aside0 (kq ≤ k) ∧ Drawn0 w w')
  case atStart => exact ⟨(0), qG, H', ⟨Nat.le_refl _⟩, by repeat (first | exact Drawn0.refl _ | apply Drawn0.step)⟩
  case round =>
   clear H'; obtain ⟨a0, rfl, HA, aH, ⟨m1, rfl⟩⟩ := hrel
   obtain ⟨k1, rfl⟩ := qz gk HA
   have H := HA.out; clear HA; simp only [laws_pqBodies.l0] at H; replace H := qc H; obtain ⟨aD, H⟩ | ⟨aD, H⟩ := H; replace H := qd H; obtain ⟨b6, H⟩ := H; replace H := qd H; obtain ⟨b7, H⟩ := H; by_cases a3 : (!(((rd_T41 l0 a0).f0) == ((rd_T41 l1 a0).f0)) || ((!(((rd_T41 l0 a0).f1.f0) == ((rd_T41 l1 a0).f1.f0)) || (!(((rd_T41 l0 a0).f1.f1) == ((rd_T41 l1 a0).f1.f1)) || (!(((rd_T41 l0 a0).f1.f2) == ((rd_T41 l1 a0).f1.f2))))) || ((!(((rd_T41 l0 a0).f2.f0) == ((rd_T41 l1 a0).f2.f0)) || (!(((rd_T41 l0 a0).f2.f1) == ((rd_T41 l1 a0).f2.f1)))) || ((!(((rd_T41 l0 a0).f3.f0) == ((rd_T41 l1 a0).f3.f0)) || (!(((rd_T41 l0 a0).f3.f1) == ((rd_T41 l1 a0).f3.f1)))) || (!(((rd_T41 l0 a0).f4) == ((rd_T41 l1 a0).f4)) || (!(((rd_T41 l0 a0).f5) == ((rd_T41 l1 a0).f5)) || (!(((rd_T41 l0 a0).f6) == ((rd_T41 l1 a0).f6)) || (!(((rd_T41 l0 a0).f7) == ((rd_T41 l1 a0).f7)))))))))) = true; rw [if_pos a3] at H; have aE : (!(((rd_T41 l0 a0).f0) == ((rd_T41 l1 a0).f0)) || ((!(((rd_T41 l0 a0).f1.f0) == ((rd_T41 l1 a0).f1.f0)) || (!(((rd_T41 l0 a0).f1.f1) == ((rd_T41 l1 a0).f1.f1)) || (!(((rd_T41 l0 a0).f1.f2) == ((rd_T41 l1 a0).f1.f2))))) || ((!(((rd_T41 l0 a0).f2.f0) == ((rd_T41 l1 a0).f2.f0)) || (!(((rd_T41 l0 a0).f2.f1) == ((rd_T41 l1 a0).f2.f1)))) || ((!(((rd_T41 l0 a0).f3.f0) == ((rd_T41 l1 a0).f3.f0)) || (!(((rd_T41 l0 a0).f3.f1) == ((rd_T41 l1 a0).f3.f1)))) || (!(((rd_T41 l0 a0).f4) == ((rd_T41 l1 a0).f4)) || (!(((rd_T41 l0 a0).f5) == ((rd_T41 l1 a0).f5)) || (!(((rd_T41 l0 a0).f6) == ((rd_T41 l1 a0).f6)) || (!(((rd_T41 l0 a0).f7) == ((rd_T41 l1 a0).f7)))))))))) = true := a3; clear a3; obtain rfl := Option.some.inj H; refine ?L1; rotate_left; rw [if_neg a3] at H
   have aE : (!(((rd_T41 l0 a0).f0) == ((rd_T41 l1 a0).f0)) || ((!(((rd_T41 l0 a0).f1.f0) == ((rd_T41 l1 a0).f1.f0)) || (!(((rd_T41 l0 a0).f1.f1) == ((rd_T41 l1 a0).f1.f1)) || (!(((rd_T41 l0 a0).f1.f2) == ((rd_T41 l1 a0).f1.f2))))) || ((!(((rd_T41 l0 a0).f2.f0) == ((rd_T41 l1 a0).f2.f0)) || (!(((rd_T41 l0 a0).f2.f1) == ((rd_T41 l1 a0).f2.f1)))) || ((!(((rd_T41 l0 a0).f3.f0) == ((rd_T41 l1 a0).f3.f0)) || (!(((rd_T41 l0 a0).f3.f1) == ((rd_T41 l1 a0).f3.f1)))) || (!(((rd_T41 l0 a0).f4) == ((rd_T41 l1 a0).f4)) || (!(((rd_T41 l0 a0).f5) == ((rd_T41 l1 a0).f5)) || (!(((rd_T41 l0 a0).f6) == ((rd_T41 l1 a0).f6)) || (!(((rd_T41 l0 a0).f7) == ((rd_T41 l1 a0).f7)))))))))) = false := by simpa using a3
   clear a3; have H' := az H; clear H; refine ?L2
   rotate_right
   rotate_left 2
   obtain rfl := Option.some.inj H; refine ?L3
   rotate_right 2
   case' L1 | L2 =>
    obtain ⟨a7, a8, b8, aF, aM, aN, aO, aP, aQ, aR, aS, aT, aU, aV, aI, aJ⟩ := ay41 HR0.out a0; cases aF; obtain ⟨a9, aA, b9, aG, aW, aX, aY, aZ, b0, b1, b2, b3, b4, b5, aK, aL⟩ := ay41 HR1.out a0; cases aG; go_wp2
    repeat (go_quiet (fail); try go_wp2)
   case L1 =>
    go_ret
    exact ⟨by first | rfl | (simp; done) | (simp [*]; done), by repeat (first | exact Drawn0.refl _ | apply Drawn0.step)⟩
   case L2 =>
    go_roundg k1
    case measure => exact ma aH
    exact ⟨(wrap64 (a0 + 1)), qG, H', ⟨ma aH⟩, by repeat (first | exact Drawn0.refl _ | apply Drawn0.step)⟩
   case L3 =>
    go_wp2
    repeat (go_quiet (fail); try go_wp2)
    go_ret
    exact ⟨by first | rfl | (simp; done) | (simp [*]; done), by repeat (first | exact Drawn0.refl _ | apply Drawn0.step)⟩
 case L5 =>
  go_ret
  exact ⟨by first | rfl | (simp; done) | (simp [*]; done), by repeat (first | exact Drawn0.refl _ | apply Drawn0.step)⟩

/-! ### spec_GroupOf: function 26 -/
mutual
def spec_GroupOf.j0 : Nat → List S41 → Int → List S41 → Bool → Option ((List S41))
  | 0, _, _, _, _ => none
  | k + 1, x0, x1, x5, cP => if cP = true then (some x5) else ((spec_l7Contacts.f k x0).bind fun c9 => ((spec_l7Groups.f k x0 c9).bind fun cA => (spec_GroupOf.l0 k x0 x1 x5 cA 0)))
def spec_GroupOf.l0 : Nat → List S41 → Int → List S41 → List Int → Int → Option ((List S41))
  | 0, _, _, _, _, _ => none
  | k + 1, x0, x1, x5, x6, x7 => if x7 < (x0.length : Int) then (if 0 ≤ x7 then (if x7 < (x6.length : Int) then (if (rd x6 x7) = x1 then (if x5.length < 1466015503701 then (spec_GroupOf.l0 k x0 x1 (x5 ++ [(⟨(rd_T41 x0 x7).f0, (⟨(rd_T41 x0 x7).f1.f0, (rd_T41 x0 x7).f1.f1, (rd_T41 x0 x7).f1.f2⟩ : S39), (⟨(rd_T41 x0 x7).f2.f0, (rd_T41 x0 x7).f2.f1⟩ : S33), (⟨(rd_T41 x0 x7).f3.f0, (rd_T41 x0 x7).f3.f1⟩ : S33), (rd_T41 x0 x7).f4, (rd_T41 x0 x7).f5, (rd_T41 x0 x7).f6, (rd_T41 x0 x7).f7⟩ : S41)]) x6 (wrap64 (x7 + 1))) else none) else (if (rd x6 x7) < 0 then (if x5.length < 1466015503701 then (spec_GroupOf.l0 k x0 x1 (x5 ++ [(⟨(rd_T41 x0 x7).f0, (⟨(rd_T41 x0 x7).f1.f0, (rd_T41 x0 x7).f1.f1, (rd_T41 x0 x7).f1.f2⟩ : S39), (⟨(rd_T41 x0 x7).f2.f0, (rd_T41 x0 x7).f2.f1⟩ : S33), (⟨(rd_T41 x0 x7).f3.f0, (rd_T41 x0 x7).f3.f1⟩ : S33), (rd_T41 x0 x7).f4, (rd_T41 x0 x7).f5, (rd_T41 x0 x7).f6, (rd_T41 x0 x7).f7⟩ : S41)]) x6 (wrap64 (x7 + 1))) else none) else (spec_GroupOf.l0 k x0 x1 x5 x6 (wrap64 (x7 + 1))))) else none) else none) else (some x5)
end
def spec_GroupOf.f (k : Nat) (l0 : List S41) (a1 : Int) : Option ((List S41)) := (some (([] : List S41) : List S41)).bind fun aC => ((spec_BodiesOk.f k l0).bind fun cB => (if cB = true then (spec_GroupOf.j0 k l0 a1 aC (decide (a1 < 0))) else (spec_GroupOf.j0 k l0 a1 aC true)))
theorem spec_GroupOf.calls {k : Nat} {A0 : Option Addr} {c0 : Nat} {l0 : List S41} {a1 : Int} {r : List S41} {w : World} (hr0 : Kd.C k41 w A0 l0.length l0) (hc0 : l0.length ≤ c0) (h : spec_GroupOf.f k l0 a1 = some r) :
  Calls Try.prog 26 #[.slice A0 l0.length c0, .int .i64 a1] w fun e w' => ∃ cI : Value, e = .returned (cI) ∧ Kd.R k41 41 w' w.heap.size (fun _ => True) cI r ∧ Below w.heap.size w w' := by
 have hu41 := Try.underlying41; have HR0 := az hr0; have bW := az hc0; clear hr0 hc0; have HB := br w
 unfold spec_GroupOf.f at h
 have H := h; clear h; obtain ⟨aC, aV⟩ : ∃ y_ : List S41, y_ = (([] : List S41)) := ⟨_, rfl⟩; (try replace H := qW H); (try dsimp only at H); (try rw [← aV] at H); have bQ := az aV; clear aV; have c5 := az H; clear H; go_enter Try.func26, Try.ntmps26
 go_upto_region 2 with (first | ((with_reducible refine gd 8 rfl ?_); refine Kd.R_lit k41 _ 41 ?hg (N := 8) ?hd (xs := ([] : List S41)) (inner := []) (ok := fun _ => True) (okp := fun _ => True) ?hr ?hp (fun _ hk => hk) trivial (Below.refl _ _) (Nat.le_refl _) (by simp) ?_; (case hd => rfl); (case hg => rfl); (case hr => first | (go_simp; done) | (go_simp; rfl)); (case hp => exact (Reps.none _ _)); intro cC w4 bR hb hg_ hnew_; clear hg_ hnew_; (first | rw [← bQ.out] at bR | (simp only [Int.reduceToNat] at bR; rw [← bQ.out] at bR)); have a7 := lo bR HB; replace HB := bS HB hb; clear hb bR))
 (try simp only [Act.put, List.setIfInBounds_toArray, List.set_cons_zero, List.set_cons_succ])
 go_cut [15] (fun cQ wc => ∃ (kq : Nat) (aR : Bool), cQ = .bool aR ∧ Aside0 (spec_GroupOf.j0 kq l0 a1 aC aR = some r) ∧ Aside0 (kq ≤ k) ∧ Aside0 (Kd.R k41 41 wc w.heap.size (fun _ => True) cC aC) ∧ Aside0 (Below w.heap.size w wc))
 case first =>
  have H := c5.out; clear c5; replace H := qH H; obtain ⟨bX, aT, H⟩ := H
  by_cases aU : bX = true; subst aU; replace H := qT H; have H' := az H; clear H; refine ?L1; rotate_left; replace aU := Bool.eq_false_iff.mpr aU; subst aU; replace H := qU H; have H' := az H; clear H; refine ?L2
  rotate_right
  case L1 =>
   go_wp2_with (first | ((with_reducible refine gc 17 rfl ?_); refine gr 10 Try.func17 (spec_BodiesOk.calls (r := true) (qC (Kd.C_below HR0.out HB.out)) bW.out aT.out) ?_; rintro w8 hb; replace a7 := rb a7 hb; replace HB := bS HB hb; clear hb))
   go_meet
   exact ⟨_, (decide (a1 < 0)), qG, H', ⟨qO⟩, ⟨qR a7⟩, ⟨qL HB⟩⟩
  case L2 =>
   go_wp2_with (first | ((with_reducible refine gc 17 rfl ?_); refine gr 10 Try.func17 (spec_BodiesOk.calls (r := false) (qC (Kd.C_below HR0.out HB.out)) bW.out aT.out) ?_; rintro w9 hb; replace a7 := rb a7 hb; replace HB := bS HB hb; clear hb))
   go_meet
   exact ⟨_, (true), qG, H', ⟨qO⟩, ⟨qR a7⟩, ⟨qL HB⟩⟩
 case rest =>
  clear c5; obtain ⟨kq, aR, rfl, HA, bI, a4, HB⟩ := hcut
  obtain ⟨cJ, rfl⟩ := qz kq HA
  have H := HA.out; clear HA; simp only [spec_GroupOf.j0] at H; by_cases aH : aR = true; subst aH; replace H := qT H; obtain rfl := Option.some.inj H; refine ?L3; rotate_left; replace aH := Bool.eq_false_iff.mpr aH; subst aH; replace H := qU H; replace H := qH H; obtain ⟨bX, aT, H⟩ := H
  replace H := qH H; obtain ⟨a2, cD, H⟩ := H
  have H' := az H; clear H; refine ?L8
  rotate_right
  case L3 =>
   go_wp2
   go_ret
   exact ⟨_, qE, qR a4, qL HB⟩
  case L8 =>
   go_wp2_with (first | ((with_reducible refine gc 53 rfl ?_); refine gx 19 Try.func53 (spec_l7Contacts.calls (qC (Kd.C_below HR0.out HB.out)) bW.out aT.out) ?_; rintro cT dA ⟨bT, hb⟩; have a9 := lo bT HB; replace a4 := rb a4 hb; replace HB := bS HB hb; clear hb; obtain ⟨cW, cX, cK⟩ := Kd.R_slice a9.out; subst cK) | ((with_reducible refine gc 52 rfl ?_); refine gx 20 Try.func52 (spec_l7Groups.calls (qC (Kd.C_below HR0.out HB.out)) bW.out (qC (rr a9)) ((rc a9)) cD.out) ?_; rintro cE dB ⟨bT, hb⟩; have c6 := lo bT HB; replace a4 := rb a4 hb; replace a9 := rb a9 hb; replace HB := bS HB hb; clear hb))
   go_loopg [5, 7] cJ (fun kq v5 v7 w' => ∃ (aA : List S41) (a0 : Int), v7 = .int .i64 a0 ∧ Aside0 (spec_GroupOf.l0 kq l0 a1 aA a2 a0 = some r) ∧ Aside0 (kq ≤ cJ) ∧ Aside0 (Kd.R k41 41 w' w.heap.size (fun _ => True) v5 aA) ∧ Aside0 (Kd.R (Kd.int .i64) 3 w' w.heap.size (fun _ => True) cE a2) ∧ Aside0 (Below w.heap.size w w'))
   case atStart => exact ⟨(aC), (0), qG, H', ⟨Nat.le_refl _⟩, ⟨qR a4⟩, ⟨qR c6⟩, ⟨qL HB⟩⟩
   case round =>
    clear H'; obtain ⟨aA, a0, rfl, HA, bJ, a4, a6, HB⟩ := hrel
    obtain ⟨k2, rfl⟩ := qz gk HA
    have H := HA.out; clear HA; simp only [spec_GroupOf.l0] at H; replace H := qc H; obtain ⟨c1, H⟩ | ⟨c1, H⟩ := H; replace H := qd H; obtain ⟨cN, H⟩ := H; replace H := qd H; obtain ⟨cO, H⟩ := H; by_cases a8 : (rd a2 a0) = a1; rw [if_pos a8] at H; have c2 : ((rd a2 a0) == a1) = true := beq_iff_eq.mpr a8; have c3 : ((rd a2 a0) != a1) = false := bne_eq_false_iff_eq.mpr a8; clear a8; replace H := qif H; obtain ⟨aI, H⟩ := H; have LMc7006 := az aI; clear aI; obtain ⟨aJ, a3⟩ : ∃ y_ : List S41, y_ = (aA ++ [(⟨(rd_T41 l0 a0).f0, (⟨(rd_T41 l0 a0).f1.f0, (rd_T41 l0 a0).f1.f1, (rd_T41 l0 a0).f1.f2⟩ : S39), (⟨(rd_T41 l0 a0).f2.f0, (rd_T41 l0 a0).f2.f1⟩ : S33), (⟨(rd_T41 l0 a0).f3.f0, (rd_T41 l0 a0).f3.f1⟩ : S33), (rd_T41 l0 a0).f4, (rd_T41 l0 a0).f5, (rd_T41 l0 a0).f6, (rd_T41 l0 a0).f7⟩ : S41)]) := ⟨_, rfl⟩
    replace H : (spec_GroupOf.l0 k2 l0 a1 aJ a2 (wrap64 (a0 + 1))) = some r := qs H a3
    have aW := az a3; clear a3; have H' := az H; clear H; refine ?L4; rotate_left; rw [if_neg a8] at H; have c2 : ((rd a2 a0) == a1) = false := beq_eq_false_iff_ne.mpr a8; have c3 : ((rd a2 a0) != a1) = true := bne_iff_ne.mpr a8; replace H := qc H; obtain ⟨c4, H⟩ | ⟨c4, H⟩ := H; replace H := qif H; obtain ⟨aI, H⟩ := H; have LMc7006 := az aI; clear aI; obtain ⟨aJ, a3⟩ : ∃ y_ : List S41, y_ = (aA ++ [(⟨(rd_T41 l0 a0).f0, (⟨(rd_T41 l0 a0).f1.f0, (rd_T41 l0 a0).f1.f1, (rd_T41 l0 a0).f1.f2⟩ : S39), (⟨(rd_T41 l0 a0).f2.f0, (rd_T41 l0 a0).f2.f1⟩ : S33), (⟨(rd_T41 l0 a0).f3.f0, (rd_T41 l0 a0).f3.f1⟩ : S33), (rd_T41 l0 a0).f4, (rd_T41 l0 a0).f5, (rd_T41 l0 a0).f6, (rd_T41 l0 a0).f7⟩ : S41)]) := ⟨_, rfl⟩
    replace H : (spec_GroupOf.l0 k2 l0 a1 aJ a2 (wrap64 (a0 + 1))) = some r := qs H a3
    have aW := az a3; clear a3; have H' := az H; clear H; refine ?L5; rotate_left; have H' := az H; clear H; refine ?L6
    rotate_right 2
    rotate_left 3
    obtain rfl := Option.some.inj H; refine ?L7
    rotate_right 3
    case' L4 | L5 | L6 =>
     obtain ⟨cY, cZ, cL⟩ := Kd.R_slice a6.out; subst cL; obtain ⟨bK, bL, bU, cF, cM⟩ := ayi (rr a6) a0; cases cF; have a5 : 0 ≤ (a0 : Int) := qD
    case L4 =>
     have bM : a0 < (l0.length : Int) := qD; obtain ⟨cR, cG, aX, aY, aZ, b0, b1, b2, b3, b4, b5, b6, aK, aM⟩ := at_T41 HR0.out a0 a5 bM; cases cG; obtain ⟨aX, aY, aZ, b0, b1, b2, b3, b4, b5, b6, aK, aM⟩ := hB12 HB aX aY aZ b0 b1 b2 b3 b4 b5 b6 aK aM; replace a5 := eq_true a5; replace bM := eq_true bM; go_wp2_with (first | ((with_reducible refine ga 40 45 rfl ?_); at_builtin; refine Kd.R_append k41 (w0 := w) w.heap.size rfl (.tmp 40) (.tmp 45) 23 41 (.agg #[(.int .i64 0), (.int .i64 0), (.int .i64 0), (.int .i64 0), (.int .i64 0), (.int .i64 0), (.int .i64 0), (.int .i64 0), (.int .i64 0), (.int .i64 0), (.int .i64 0), (.int .i64 0)]) 96 rfl Try.underlying23 info41 rfl (by decide) (by omega) u5 aA (⟨(rd_T41 l0 a0).f0, (⟨(rd_T41 l0 a0).f1.f0, (rd_T41 l0 a0).f1.f1, (rd_T41 l0 a0).f1.f2⟩ : S39), (⟨(rd_T41 l0 a0).f2.f0, (rd_T41 l0 a0).f2.f1⟩ : S33), (⟨(rd_T41 l0 a0).f3.f0, (rd_T41 l0 a0).f3.f1⟩ : S33), (rd_T41 l0 a0).f4, (rd_T41 l0 a0).f5, (rd_T41 l0 a0).f6, (rd_T41 l0 a0).f7⟩ : S41) (v41 (rd_T41 l0 a0)) (fun _ => True) (fun _ => False) rfl rfl ?aP (fun _ hk => hk.elim) ?aF ?aO ?aB ?aS ?aL ?_; (case aP => exact k41_mkM _ _ _ (⟨(rd_T41 l0 a0).f0, (⟨(rd_T41 l0 a0).f1.f0, (rd_T41 l0 a0).f1.f1, (rd_T41 l0 a0).f1.f2⟩ : S39), (⟨(rd_T41 l0 a0).f2.f0, (rd_T41 l0 a0).f2.f1⟩ : S33), (⟨(rd_T41 l0 a0).f3.f0, (rd_T41 l0 a0).f3.f1⟩ : S33), (rd_T41 l0 a0).f4, (rd_T41 l0 a0).f5, (rd_T41 l0 a0).f6, (rd_T41 l0 a0).f7⟩ : S41)); (case aB => exact (qL HB)); (case aF => exact (fun _ _ => trivial)); (case aO => exact (qR a4)); (case aS => exact (below_size (qL HB))); (case aL => have := LMc7006.out; omega); intro cU dC ho hb hg hat; rw [← aW.out] at ho; have c7 := az ho; replace a6 := az (Kd.R_over' (qR a6) (Kd.R_typed (qR a4)) (by decide) hg); replace HB := az hb; clear a4 ho hb hg hat))
     go_roundg k2
     case measure => exact mb bI bJ
     exact ⟨(aJ), (wrap64 (a0 + 1)), qG, H', ⟨mb bI bJ⟩, ⟨qR c7⟩, ⟨qR a6⟩, ⟨qL HB⟩⟩
    case' L5 | L6 =>
     have aG : a0 < (a2.length : Int) := qD
    case L5 =>
     obtain ⟨b7, bN, bV⟩ := Kd.at_int (rr a6) a0 a5 aG; obtain rfl : bU = b7 := (by injection bN); replace a5 := eq_true a5; replace aG := eq_true aG; obtain ⟨bO, bP, cS, cH, b8, b9, bA, bB, bC, bD, bE, bF, bG, bH, aN, aQ⟩ := ay41 HR0.out a0; cases cH; obtain ⟨b8, b9, bA, bB, bC, bD, bE, bF, bG, bH, aN, aQ⟩ := hB12 HB b8 b9 bA bB bC bD bE bF bG bH aN aQ; go_wp2_with (first | ((with_reducible refine ga 40 45 rfl ?_); at_builtin; refine Kd.R_append k41 (w0 := w) w.heap.size rfl (.tmp 40) (.tmp 45) 23 41 (.agg #[(.int .i64 0), (.int .i64 0), (.int .i64 0), (.int .i64 0), (.int .i64 0), (.int .i64 0), (.int .i64 0), (.int .i64 0), (.int .i64 0), (.int .i64 0), (.int .i64 0), (.int .i64 0)]) 96 rfl Try.underlying23 info41 rfl (by decide) (by omega) u5 aA (⟨(rd_T41 l0 a0).f0, (⟨(rd_T41 l0 a0).f1.f0, (rd_T41 l0 a0).f1.f1, (rd_T41 l0 a0).f1.f2⟩ : S39), (⟨(rd_T41 l0 a0).f2.f0, (rd_T41 l0 a0).f2.f1⟩ : S33), (⟨(rd_T41 l0 a0).f3.f0, (rd_T41 l0 a0).f3.f1⟩ : S33), (rd_T41 l0 a0).f4, (rd_T41 l0 a0).f5, (rd_T41 l0 a0).f6, (rd_T41 l0 a0).f7⟩ : S41) (v41 (rd_T41 l0 a0)) (fun _ => True) (fun _ => False) rfl rfl ?aP (fun _ hk => hk.elim) ?aF ?aO ?aB ?aS ?aL ?_; (case aP => exact k41_mkM _ _ _ (⟨(rd_T41 l0 a0).f0, (⟨(rd_T41 l0 a0).f1.f0, (rd_T41 l0 a0).f1.f1, (rd_T41 l0 a0).f1.f2⟩ : S39), (⟨(rd_T41 l0 a0).f2.f0, (rd_T41 l0 a0).f2.f1⟩ : S33), (⟨(rd_T41 l0 a0).f3.f0, (rd_T41 l0 a0).f3.f1⟩ : S33), (rd_T41 l0 a0).f4, (rd_T41 l0 a0).f5, (rd_T41 l0 a0).f6, (rd_T41 l0 a0).f7⟩ : S41)); (case aB => exact (qL HB)); (case aF => exact (fun _ _ => trivial)); (case aO => exact (qR a4)); (case aS => exact (below_size (qL HB))); (case aL => have := LMc7006.out; omega); intro cV dD ho hb hg hat; rw [← aW.out] at ho; have c8 := az ho; replace a6 := az (Kd.R_over' (qR a6) (Kd.R_typed (qR a4)) (by decide) hg); replace HB := az hb; clear a4 ho hb hg hat))
     go_roundg k2
     case measure => exact mb bI bJ
     exact ⟨(aJ), (wrap64 (a0 + 1)), qG, H', ⟨mb bI bJ⟩, ⟨qR c8⟩, ⟨qR a6⟩, ⟨qL HB⟩⟩
    case L6 =>
     obtain ⟨b7, bN, bV⟩ := Kd.at_int (rr a6) a0 a5 aG; obtain rfl : bU = b7 := (by injection bN); replace a5 := eq_true a5; replace aG := eq_true aG; go_wp2
     go_roundg k2
     case measure => exact mb bI bJ
     exact ⟨(aA), (wrap64 (a0 + 1)), qG, H', ⟨mb bI bJ⟩, ⟨qR a4⟩, ⟨qR a6⟩, ⟨qL HB⟩⟩
    case L7 =>
     go_wp2
     go_ret
     exact ⟨_, qE, qR a4, qL HB⟩

/-! ### laws_FnGroupOf: function 5 -/
mutual
def laws_FnGroupOf.j0 : Nat → List S41 → Int → List S41 → Bool → Option (Bool)
  | 0, _, _, _, _ => none
  | k + 1, x3, x4, x5, dA => if dA = true then ((spec_GroupOf.f k x3 x4).bind fun bQ => ((laws_pqBodies.f k x5 bQ).bind fun bR => (some bR))) else ((impl_GroupAwake.f k x3).bind fun bT => (laws_FnGroupOf.l0 k x3 x4 x5 (bT.length : Int) 0 0))
def laws_FnGroupOf.l0 : Nat → List S41 → Int → List S41 → Int → Int → Int → Option (Bool)
  | 0, _, _, _, _, _, _ => none
  | k + 1, x3, x4, x5, x6, x7, x8 => if x8 < (x3.length : Int) then (if 0 ≤ x8 then (if ((rd_T41 x3 x8).f4) = 0 then (laws_FnGroupOf.l0 k x3 x4 x5 x6 (wrap64 (x7 + 1)) (wrap64 (x8 + 1))) else (laws_FnGroupOf.l0 k x3 x4 x5 x6 x7 (wrap64 (x8 + 1)))) else none) else (laws_FnGroupOf.l1 k x3 x4 x5 x6 x7 0 0)
def laws_FnGroupOf.l1 : Nat → List S41 → Int → List S41 → Int → Int → Int → Int → Option (Bool)
  | 0, _, _, _, _, _, _, _ => none
  | k + 1, x3, x4, x5, x6, x7, x9, bM => if bM < x6 then ((impl_GroupOf.f k x3 bM).bind fun bU => (laws_FnGroupOf.l1 k x3 x4 x5 x6 x7 (wrap64 ((wrap64 (x9 + (bU.length : Int))) - x7)) (wrap64 (bM + 1)))) else (if (wrap64 (x9 + x7)) = (x3.length : Int) then ((impl_BodiesOk.f k x5).bind fun bV => (if bV = true then (if x4 < 0 then (some true) else (if x4 ≥ x6 then (some true) else ((impl_GroupAwake.f k x5).bind fun bW => (if (bW.length : Int) = 1 then ((impl_GroupOf.f k x5 0).bind fun bX => ((laws_pqBodies.f k bX x5).bind fun bY => (some bY))) else (some false))))) else (some false))) else (some false))
end
def laws_FnGroupOf.f (k : Nat) (l0 : List Int) : Option (Bool) := if (l0.length : Int) > 1048576 then (some true) else ((spec_DrawGroupOf.f k l0).bind fun bt1209 => ((impl_GroupOf.f k bt1209.1 bt1209.2).bind fun b4 => ((spec_GroupOf.f k bt1209.1 bt1209.2).bind fun bZ => ((laws_pqBodies.f k b4 bZ).bind fun c1 => (if c1 = true then ((spec_BodiesOk.f k bt1209.1).bind fun c2 => (laws_FnGroupOf.j0 k bt1209.1 bt1209.2 b4 (!c2))) else (laws_FnGroupOf.j0 k bt1209.1 bt1209.2 b4 true))))))
theorem laws_FnGroupOf.calls {k : Nat} {A0 : Option Addr} {c0 : Nat} {l0 : List Int} {r : Bool} {w : World} (hr0 : Kd.C (Kd.int .u8) w A0 l0.length l0) (hc0 : l0.length ≤ c0) (h : laws_FnGroupOf.f k l0 = some r) :
  Calls Try.prog 5 #[.slice A0 l0.length c0] w fun e w' => e = .returned (.bool r) ∧ Below w.heap.size w w' := by
 have HR0 := az hr0; have dB := az hc0; clear hr0 hc0; have HB := br w
 unfold laws_FnGroupOf.f at h
 have H := h; clear h; by_cases aA : (l0.length : Int) > 1048576; rw [if_pos aA] at H; have aK : decide (1048576 < (l0.length : Int)) = true := decide_eq_true aA; have aL : decide (1048576 < l0.length) = true := decide_eq_true (by omega); clear aA; obtain rfl := Option.some.inj H; refine ?L1; rotate_left; rw [if_neg aA] at H; have aK : decide (1048576 < (l0.length : Int)) = false := decide_eq_false aA; have aL : decide (1048576 < l0.length) = false := decide_eq_false (by omega); clear aA; replace H := qH H; obtain ⟨⟨a3, aB⟩, c3, H⟩ := H
 try dsimp only at H
 replace H := qH H; obtain ⟨aM, c4, H⟩ := H
 refine ?L16
 rotate_right
 case L1 =>
  go_enter Try.func5, Try.ntmps5; go_wp2
  go_ret
  exact ⟨qE, qL HB⟩
 case L16 =>
  have bN := az H; clear H; go_enter Try.func5, Try.ntmps5
  go_upto_region 5 with (first | ((with_reducible refine gc 23 rfl ?_); refine gx 16 Try.func23 (spec_DrawGroupOf.calls (qC HR0.out) dB.out c3.out) ?_; rintro dG w6 ⟨a4, hb⟩; have a5 := lo a4 HB; replace HB := bS HB hb; clear hb; obtain ⟨b1, b2, dC⟩ := Kd.R_slice a5.out; subst dC) | ((with_reducible refine gc 24 rfl ?_); refine gx 21 Try.func24 (impl_GroupOf.calls (qC (rr a5)) ((rc a5)) c4.out) ?_; rintro aN w8 ⟨a4, hb⟩; have a6 := lo (rn a4 a5) HB; replace a5 := re a5 a4 hb; replace HB := bS HB hb; clear hb))
  (try simp only [Act.put, List.setIfInBounds_toArray, List.set_cons_zero, List.set_cons_succ])
  go_cut [32] (fun dD wc => ∃ (kq : Nat) (aV : Bool), dD = .bool aV ∧ Aside0 (laws_FnGroupOf.j0 kq a3 aB aM aV = some r) ∧ Aside0 (kq ≤ k) ∧ Aside0 (Kd.R k41 41 wc w.heap.size (fun k_ => some k_ ≠ (aN : Value).ownBlock) (.slice b1 a3.length b2) a3) ∧ Aside0 (Kd.R k41 41 wc w.heap.size (fun k_ => some k_ ≠ ((.slice b1 a3.length b2) : Value).ownBlock) aN aM) ∧ Aside0 (Below w.heap.size w wc))
  case first =>
   have H := bN.out; clear bN; replace H := qH H; obtain ⟨a8, aS, H⟩ := H
   replace H := qH H; obtain ⟨bA, aW, H⟩ := H
   by_cases aX : bA = true; subst aX; replace H := qT H; replace H := qH H; obtain ⟨c5, c6, H⟩ := H
   have H' := az H; clear H; refine ?L2; rotate_left; replace aX := Bool.eq_false_iff.mpr aX; subst aX; replace H := qU H; have H' := az H; clear H; refine ?L3
   rotate_right
   case' L2 | L3 =>
    go_wp2_with (first | ((with_reducible refine gc 26 rfl ?_); refine gx 25 Try.func26 (spec_GroupOf.calls (qC (rr a5)) ((rc a5)) aS.out) ?_; rintro dH e8 ⟨a4, hb⟩; have aC := lo (rn (rn a4 a5) a6) HB; replace a5 := re a5 a4 hb; replace a6 := re a6 a4 hb; replace HB := bS HB hb; clear hb; obtain ⟨dO, dP, cF⟩ := Kd.R_slice a6.out; subst cF; obtain ⟨dQ, dR, cG⟩ := Kd.R_slice aC.out; subst cG) | ((with_reducible refine gc 25 rfl ?_); refine gr 26 Try.func25 (laws_pqBodies.calls (r := true) (qC (rr a6)) ((rc a6)) (qC (rr aC)) ((rc aC)) aW.out) ?_; rintro w' ⟨nd, rfl⟩) | (go_at_call 17; (with_reducible refine (spec_BodiesOk.calls (qC (rr a5)) ((rc a5)) c6.out).mono ?_); rintro e e9 ⟨rfl, hb⟩; replace a5 := rb a5 hb; replace a6 := rb a6 hb; replace aC := rb aC hb; replace HB := bS HB hb; clear hb) | ((with_reducible refine gc 25 rfl ?_); refine gr 26 Try.func25 (laws_pqBodies.calls (r := false) (qC (rr a6)) ((rc a6)) (qC (rr aC)) ((rc aC)) aW.out) ?_; rintro w' ⟨nd, rfl⟩))
    go_meet
   case L2 =>
    exact ⟨_, (!c5), qG, H', ⟨qO⟩, ⟨by (with_reducible repeat (first | apply Kd.R_alloc | apply Kd.R_drewN | apply Kd.R_drew)); exact Kd.R_mono a5.out (fun _ hk => hk.1.2)⟩, ⟨by (with_reducible repeat (first | apply Kd.R_alloc | apply Kd.R_drewN | apply Kd.R_drew)); exact Kd.R_mono a6.out (fun _ hk => hk.1.2)⟩, ⟨qL HB⟩⟩
   case L3 =>
    exact ⟨_, (true), qG, H', ⟨qO⟩, ⟨by (with_reducible repeat (first | apply Kd.R_alloc | apply Kd.R_drewN | apply Kd.R_drew)); exact Kd.R_mono a5.out (fun _ hk => hk.1.2)⟩, ⟨by (with_reducible repeat (first | apply Kd.R_alloc | apply Kd.R_drewN | apply Kd.R_drew)); exact Kd.R_mono a6.out (fun _ hk => hk.1.2)⟩, ⟨qL HB⟩⟩
  case rest =>
   clear bN; obtain ⟨kq, aV, rfl, HA, b8, a2, a1, HB⟩ := hcut
   obtain ⟨cB, rfl⟩ := qz kq HA
   have H := HA.out; clear HA; simp only [laws_FnGroupOf.j0] at H; by_cases aO : aV = true; subst aO; replace H := qT H; replace H := qH H; obtain ⟨a8, aS, H⟩ := H
   replace H := qH H; obtain ⟨bA, aW, H⟩ := H
   obtain rfl := Option.some.inj H; refine ?L4; rotate_left; replace aO := Bool.eq_false_iff.mpr aO; subst aO; replace H := qU H; replace H := qH H; obtain ⟨a8, aS, H⟩ := H
   have H' := az H; clear H; refine ?L15
   rotate_right
   case L4 =>
    go_wp2_with (first | ((with_reducible refine gc 26 rfl ?_); refine gx 36 Try.func26 (spec_GroupOf.calls (qC (rr a2)) ((rc a2)) aS.out) ?_; rintro dI eA ⟨a4, hb⟩; have aZ := lo (rn (rn a4 a2) a1) HB; replace a2 := re a2 a4 hb; replace a1 := re a1 a4 hb; replace HB := bS HB hb; clear hb; obtain ⟨dS, dT, cH⟩ := Kd.R_slice a1.out; subst cH; obtain ⟨dU, dV, cI⟩ := Kd.R_slice aZ.out; subst cI) | ((with_reducible refine gc 25 rfl ?_); refine gr 37 Try.func25 (laws_pqBodies.calls (qC (rr a1)) ((rc a1)) (qC (rr aZ)) ((rc aZ)) aW.out) ?_; rintro w' ⟨nd, rfl⟩))
    go_ret
    exact ⟨qE, qL HB⟩
   case L15 =>
    go_wp2_with (first | ((with_reducible refine gc 20 rfl ?_); refine gx 39 Try.func20 (impl_GroupAwake.calls (qC (rr a2)) ((rc a2)) aS.out) ?_; rintro dJ eB ⟨a4, hb⟩; have bO := lo a4 HB; replace a2 := rb a2 hb; replace a1 := rb a1 hb; replace HB := bS HB hb; clear hb; obtain ⟨dW, dX, cJ⟩ := Kd.R_slice bO.out; subst cJ))
    go_loopg [7, 8] cB (fun kq v7 v8 w' => ∃ (a9 : Int) (a7 : Int), v7 = .int .i64 a9 ∧ v8 = .int .i64 a7 ∧ Aside0 (laws_FnGroupOf.l0 kq a3 aB aM (a8.length : Int) a9 a7 = some r) ∧ Aside0 (kq ≤ cB) ∧ Aside0 (Kd.R k41 41 w' w.heap.size (fun k_ => some k_ ≠ (aN : Value).ownBlock) (.slice b1 a3.length b2) a3) ∧ Aside0 (Kd.R k41 41 w' w.heap.size (fun k_ => some k_ ≠ ((.slice b1 a3.length b2) : Value).ownBlock) aN aM) ∧ Aside0 (Below w.heap.size w w'))
    case atStart => exact ⟨(0), (0), qG, qG, H', ⟨Nat.le_refl _⟩, ⟨qR a2⟩, ⟨qR a1⟩, ⟨qL HB⟩⟩
    case round =>
     clear H'; obtain ⟨a9, a7, rfl, rfl, HA, b9, a2, a1, HB⟩ := hrel
     obtain ⟨k2, rfl⟩ := qz gk HA
     have H := HA.out; clear HA; simp only [laws_FnGroupOf.l0] at H; replace H := qc H; obtain ⟨b3, H⟩ | ⟨b3, H⟩ := H; replace H := qd H; obtain ⟨cZ, H⟩ := H; by_cases aE : ((rd_T41 a3 a7).f4) = 0; rw [if_pos aE] at H; have bD : (((rd_T41 a3 a7).f4) == 0) = true := beq_iff_eq.mpr aE; have bE : (((rd_T41 a3 a7).f4) != 0) = false := bne_eq_false_iff_eq.mpr aE; clear aE; have H' := az H; clear H; refine ?L5; rotate_left; rw [if_neg aE] at H; have bD : (((rd_T41 a3 a7).f4) == 0) = false := beq_eq_false_iff_ne.mpr aE; have bE : (((rd_T41 a3 a7).f4) != 0) = true := bne_iff_ne.mpr aE; have H' := az H; clear H; refine ?L6
     rotate_right
     rotate_left 2
     have H' := az H; clear H; refine ?L14
     rotate_right 2
     case' L5 | L6 =>
      obtain ⟨b5, b6, dE, c7, cK, cL, cM, cN, cO, cP, cQ, cR, cS, cT, cC, cD⟩ := ay41 (rr a2) a7; cases c7; go_wp2
      go_roundg k2
      case measure => exact mb b8 b9
     case L5 =>
      exact ⟨(wrap64 (a9 + 1)), (wrap64 (a7 + 1)), qG, qG, H', ⟨mb b8 b9⟩, ⟨qR a2⟩, ⟨qR a1⟩, ⟨qL HB⟩⟩
     case L6 =>
      exact ⟨(a9), (wrap64 (a7 + 1)), qG, qG, H', ⟨mb b8 b9⟩, ⟨qR a2⟩, ⟨qR a1⟩, ⟨qL HB⟩⟩
     case L14 =>
      go_wp2
      go_loopg [9, 10] k2 (fun kq v9 v10 w' => ∃ (aF : Int) (aG : Int), v9 = .int .i64 aF ∧ v10 = .int .i64 aG ∧ Aside0 (laws_FnGroupOf.l1 kq a3 aB aM (a8.length : Int) a9 aF aG = some r) ∧ Aside0 (kq ≤ k2) ∧ Aside0 (Kd.R k41 41 w' w.heap.size (fun k_ => some k_ ≠ (aN : Value).ownBlock) (.slice b1 a3.length b2) a3) ∧ Aside0 (Kd.R k41 41 w' w.heap.size (fun k_ => some k_ ≠ ((.slice b1 a3.length b2) : Value).ownBlock) aN aM) ∧ Aside0 (Below w.heap.size w w'))
      case atStart => exact ⟨(0), (0), qG, qG, H', ⟨Nat.le_refl _⟩, ⟨qR a2⟩, ⟨qR a1⟩, ⟨qL HB⟩⟩
      case round =>
       clear H'; obtain ⟨aF, aG, rfl, rfl, HA, cE, a2, a1, HB⟩ := hrel
       obtain ⟨k3, rfl⟩ := qz gk HA
       have H := HA.out; clear HA; simp only [laws_FnGroupOf.l1] at H; replace H := qc H; obtain ⟨bF, H⟩ | ⟨bF, H⟩ := H; replace H := qH H; obtain ⟨b7, aT, H⟩ := H
       have H' := az H; clear H; refine ?L7; rotate_left; by_cases aH : (wrap64 (aF + a9)) = (a3.length : Int); rw [if_pos aH] at H; have bG : ((wrap64 (aF + a9)) == (a3.length : Int)) = true := beq_iff_eq.mpr aH; have bH : ((wrap64 (aF + a9)) != (a3.length : Int)) = false := bne_eq_false_iff_eq.mpr aH; clear aH; replace H := qH H; obtain ⟨b7, aT, H⟩ := H
       by_cases aY : b7 = true; subst aY; replace H := qT H; replace H := qc H; obtain ⟨bI, H⟩ | ⟨bI, H⟩ := H; obtain rfl := Option.some.inj H; refine ?L8; rotate_left; replace H := qc H; obtain ⟨bJ, H⟩ | ⟨bJ, H⟩ := H; obtain rfl := Option.some.inj H; refine ?L9; rotate_left; replace H := qH H; obtain ⟨aU, bC, H⟩ := H
       by_cases aI : (aU.length : Int) = 1; rw [if_pos aI] at H; have bK : ((aU.length : Int) == 1) = true := beq_iff_eq.mpr aI; have bL : ((aU.length : Int) != 1) = false := bne_eq_false_iff_eq.mpr aI; clear aI; replace H := qH H; obtain ⟨dK, c8, H⟩ := H
       replace H := qH H; obtain ⟨dL, c9, H⟩ := H
       obtain rfl := Option.some.inj H; refine ?L10; rotate_left; rw [if_neg aI] at H; have bK : ((aU.length : Int) == 1) = false := beq_eq_false_iff_ne.mpr aI; have bL : ((aU.length : Int) != 1) = true := bne_iff_ne.mpr aI; obtain rfl := Option.some.inj H; refine ?L11
       rotate_right 3
       rotate_left 4
       replace aY := Bool.eq_false_iff.mpr aY; subst aY; replace H := qU H; obtain rfl := Option.some.inj H; refine ?L12
       rotate_right 4
       rotate_left 5
       rw [if_neg aH] at H; have bG : ((wrap64 (aF + a9)) == (a3.length : Int)) = false := beq_eq_false_iff_ne.mpr aH; have bH : ((wrap64 (aF + a9)) != (a3.length : Int)) = true := bne_iff_ne.mpr aH; obtain rfl := Option.some.inj H; refine ?L13
       rotate_right 5
       rotate_right
       case L7 =>
        go_wp2_with (first | ((with_reducible refine gc 24 rfl ?_); refine gx 63 Try.func24 (impl_GroupOf.calls (qC (rr a2)) ((rc a2)) aT.out) ?_; rintro dM eC ⟨a4, hb⟩; have bP := lo (rn (rn a4 a2) a1) HB; replace a2 := re a2 a4 hb; replace a1 := re a1 a4 hb; replace HB := bS HB hb; clear hb; obtain ⟨dY, dZ, cU⟩ := Kd.R_slice bP.out; subst cU))
        go_roundg k3
        case measure => exact mc b8 b9 cE
        exact ⟨(wrap64 ((wrap64 (aF + (b7.length : Int))) - a9)), (wrap64 (aG + 1)), qG, qG, H', ⟨mc b8 b9 cE⟩, ⟨by (with_reducible repeat (first | apply Kd.R_alloc | apply Kd.R_drewN | apply Kd.R_drew)); exact Kd.R_mono a2.out (fun _ hk => hk.1)⟩, ⟨by (with_reducible repeat (first | apply Kd.R_alloc | apply Kd.R_drewN | apply Kd.R_drew)); exact Kd.R_mono a1.out (fun _ hk => hk.1)⟩, ⟨qL HB⟩⟩
       case' L8 | L9 | L10 | L11 | L12 =>
        obtain ⟨e0, e1, cV⟩ := Kd.R_slice a1.out; subst cV
       case' L8 | L9 | L10 =>
        go_wp2_with (first | (go_at_call 27; (with_reducible refine (impl_BodiesOk.calls (r := true) (qC (rr a1)) ((rc a1)) aT.out).mono ?_); rintro e eD ⟨rfl, hb⟩; replace a2 := rb a2 hb; replace a1 := rb a1 hb; replace HB := bS HB hb; clear hb) | (go_at_call 20; (with_reducible refine (impl_GroupAwake.calls (qC (rr a1)) ((rc a1)) bC.out).mono ?_); rintro e eE ⟨cA, rfl, a4, hb⟩; have aJ := lo a4 HB; replace a2 := rb a2 hb; replace a1 := rb a1 hb; replace HB := bS HB hb; clear hb; obtain ⟨e2, e3, cW⟩ := Kd.R_slice aJ.out; subst cW) | (go_at_call 24; (with_reducible refine (impl_GroupOf.calls (qC (rr a1)) ((rc a1)) c8.out).mono ?_); rintro e eF ⟨dN, rfl, a4, hb⟩; have b0 := lo (rn (rn a4 a2) a1) HB; replace a2 := re a2 a4 hb; replace a1 := re a1 a4 hb; replace aJ := rb aJ hb; replace HB := bS HB hb; clear hb; obtain ⟨e4, e5, cX⟩ := Kd.R_slice b0.out; subst cX) | (go_at_call 25; (with_reducible refine (laws_pqBodies.calls (qC (rr b0)) ((rc b0)) (qC (rr a1)) ((rc a1)) c9.out).mono ?_); rintro e w' ⟨rfl, ⟨nd, rfl⟩⟩))
        go_ret
        exact ⟨qE, qL HB⟩
       case L11 =>
        go_wp2_with (first | (go_at_call 27; (with_reducible refine (impl_BodiesOk.calls (r := true) (qC (rr a1)) ((rc a1)) aT.out).mono ?_); rintro e eG ⟨rfl, hb⟩; replace a2 := rb a2 hb; replace a1 := rb a1 hb; replace HB := bS HB hb; clear hb) | (go_at_call 20; (with_reducible refine (impl_GroupAwake.calls (qC (rr a1)) ((rc a1)) bC.out).mono ?_); rintro e eH ⟨cA, rfl, a4, hb⟩; have aJ := lo a4 HB; replace a2 := rb a2 hb; replace a1 := rb a1 hb; replace HB := bS HB hb; clear hb; obtain ⟨e6, e7, cY⟩ := Kd.R_slice aJ.out; subst cY))
        go_ret
        exact ⟨qE, qL HB⟩
       case L12 =>
        go_wp2_with (first | (go_at_call 27; (with_reducible refine (impl_BodiesOk.calls (r := false) (qC (rr a1)) ((rc a1)) aT.out).mono ?_); rintro e eI ⟨rfl, hb⟩; replace a2 := rb a2 hb; replace a1 := rb a1 hb; replace HB := bS HB hb; clear hb))
        go_ret
        exact ⟨qE, qL HB⟩
       case L13 =>
        go_wp2
        go_ret
        exact ⟨qE, qL HB⟩

/-- THE ONE PURE STATEMENT of laws_FnGroupOf: yours. -/
def laws_FnGroupOf.Pure : Prop := ∀ (l0 : List Int), l0.length ≤ maxLen → l0.length * 1 ≤ 140737488351232 → (∀ x ∈ l0, (Lit.int .u8 x).wf = true) → ∃ k, laws_FnGroupOf.f k l0 = some true
theorem laws_FnGroupOf.walk (P : laws_FnGroupOf.Pure) (a0 : Option Addr) (len0 cap0 : Nat) (z0 : List Int) (w : World) (w0 : (a0 = none ∧ len0 = 0 ∧ cap0 = 0 ∧ z0 = []) ∨ ∃ x, a0 = some x ∧ len0 ≤ cap0 ∧ cap0 ≤ maxLen ∧ z0.length = cap0 ∧ (∀ i, i < z0.length → w.cell? (x.add i) = some (.int .u8 (z0.getD i 0))) ∧ ∀ n ∈ z0, (Lit.int .u8 n).wf = true) (y0 : len0 * 1 ≤ 140737488351232) :
  Calls Try.prog 5 #[.slice a0 len0 cap0] w fun e w' => e = .returned (.bool true) ∧ Below w.heap.size w w' := by
 obtain ⟨l0, rfl, hr0, hm0, dF, hc0⟩ := ReadsInt.ofRowC w0
 obtain ⟨k, h⟩ := P l0 hm0 y0 dF
 refine (laws_FnGroupOf.calls (k := k) (l0 := l0) (r := true) (w := w) (Kd.C_of_reads (d := (0 : Int)) (h1 := fun _ => rfl) hr0) hc0 h).mono ?_
 rintro e w' ⟨rfl, hd⟩
 exact ⟨rfl, hd⟩
end Go.Proofs.Ytdngjedhbnoaoaa.PBig
