/- What these functions compute, each walked once: spec_DrawGroupAwake, spec_GroupAwake, impl_BodySleeps, laws_FnGroupAwake; for all arguments and worlds, under the conditions that each theorem names. -/
import Derived.Test.YtdngjedhbnoaoaaSq
import Derived.Test.YtdngjedhbnoaoaaPBigx900
import Derived.Test.YtdngjedhbnoaoaaPBigx903
import Derived.Test.YtdngjedhbnoaoaaPBigx905
import Derived.Test.YtdngjedhbnoaoaaPBigx906
import Derived.Test.YtdngjedhbnoaoaaPBigx912
import Derived.Test.YtdngjedhbnoaoaaPBigx914
import Derived.Test.YtdngjedhbnoaoaaPBigx917
import Derived.Test.YtdngjedhbnoaoaaPBigx920
namespace Go.Proofs.Ytdngjedhbnoaoaa.PBig
open Go.RowKit Go.Proofs.YtdngjedhbnoaoaaW.PrintWords Go.Proofs.YtdngjedhbnoaoaaW.PrintLast Go.Proofs.YtdngjedhbnoaoaaW.PrintMore
attribute [local go_sem] max2_int min2_int max_two min_two max_three min_three max_four min_four
set_option linter.unusedVariables false
set_option linter.unusedSimpArgs false
set_option maxHeartbeats 8000000
set_option maxRecDepth 100000

/-! ### spec_DrawGroupAwake: function 19 -/
def spec_DrawGroupAwake.f (k : Nat) (l0 : List Int) : Option ((List S41)) := (spec_l1Open.f l0).bind fun bt1109 => ((spec_l11AnyBodies.f k bt1109.1 bt1109.2).bind fun bt1112 => (some bt1112.1))
theorem spec_DrawGroupAwake.calls {k : Nat} {A0 : Option Addr} {c0 : Nat} {l0 : List Int} {r : List S41} {w : World} (hr0 : Kd.C (Kd.int .u8) w A0 l0.length l0) (hc0 : l0.length ≤ c0) (h : spec_DrawGroupAwake.f k l0 = some r) :
  Calls Try.prog 19 #[.slice A0 l0.length c0] w fun e w' => ∃ a3 : Value, e = .returned (a3) ∧ Kd.R k41 41 w' w.heap.size (fun _ => True) a3 r ∧ Below w.heap.size w w' := by
 have HR0 := az hr0; have a5 := az hc0; clear hr0 hc0; have HB := br w; have H : ((spec_l1Open.f l0).bind fun bt1109 => ((spec_l11AnyBodies.f k bt1109.1 bt1109.2).bind fun bt1112 => (some bt1112.1))) = some r := h; clear h; replace H := qH H; obtain ⟨⟨a6, a7⟩, A2, H⟩ := H
 try dsimp only at H
 replace H := qH H; obtain ⟨⟨a8, a9⟩, A3, H⟩ := H
 try dsimp only at H
 obtain rfl := Option.some.inj H; go_enter Try.func19, Try.ntmps19; go_wp2_with (first | ((with_reducible refine gc 50 rfl ?_); refine gx 4 Try.func50 (spec_l1Open.calls (w0 := w) (qL HB) HR0.out a5.out A2.out) ?_; rintro a2 w4 ⟨hi, hb, hb2⟩; have a0 := az hi; replace HB := az hb; clear hb2 hb hi) | ((with_reducible refine gc 49 rfl ?_); refine gx 5 Try.func49 (spec_l11AnyBodies.calls (g := a2) (w0 := w) (qI a0) (qL HB) A3.out) ?_; rintro aA w5 ⟨a4, hi, hb, hk⟩; have a1 := lo a4 HB; replace HB := az hb; replace a0 := az hi; clear hb hk hi))
 go_ret
 exact ⟨_, qE, qR a1, qL HB⟩

/-! ### spec_GroupAwake: function 21 -/
def spec_GroupAwake.f (k : Nat) (l0 : List S41) : Option (List Bool) := (spec_BodiesOk.f k l0).bind fun a5 => (if a5 = true then ((spec_l7Contacts.f k l0).bind fun a8 => ((spec_l7Groups.f k l0 a8).bind fun a9 => ((spec_l7Awake.f k l0 a9).bind fun aA => (some aA)))) else (some (([] : List Bool))))
theorem spec_GroupAwake.calls {k : Nat} {A0 : Option Addr} {c0 : Nat} {l0 : List S41} {r : List Bool} {w : World} (hr0 : Kd.C k41 w A0 l0.length l0) (hc0 : l0.length ≤ c0) (h : spec_GroupAwake.f k l0 = some r) :
  Calls Try.prog 21 #[.slice A0 l0.length c0] w fun e w' => ∃ aE : Value, e = .returned (aE) ∧ Kd.R Kd.bool 4 w' w.heap.size (fun _ => True) aE r ∧ Below w.heap.size w w' := by
 have HR0 := az hr0; have a6 := az hc0; clear hr0 hc0; have HB := br w
 unfold spec_GroupAwake.f at h
 have H := h; clear h; replace H := qH H; obtain ⟨a5, A2, H⟩ := H
 by_cases c3 : a5 = true
 ·subst c3; replace H := qT H; replace H := qH H; obtain ⟨a8, A4, H⟩ := H
  replace H := qH H; obtain ⟨a9, A5, H⟩ := H
  replace H := qH H; obtain ⟨aA, A6, H⟩ := H
  obtain rfl := Option.some.inj H; go_enter Try.func21, Try.ntmps21; go_wp2_with (first | ((with_reducible refine gc 17 rfl ?_); refine gr 4 Try.func17 (spec_BodiesOk.calls (r := true) (qC HR0.out) a6.out A2.out) ?_; rintro w7 hb; replace HB := bS HB hb; clear hb) | ((with_reducible refine gc 53 rfl ?_); refine gx 10 Try.func53 (spec_l7Contacts.calls (qC (Kd.C_below HR0.out HB.out)) a6.out A4.out) ?_; rintro aH w8 ⟨a3, hb⟩; have a0 := lo a3 HB; replace HB := bS HB hb; clear hb; obtain ⟨aN, aO, aG⟩ := Kd.R_slice a0.out; subst aG) | ((with_reducible refine gc 52 rfl ?_); refine gx 11 Try.func52 (spec_l7Groups.calls (qC (Kd.C_below HR0.out HB.out)) a6.out (qC (rr a0)) ((rc a0)) A5.out) ?_; rintro aI aP ⟨a3, hb⟩; have a1 := lo a3 HB; replace a0 := rb a0 hb; replace HB := bS HB hb; clear hb; obtain ⟨aL, aM, aF⟩ := Kd.R_slice a1.out; subst aF) | ((with_reducible refine gc 57 rfl ?_); refine gx 12 Try.func57 (spec_l7Awake.calls (qC (Kd.C_below HR0.out HB.out)) a6.out (qC (rr a1)) ((rc a1)) A6.out) ?_; rintro aJ aQ ⟨a3, hb⟩; have aB := lo a3 HB; replace a0 := rb a0 hb; replace a1 := rb a1 hb; replace HB := bS HB hb; clear hb))
  go_ret
  exact ⟨_, qE, qR aB, qL HB⟩
 replace c3 := Bool.eq_false_iff.mpr c3; subst c3; replace H := qU H; obtain ⟨aD, a2⟩ : ∃ y_ : List Bool, y_ = (([] : List Bool)) := ⟨_, rfl⟩
 replace H : (some aD) = some r := qs H a2
 have a7 := az a2; clear a2; obtain rfl := Option.some.inj H; go_enter Try.func21, Try.ntmps21; go_wp2_with (first | ((with_reducible refine gc 17 rfl ?_); refine gr 4 Try.func17 (spec_BodiesOk.calls (r := false) (qC HR0.out) a6.out A2.out) ?_; rintro aR hb; replace HB := bS HB hb; clear hb) | ((with_reducible refine gd 6 rfl ?_); refine Kd.R_lit Kd.bool _ 4 ?hg (N := 6) ?hd (xs := ([] : List Bool)) (inner := []) (ok := fun _ => True) (okp := fun _ => True) ?hr ?hp (fun _ hk => hk) trivial (Below.refl _ _) (Nat.le_refl _) (by simp) ?_; (case hd => rfl); (case hg => rfl); (case hr => first | (go_simp; done) | (go_simp; rfl)); (case hp => exact (Reps.none _ _)); intro aK aS a4 hb hg_ hnew_; clear hg_ hnew_; (first | rw [← a7.out] at a4 | (simp only [Int.reduceToNat] at a4; rw [← a7.out] at a4)); have aC := lo a4 HB; replace HB := bS HB hb; clear hb a4))
 go_ret
 exact ⟨_, qE, qR aC, qL HB⟩

/-! ### impl_BodySleeps: function 22 -/
def impl_BodySleeps.f (k : Nat) (a3 a4 a5 a6 a7 a8 a9 aA aB aC a1 a2 : Int) : Option (Bool) := (impl_BodyOk.f k a3 a4 a5 a6 a7 a8 a9 aA aB aC a1 a2).bind fun aG => (if aG = true then ((impl_Body_sleeps.f a3 a4 a5 a6 a7 a8 a9 aA aB aC a1 a2).bind fun aH => (some aH)) else (some false))
theorem impl_BodySleeps.calls {k : Nat} {a3 a4 a5 a6 a7 a8 a9 aA aB aC a1 a2 : Int} {r : Bool} {w : World} (h : impl_BodySleeps.f k a3 a4 a5 a6 a7 a8 a9 aA aB aC a1 a2 = some r) :
  Calls Try.prog 22 #[.agg #[.int .i64 a3, .int .i64 a4, .int .i64 a5, .int .i64 a6, .int .i64 a7, .int .i64 a8, .int .i64 a9, .int .i64 aA, .int .i64 aB, .int .i64 aC, .int .i64 a1, .int .i64 a2]] w fun e w' => e = .returned (.bool r) ∧ Below w.heap.size w w' := by
 have hu41 := Try.underlying41; have HB := br w
 unfold impl_BodySleeps.f at h
 have H := h; clear h; replace H := qH H; obtain ⟨aI, aE, H⟩ := H
 by_cases aD : aI = true; subst aD; replace H := qT H; replace H := qH H; obtain ⟨aL, aJ, H⟩ := H
 obtain rfl := Option.some.inj H; refine ?L1; rotate_left; replace aD := Bool.eq_false_iff.mpr aD; subst aD; replace H := qU H; obtain rfl := Option.some.inj H; refine ?L2
 rotate_right
 case' L1 | L2 =>
  go_enter Try.func22, Try.ntmps22; go_wp2_with (first | ((with_reducible refine gd 1 rfl ?_); refine bx 1 #[.int .i64 a3, .int .i64 a4, .int .i64 a5, .int .i64 a6, .int .i64 a7, .int .i64 a8, .int .i64 a9, .int .i64 aA, .int .i64 aB, .int .i64 aC, .int .i64 a1, .int .i64 a2] 41 ?_; intro aF hg w5 a0 hb; have aK := se hg HB; replace HB := bS HB hb; clear hb hg; have hcz6_c := cz12 a0.out; have hfz6_c := fz12 a0.out) | ((with_reducible refine gc 58 rfl ?_); refine gr 4 Try.func58 (impl_BodyOk.calls (r := true) aE.out) ?_; rintro w7 hb; replace a0 := kBB a0 hb; replace HB := bS HB hb; clear hb; have hcz8_c := cz12 a0.out; have hfz8_c := fz12 a0.out) | (go_at_call 56; (with_reducible refine (impl_Body_sleeps.calls aJ.out).mono ?_); rintro e w9 ⟨rfl, hb⟩; replace a0 := kBB a0 hb; replace HB := bS HB hb; clear hb) | ((with_reducible refine gc 58 rfl ?_); refine gr 4 Try.func58 (impl_BodyOk.calls (r := false) aE.out) ?_; rintro aM hb; replace a0 := kBB a0 hb; replace HB := bS HB hb; clear hb))
  go_ret
 case L1 =>
  exact ⟨qE, qL HB⟩
 case L2 =>
  exact ⟨qE, qL HB⟩

/-! ### laws_FnGroupAwake: function 4 -/
mutual
def laws_FnGroupAwake.l0 : Nat → List S41 → List Bool → List Bool → List Int → Int → Option (Bool)
  | 0, _, _, _, _, _ => none
  | k + 1, x3, x4, x5, x6, x7 => if x7 < (x4.length : Int) then (laws_FnGroupAwake.l1 k x3 x4 x5 x6 x7 false 0) else (some true)
def laws_FnGroupAwake.l1 : Nat → List S41 → List Bool → List Bool → List Int → Int → Bool → Int → Option (Bool)
  | 0, _, _, _, _, _, _, _ => none
  | k + 1, x3, x4, x5, x6, x7, x8, x9 => if x9 < (x3.length : Int) then (if x8 = true then (laws_FnGroupAwake.l1 k x3 x4 x5 x6 x7 true (wrap64 (x9 + 1))) else (if 0 ≤ x9 then (if x9 < (x6.length : Int) then (if (rd x6 x9) = x7 then ((impl_BodySleeps.f k ((rd_T41 x3 x9).f0) ((rd_T41 x3 x9).f1.f0) ((rd_T41 x3 x9).f1.f1) ((rd_T41 x3 x9).f1.f2) ((rd_T41 x3 x9).f2.f0) ((rd_T41 x3 x9).f2.f1) ((rd_T41 x3 x9).f3.f0) ((rd_T41 x3 x9).f3.f1) ((rd_T41 x3 x9).f4) ((rd_T41 x3 x9).f5) ((rd_T41 x3 x9).f6) ((rd_T41 x3 x9).f7)).bind fun c3 => (laws_FnGroupAwake.l1 k x3 x4 x5 x6 x7 (!c3) (wrap64 (x9 + 1)))) else (laws_FnGroupAwake.l1 k x3 x4 x5 x6 x7 false (wrap64 (x9 + 1)))) else none) else none)) else (if 0 ≤ x7 then (if x7 < (x4.length : Int) then (if x7 < (x5.length : Int) then (if ((rdOf false x4 x7) != (rdOf false x5 x7)) = true then (some false) else (if ((rdOf false x4 x7) != x8) = true then (some false) else (laws_FnGroupAwake.l0 k x3 x4 x5 x6 (wrap64 (x7 + 1))))) else none) else none) else none)
end
def laws_FnGroupAwake.f (k : Nat) (l0 : List Int) : Option (Bool) := if (l0.length : Int) > 1048576 then (some true) else ((spec_DrawGroupAwake.f k l0).bind fun b4 => ((impl_GroupAwake.f k b4).bind fun bK => ((spec_GroupAwake.f k b4).bind fun bL => (if (bK.length : Int) = (bL.length : Int) then ((impl_Groups.f k b4).bind fun c4 => (laws_FnGroupAwake.l0 k b4 bK bL c4 0)) else (some false)))))
theorem laws_FnGroupAwake.calls {k : Nat} {A0 : Option Addr} {c0 : Nat} {l0 : List Int} {r : Bool} {w : World} (hr0 : Kd.C (Kd.int .u8) w A0 l0.length l0) (hc0 : l0.length ≤ c0) (h : laws_FnGroupAwake.f k l0 = some r) :
  Calls Try.prog 4 #[.slice A0 l0.length c0] w fun e w' => e = .returned (.bool r) ∧ Below w.heap.size w w' := by
 have hu41 := Try.underlying41; have HR0 := az hr0; have dB := az hc0; clear hr0 hc0; have HB := br w
 unfold laws_FnGroupAwake.f at h
 have H := h; clear h; by_cases aK : (l0.length : Int) > 1048576; rw [if_pos aK] at H; have aW : decide (1048576 < (l0.length : Int)) = true := decide_eq_true aK; have aX : decide (1048576 < l0.length) = true := decide_eq_true (by omega); clear aK; obtain rfl := Option.some.inj H; refine ?L1; rotate_left; rw [if_neg aK] at H; have aW : decide (1048576 < (l0.length : Int)) = false := decide_eq_false aK; have aX : decide (1048576 < l0.length) = false := decide_eq_false (by omega); clear aK; replace H := qH H; obtain ⟨aF, c5, H⟩ := H
 replace H := qH H; obtain ⟨a2, c6, H⟩ := H
 replace H := qH H; obtain ⟨a3, c7, H⟩ := H
 by_cases a6 : (a2.length : Int) = (a3.length : Int); rw [if_pos a6] at H; have aY : ((a2.length : Int) == (a3.length : Int)) = true := beq_iff_eq.mpr a6; have aZ : ((a2.length : Int) != (a3.length : Int)) = false := bne_eq_false_iff_eq.mpr a6
 have b0 : (a2.length == a3.length) = true := by first | simpa using a6 | (simp at a6 ⊢; omega)
 clear a6; replace H := qH H; obtain ⟨a7, c8, H⟩ := H
 have H' := az H; clear H; refine ?L10; rotate_left; rw [if_neg a6] at H; have aY : ((a2.length : Int) == (a3.length : Int)) = false := beq_eq_false_iff_ne.mpr a6; have aZ : ((a2.length : Int) != (a3.length : Int)) = true := bne_iff_ne.mpr a6
 have b0 : (a2.length == a3.length) = false := by first | simpa using a6 | (simp at a6 ⊢; omega)
 obtain rfl := Option.some.inj H; refine ?L11
 rotate_right 2
 case' L1 | L10 | L11 =>
  go_enter Try.func4, Try.ntmps4
 case L1 =>
  go_wp2
  repeat (go_quiet (fail); try go_wp2)
  go_ret
  exact ⟨qE, qL HB⟩
 case' L10 | L11 =>
  go_wp2_with (first | (go_at_call 19; (with_reducible refine (spec_DrawGroupAwake.calls (qC HR0.out) dB.out c5.out).mono ?_); rintro e w8 ⟨dG, rfl, aQ, hb⟩; have a5 := lo aQ HB; replace HB := bS HB hb; clear hb; obtain ⟨cD, cE, dC⟩ := Kd.R_slice a5.out; subst dC) | (go_at_call 20; (with_reducible refine (impl_GroupAwake.calls (qC (rr a5)) ((rc a5)) c6.out).mono ?_); rintro e dL ⟨dH, rfl, aQ, hb⟩; have aI := lo aQ HB; replace a5 := rb a5 hb; replace HB := bS HB hb; clear hb) | (go_at_call 21; (with_reducible refine (spec_GroupAwake.calls (qC (rr a5)) ((rc a5)) c7.out).mono ?_); rintro e dM ⟨dI, rfl, aQ, hb⟩; have aS := lo (rn aQ aI) HB; replace a5 := rb a5 hb; replace aI := re aI aQ hb; replace HB := bS HB hb; clear hb; obtain ⟨b9, bA, cH⟩ := Kd.R_slice aI.out; subst cH; obtain ⟨bB, bC, cI⟩ := Kd.R_slice aS.out; subst cI) | (go_at_call 14; (with_reducible refine (impl_Groups.calls (qC (rr a5)) ((rc a5)) c8.out).mono ?_); rintro e dN ⟨bM, rfl, aQ, hb⟩; have c2 := lo aQ HB; replace a5 := rb a5 hb; replace aI := rb aI hb; replace aS := rb aS hb; replace HB := bS HB hb; clear hb) | (go_quiet (fail)))
 case L10 =>
  go_loopg [7] k (fun kq v7 w' => ∃ (a1 : Int), v7 = .int .i64 a1 ∧ Aside0 (laws_FnGroupAwake.l0 kq aF a2 a3 a7 a1 = some r) ∧ Aside0 (kq ≤ k) ∧ Aside0 (Kd.R k41 41 w' w.heap.size (fun _ => True) (.slice cD aF.length cE) aF) ∧ Aside0 (Kd.R Kd.bool 4 w' w.heap.size (fun k_ => some k_ ≠ ((.slice bB a3.length bC) : Value).ownBlock) (.slice b9 a2.length bA) a2) ∧ Aside0 (Kd.R Kd.bool 4 w' w.heap.size (fun k_ => some k_ ≠ ((.slice b9 a2.length bA) : Value).ownBlock) (.slice bB a3.length bC) a3) ∧ Aside0 (Kd.R (Kd.int .i64) 3 w' w.heap.size (fun _ => True) bM a7) ∧ Aside0 (Below w.heap.size w w'))
  case atStart => exact ⟨(0), qG, H', ⟨Nat.le_refl _⟩, ⟨qR a5⟩, ⟨by (with_reducible repeat (first | apply Kd.R_alloc | apply Kd.R_drewN | apply Kd.R_drew)); exact Kd.R_mono aI.out (fun _ hk => hk.2)⟩, ⟨by (with_reducible repeat (first | apply Kd.R_alloc | apply Kd.R_drewN | apply Kd.R_drew)); exact Kd.R_mono aS.out (fun _ hk => hk.2)⟩, ⟨qR c2⟩, ⟨qL HB⟩⟩
  case round =>
   clear H'; obtain ⟨a1, rfl, HA, b2, aM, aE, aJ, aL, HB⟩ := hrel
   obtain ⟨k1, rfl⟩ := qz gk HA
   have H := HA.out; clear HA; simp only [laws_FnGroupAwake.l0] at H; replace H := qc H; obtain ⟨b1, H⟩ | ⟨b1, H⟩ := H; have H' := az H; clear H; refine ?L8; rotate_left; obtain rfl := Option.some.inj H; refine ?L9
   rotate_right
   case' L8 | L9 =>
    go_wp2
    repeat (go_quiet (fail); try go_wp2)
   case L8 =>
    go_loopg [8, 9] k1 (fun kq v8 v9 w' => ∃ (aH : Bool) (a4 : Int), v8 = .bool aH ∧ v9 = .int .i64 a4 ∧ Aside0 (laws_FnGroupAwake.l1 kq aF a2 a3 a7 a1 aH a4 = some r) ∧ Aside0 (kq ≤ k1) ∧ Aside0 (Kd.R k41 41 w' w.heap.size (fun _ => True) (.slice cD aF.length cE) aF) ∧ Aside0 (Kd.R Kd.bool 4 w' w.heap.size (fun k_ => some k_ ≠ ((.slice bB a3.length bC) : Value).ownBlock) (.slice b9 a2.length bA) a2) ∧ Aside0 (Kd.R Kd.bool 4 w' w.heap.size (fun k_ => some k_ ≠ ((.slice b9 a2.length bA) : Value).ownBlock) (.slice bB a3.length bC) a3) ∧ Aside0 (Kd.R (Kd.int .i64) 3 w' w.heap.size (fun _ => True) bM a7) ∧ Aside0 (Below w.heap.size w w'))
    case atStart => exact ⟨(false), (0), qG, qG, H', ⟨Nat.le_refl _⟩, ⟨qR aM⟩, ⟨qR aE⟩, ⟨qR aJ⟩, ⟨qR aL⟩, ⟨qL HB⟩⟩
    case round =>
     clear H'; obtain ⟨aH, a4, rfl, rfl, HA, b3, aM, aE, aJ, aL, HB⟩ := hrel
     obtain ⟨k2, rfl⟩ := qz gk HA
     have H := HA.out; clear HA; simp only [laws_FnGroupAwake.l1] at H; replace H := qc H; obtain ⟨bR, H⟩ | ⟨bR, H⟩ := H; by_cases b5 : aH = true; subst b5; replace H := qT H; have H' := az H; clear H; refine ?L2; rotate_left; replace b5 := Bool.eq_false_iff.mpr b5; subst b5; replace H := qU H; replace H := qd H; obtain ⟨cV, H⟩ := H; replace H := qd H; obtain ⟨cW, H⟩ := H; by_cases aN : (rd a7 a4) = a1; rw [if_pos aN] at H; have bT : ((rd a7 a4) == a1) = true := beq_iff_eq.mpr aN; have bU : ((rd a7 a4) != a1) = false := bne_eq_false_iff_eq.mpr aN; clear aN; replace H := qH H; obtain ⟨c9, cA, H⟩ := H
     have H' := az H; clear H; refine ?L3; rotate_left; rw [if_neg aN] at H; have bT : ((rd a7 a4) == a1) = false := beq_eq_false_iff_ne.mpr aN; have bU : ((rd a7 a4) != a1) = true := bne_iff_ne.mpr aN; have H' := az H; clear H; refine ?L4
     rotate_right 2
     rotate_left 3
     replace H := qd H; obtain ⟨cX, H⟩ := H; replace H := qd H; obtain ⟨b1, H⟩ := H; replace H := qd H; obtain ⟨cY, H⟩ := H; by_cases a8 : ((rdOf false a2 a1) != (rdOf false a3 a1)) = true; rw [if_pos a8] at H; have bV : ((rdOf false a2 a1) != (rdOf false a3 a1)) = true := a8; refine ?L5; rotate_left; rw [if_neg a8] at H
     have bV : ((rdOf false a2 a1) != (rdOf false a3 a1)) = false := by simpa using a8
     (try (have bW : decide ((rdOf false a2 a1) = (rdOf false a3 a1)) = true := by simpa using a8)); (try (have bX : ((rdOf false a2 a1) == (rdOf false a3 a1)) = true := by simpa using a8)); clear a8; by_cases a9 : ((rdOf false a2 a1) != aH) = true; rw [if_pos a9] at H; have bY : ((rdOf false a2 a1) != aH) = true := a9; refine ?L6; rotate_left; rw [if_neg a9] at H
     have bY : ((rdOf false a2 a1) != aH) = false := by simpa using a9
     refine ?L7
     rotate_right 2
     rotate_right 3
     case L2 =>
      go_wp2
      repeat (go_quiet (fail); try go_wp2)
      go_roundg k2
      case measure => exact mb b2 b3
      exact ⟨(true), (wrap64 (a4 + 1)), qG, qG, H', ⟨mb b2 b3⟩, ⟨qR aM⟩, ⟨qR aE⟩, ⟨qR aJ⟩, ⟨qR aL⟩, ⟨qL HB⟩⟩
     case' L3 | L4 =>
      obtain ⟨dJ, dK, cJ⟩ := Kd.R_slice aL.out; subst cJ; obtain ⟨bD, bE, dD, cB, cK⟩ := ayi (rr aL) a4; cases cB
     case L3 =>
      obtain ⟨bF, bG, dE, cC, cL, cM, cN, cO, cP, cQ, cR, cS, cT, cU, cF, cG⟩ := ay41 (rr aM) a4; cases cC; go_wp2_with (first | (go_at_call 22; (with_reducible refine (impl_BodySleeps.calls cA.out).mono ?_); rintro e dO ⟨rfl, hb⟩; replace aM := rb aM hb; replace aE := rb aE hb; replace aJ := rb aJ hb; replace aL := rb aL hb; replace HB := bS HB hb; clear hb) | (go_quiet (fail)))
      go_roundg k2
      case measure => exact mb b2 b3
      exact ⟨(!c9), (wrap64 (a4 + 1)), qG, qG, H', ⟨mb b2 b3⟩, ⟨qR aM⟩, ⟨qR aE⟩, ⟨qR aJ⟩, ⟨qR aL⟩, ⟨qL HB⟩⟩
     case L4 =>
      go_wp2
      repeat (go_quiet (fail); try go_wp2)
      go_roundg k2
      case measure => exact mb b2 b3
      exact ⟨(false), (wrap64 (a4 + 1)), qG, qG, H', ⟨mb b2 b3⟩, ⟨qR aM⟩, ⟨qR aE⟩, ⟨qR aJ⟩, ⟨qR aL⟩, ⟨qL HB⟩⟩
     case L5 =>
      (try (have bW : decide ((rdOf false a2 a1) = (rdOf false a3 a1)) = false := by simpa using a8)); (try (have bX : ((rdOf false a2 a1) == (rdOf false a3 a1)) = false := by simpa using a8)); (try (have cZ : ¬ ((rdOf false a2 a1) = (rdOf false a3 a1)) := by simpa using a8)); clear a8; obtain rfl := Option.some.inj H; have aA : 0 ≤ (a1 : Int) := qD; have aB : a1 < (a2.length : Int) := qD; obtain ⟨aT, aU, b6⟩ := Kd.at_bool (rr aE) a1 aA aB; cases aU; replace aA := eq_true aA; replace aB := eq_true aB; have aC : 0 ≤ (a1 : Int) := qD; have aD : a1 < (a3.length : Int) := qD; obtain ⟨bI, aV, b7⟩ := Kd.at_bool (rr aJ) a1 aC aD; cases aV; replace aC := eq_true aC; replace aD := eq_true aD; go_wp2
      repeat (go_quiet (fail); try go_wp2)
      go_ret
      exact ⟨qE, qL HB⟩
     case L6 =>
      (try (have bZ : decide ((rdOf false a2 a1) = aH) = false := by simpa using a9)); (try (have c1 : ((rdOf false a2 a1) == aH) = false := by simpa using a9)); (try (have dA : ¬ ((rdOf false a2 a1) = aH) := by simpa using a9)); clear a9; obtain rfl := Option.some.inj H; have aA : 0 ≤ (a1 : Int) := qD; have aB : a1 < (a2.length : Int) := qD; obtain ⟨aT, aU, b6⟩ := Kd.at_bool (rr aE) a1 aA aB; cases aU; replace aA := eq_true aA; replace aB := eq_true aB; have aC : 0 ≤ (a1 : Int) := qD; have aD : a1 < (a3.length : Int) := qD; obtain ⟨bI, aV, b7⟩ := Kd.at_bool (rr aJ) a1 aC aD; cases aV; replace aC := eq_true aC; replace aD := eq_true aD; have aO : 0 ≤ (a1 : Int) := qD; have aP : a1 < (a2.length : Int) := qD; obtain ⟨b8, bH, bJ⟩ := Kd.at_bool (rr aE) a1 aO aP; obtain rfl : aT = b8 := (by injection bH); replace aO := eq_true aO; replace aP := eq_true aP; go_wp2
      repeat (go_quiet (fail); try go_wp2)
      go_ret
      exact ⟨qE, qL HB⟩
     case L7 =>
      (try (have bZ : decide ((rdOf false a2 a1) = aH) = true := by simpa using a9)); (try (have c1 : ((rdOf false a2 a1) == aH) = true := by simpa using a9)); clear a9; have H' := az H; clear H; have aA : 0 ≤ (a1 : Int) := qD; have aB : a1 < (a2.length : Int) := qD; obtain ⟨aT, aU, b6⟩ := Kd.at_bool (rr aE) a1 aA aB; cases aU; replace aA := eq_true aA; replace aB := eq_true aB; have aC : 0 ≤ (a1 : Int) := qD; have aD : a1 < (a3.length : Int) := qD; obtain ⟨bI, aV, b7⟩ := Kd.at_bool (rr aJ) a1 aC aD; cases aV; replace aC := eq_true aC; replace aD := eq_true aD; have aO : 0 ≤ (a1 : Int) := qD; have aP : a1 < (a2.length : Int) := qD; obtain ⟨b8, bH, bJ⟩ := Kd.at_bool (rr aE) a1 aO aP; obtain rfl : aT = b8 := (by injection bH); replace aO := eq_true aO; replace aP := eq_true aP; go_wp2
      repeat (go_quiet (fail); try go_wp2)
      go_roundg k2
      case measure => exact mb b2 b3
      exact ⟨(wrap64 (a1 + 1)), qG, H', ⟨mb b2 b3⟩, ⟨qR aM⟩, ⟨qR aE⟩, ⟨qR aJ⟩, ⟨qR aL⟩, ⟨qL HB⟩⟩
   case L9 =>
    go_ret
    exact ⟨qE, qL HB⟩
 case L11 =>
  go_ret
  exact ⟨qE, qL HB⟩

/-- THE ONE PURE STATEMENT of laws_FnGroupAwake: yours. -/
def laws_FnGroupAwake.Pure : Prop := ∀ (l0 : List Int), l0.length ≤ maxLen → l0.length * 1 ≤ 140737488351232 → (∀ x ∈ l0, (Lit.int .u8 x).wf = true) → ∃ k, laws_FnGroupAwake.f k l0 = some true
theorem laws_FnGroupAwake.walk (P : laws_FnGroupAwake.Pure) (a0 : Option Addr) (len0 cap0 : Nat) (z0 : List Int) (w : World) (w0 : (a0 = none ∧ len0 = 0 ∧ cap0 = 0 ∧ z0 = []) ∨ ∃ x, a0 = some x ∧ len0 ≤ cap0 ∧ cap0 ≤ maxLen ∧ z0.length = cap0 ∧ (∀ i, i < z0.length → w.cell? (x.add i) = some (.int .u8 (z0.getD i 0))) ∧ ∀ n ∈ z0, (Lit.int .u8 n).wf = true) (y0 : len0 * 1 ≤ 140737488351232) :
  Calls Try.prog 4 #[.slice a0 len0 cap0] w fun e w' => e = .returned (.bool true) ∧ Below w.heap.size w w' := by
 obtain ⟨l0, rfl, hr0, hm0, dF, hc0⟩ := ReadsInt.ofRowC w0
 obtain ⟨k, h⟩ := P l0 hm0 y0 dF
 refine (laws_FnGroupAwake.calls (k := k) (l0 := l0) (r := true) (w := w) (Kd.C_of_reads (d := (0 : Int)) (h1 := fun _ => rfl) hr0) hc0 h).mono ?_
 rintro e w' ⟨rfl, hd⟩
 exact ⟨rfl, hd⟩
end Go.Proofs.Ytdngjedhbnoaoaa.PBig
