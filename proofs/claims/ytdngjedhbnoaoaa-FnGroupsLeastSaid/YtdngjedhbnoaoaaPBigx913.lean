/- What these functions compute, each walked once: spec_DrawGroups, laws_pqInts, spec_Groups; for all arguments and worlds, under the conditions that each theorem names. -/
import Derived.Test.YtdngjedhbnoaoaaSq
import Derived.Test.YtdngjedhbnoaoaaPBigx900
import Derived.Test.YtdngjedhbnoaoaaPBigx903
import Derived.Test.YtdngjedhbnoaoaaPBigx905
import Derived.Test.YtdngjedhbnoaoaaPBigx912
import Derived.Test.YtdngjedhbnoaoaaPBigx914
namespace Go.Proofs.Ytdngjedhbnoaoaa.PBig
open Go.RowKit Go.Proofs.YtdngjedhbnoaoaaW.PrintWords Go.Proofs.YtdngjedhbnoaoaaW.PrintLast Go.Proofs.YtdngjedhbnoaoaaW.PrintMore
attribute [local go_sem] max2_int min2_int max_two min_two max_three min_three max_four min_four
set_option linter.unusedVariables false
set_option linter.unusedSimpArgs false
set_option maxHeartbeats 8000000
set_option maxRecDepth 100000

/-! ### spec_DrawGroups: function 13 -/
def spec_DrawGroups.f (k : Nat) (l0 : List Int) : Option ((List S41)) := (spec_l1Open.f l0).bind fun bt836 => ((spec_l11AnyBodies.f k bt836.1 bt836.2).bind fun bt839 => (some bt839.1))
theorem spec_DrawGroups.calls {k : Nat} {A0 : Option Addr} {c0 : Nat} {l0 : List Int} {r : List S41} {w : World} (hr0 : Kd.C (Kd.int .u8) w A0 l0.length l0) (hc0 : l0.length ≤ c0) (h : spec_DrawGroups.f k l0 = some r) :
  Calls Try.prog 13 #[.slice A0 l0.length c0] w fun e w' => ∃ a2 : Value, e = .returned (a2) ∧ Kd.R k41 41 w' w.heap.size (fun _ => True) a2 r ∧ Below w.heap.size w w' := by
 have HR0 := az hr0; have a5 := az hc0; clear hr0 hc0; have HB := br w; have H : ((spec_l1Open.f l0).bind fun bt836 => ((spec_l11AnyBodies.f k bt836.1 bt836.2).bind fun bt839 => (some bt839.1))) = some r := h; clear h; replace H := qH H; obtain ⟨⟨a6, a7⟩, A2, H⟩ := H
 try dsimp only at H
 replace H := qH H; obtain ⟨⟨a8, a9⟩, A3, H⟩ := H
 try dsimp only at H
 obtain rfl := Option.some.inj H; go_enter Try.func13, Try.ntmps13; go_wp2_with (first | ((with_reducible refine gc 50 rfl ?_); refine gx 4 Try.func50 (spec_l1Open.calls (w0 := w) (qL HB) HR0.out a5.out A2.out) ?_; rintro a4 w4 ⟨hi, hb, hb2⟩; have a0 := az hi; replace HB := az hb; clear hb2 hb hi) | ((with_reducible refine gc 49 rfl ?_); refine gx 5 Try.func49 (spec_l11AnyBodies.calls (g := a4) (w0 := w) (qI a0) (qL HB) A3.out) ?_; rintro aA w5 ⟨a3, hi, hb, hk⟩; have a1 := lo a3 HB; replace HB := az hb; replace a0 := az hi; clear hb hk hi))
 go_ret
 exact ⟨_, qE, qR a1, qL HB⟩

/-! ### laws_pqInts: function 15 -/
def laws_pqInts.l0 : Nat → List Int → List Int → Int → Option (Bool)
  | 0, _, _, _ => none
  | k + 1, x0, x1, x5 => if x5 < (x0.length : Int) then (if 0 ≤ x5 then (if x5 < (x1.length : Int) then (if (rd x0 x5) = (rd x1 x5) then (laws_pqInts.l0 k x0 x1 (wrap64 (x5 + 1))) else (some false)) else none) else none) else (some true)
def laws_pqInts.f (k : Nat) (l0 l1 : List Int) : Option (Bool) := if (l0.length : Int) = (l1.length : Int) then (laws_pqInts.l0 k l0 l1 0) else (some false)
theorem laws_pqInts.calls {k : Nat} {A0 : Option Addr} {c0 : Nat} {l0 : List Int} {A1 : Option Addr} {c1 : Nat} {l1 : List Int} {r : Bool} {w : World} (hr0 : Kd.C (Kd.int .i64) w A0 l0.length l0) (hc0 : l0.length ≤ c0) (hr1 : Kd.C (Kd.int .i64) w A1 l1.length l1) (hc1 : l1.length ≤ c1) (h : laws_pqInts.f k l0 l1 = some r) :
  Calls Try.prog 15 #[.slice A0 l0.length c0, .slice A1 l1.length c1] w fun e w' => e = .returned (.bool r) ∧ Drawn0 w w' := by
 have HR0 := az hr0; have aP := az hc0; clear hr0 hc0; have HR1 := az hr1; have aQ := az hc1; clear hr1 hc1; have H : (if (l0.length : Int) = (l1.length : Int) then (laws_pqInts.l0 k l0 l1 0) else (some false)) = some r := h; clear h; by_cases a1 : (l0.length : Int) = (l1.length : Int); rw [if_pos a1] at H; have a4 : ((l0.length : Int) == (l1.length : Int)) = true := beq_iff_eq.mpr a1; have a5 : ((l0.length : Int) != (l1.length : Int)) = false := bne_eq_false_iff_eq.mpr a1
 have a6 : (l0.length == l1.length) = true := by first | simpa using a1 | (simp at a1 ⊢; omega)
 clear a1; have H' := az H; clear H; refine ?L4; rotate_left; rw [if_neg a1] at H; have a4 : ((l0.length : Int) == (l1.length : Int)) = false := beq_eq_false_iff_ne.mpr a1; have a5 : ((l0.length : Int) != (l1.length : Int)) = true := bne_iff_ne.mpr a1
 have a6 : (l0.length == l1.length) = false := by first | simpa using a1 | (simp at a1 ⊢; omega)
 obtain rfl := Option.some.inj H; refine ?L5
 rotate_right
 case' L4 | L5 =>
  go_enter Try.func15, Try.ntmps15; go_wp2
  repeat (go_quiet (fail); try go_wp2)
 case L4 =>
  go_loopg [5] k (fun kq v5 w' => ∃ (a0 : Int), v5 = .int .i64 a0 ∧ Aside0 (laws_pqInts.l0 kq l0 l1 a0 = some r) ∧ Aside0 (kq ≤ k) ∧ Drawn0 w w')
  case atStart => exact ⟨(0), qG, H', ⟨Nat.le_refl _⟩, by repeat (first | exact Drawn0.refl _ | apply Drawn0.step)⟩
  case round =>
   clear H'; obtain ⟨a0, rfl, HA, aI, ⟨m1, rfl⟩⟩ := hrel
   obtain ⟨k1, rfl⟩ := qz gk HA
   have H := HA.out; clear HA; simp only [laws_pqInts.l0] at H; replace H := qc H; obtain ⟨aD, H⟩ | ⟨aD, H⟩ := H; replace H := qd H; obtain ⟨aL, H⟩ := H; replace H := qd H; obtain ⟨aM, H⟩ := H; by_cases a2 : (rd l0 a0) = (rd l1 a0); rw [if_pos a2] at H; have aE : ((rd l0 a0) == (rd l1 a0)) = true := beq_iff_eq.mpr a2; have aF : ((rd l0 a0) != (rd l1 a0)) = false := bne_eq_false_iff_eq.mpr a2; clear a2; have H' := az H; clear H; refine ?L1; rotate_left; rw [if_neg a2] at H; have aE : ((rd l0 a0) == (rd l1 a0)) = false := beq_eq_false_iff_ne.mpr a2; have aF : ((rd l0 a0) != (rd l1 a0)) = true := bne_iff_ne.mpr a2; obtain rfl := Option.some.inj H; refine ?L2
   rotate_right
   rotate_left 2
   obtain rfl := Option.some.inj H; refine ?L3
   rotate_right 2
   case' L1 | L2 =>
    obtain ⟨a7, a8, aN, aG, aJ⟩ := ayi HR0.out a0; cases aG; obtain ⟨a9, aA, aO, aH, aK⟩ := ayi HR1.out a0; cases aH; go_wp2
    repeat (go_quiet (fail); try go_wp2)
   case L1 =>
    go_roundg k1
    case measure => exact ma aI
    exact ⟨(wrap64 (a0 + 1)), qG, H', ⟨ma aI⟩, by repeat (first | exact Drawn0.refl _ | apply Drawn0.step)⟩
   case L2 =>
    go_ret
    exact ⟨by first | rfl | (simp; done) | (simp [*]; done), by repeat (first | exact Drawn0.refl _ | apply Drawn0.step)⟩
   case L3 =>
    go_wp2
    repeat (go_quiet (fail); try go_wp2)
    go_ret
    exact ⟨by first | rfl | (simp; done) | (simp [*]; done), by repeat (first | exact Drawn0.refl _ | apply Drawn0.step)⟩
 case L5 =>
  go_ret
  exact ⟨by first | rfl | (simp; done) | (simp [*]; done), by repeat (first | exact Drawn0.refl _ | apply Drawn0.step)⟩

/-! ### spec_Groups: function 16 -/
def spec_Groups.f (k : Nat) (l0 : List S41) : Option (List Int) := (spec_BodiesOk.f k l0).bind fun a3 => (if a3 = true then ((spec_l7Contacts.f k l0).bind fun a6 => ((spec_l7Groups.f k l0 a6).bind fun a7 => (some a7))) else (some (([] : List Int))))
theorem spec_Groups.calls {k : Nat} {A0 : Option Addr} {c0 : Nat} {l0 : List S41} {r : List Int} {w : World} (hr0 : Kd.C k41 w A0 l0.length l0) (hc0 : l0.length ≤ c0) (h : spec_Groups.f k l0 = some r) :
  Calls Try.prog 16 #[.slice A0 l0.length c0] w fun e w' => ∃ aC : Value, e = .returned (aC) ∧ Kd.R (Kd.int .i64) 3 w' w.heap.size (fun _ => True) aC r ∧ Below w.heap.size w w' := by
 have HR0 := az hr0; have a8 := az hc0; clear hr0 hc0; have HB := br w
 unfold spec_Groups.f at h
 have H := h; clear h; replace H := qH H; obtain ⟨a3, A2, H⟩ := H
 by_cases c3 : a3 = true
 ·subst c3; replace H := qT H; replace H := qH H; obtain ⟨a6, A4, H⟩ := H
  replace H := qH H; obtain ⟨a7, A5, H⟩ := H
  obtain rfl := Option.some.inj H; go_enter Try.func16, Try.ntmps16; go_wp2_with (first | ((with_reducible refine gc 17 rfl ?_); refine gr 4 Try.func17 (spec_BodiesOk.calls (r := true) (qC HR0.out) a8.out A2.out) ?_; rintro w6 hb; replace HB := bS HB hb; clear hb) | ((with_reducible refine gc 53 rfl ?_); refine gx 9 Try.func53 (spec_l7Contacts.calls (qC (Kd.C_below HR0.out HB.out)) a8.out A4.out) ?_; rintro aE w7 ⟨a4, hb⟩; have a0 := lo a4 HB; replace HB := bS HB hb; clear hb; obtain ⟨aH, aI, aD⟩ := Kd.R_slice a0.out; subst aD) | ((with_reducible refine gc 52 rfl ?_); refine gx 10 Try.func52 (spec_l7Groups.calls (qC (Kd.C_below HR0.out HB.out)) a8.out (qC (rr a0)) ((rc a0)) A5.out) ?_; rintro aF w9 ⟨a4, hb⟩; have a9 := lo a4 HB; replace a0 := rb a0 hb; replace HB := bS HB hb; clear hb))
  go_ret
  exact ⟨_, qE, qR a9, qL HB⟩
 replace c3 := Bool.eq_false_iff.mpr c3; subst c3; replace H := qU H; obtain ⟨aB, a1⟩ : ∃ y_ : List Int, y_ = (([] : List Int)) := ⟨_, rfl⟩
 replace H : (some aB) = some r := qs H a1
 have a5 := az a1; clear a1; obtain rfl := Option.some.inj H; go_enter Try.func16, Try.ntmps16; go_wp2_with (first | ((with_reducible refine gc 17 rfl ?_); refine gr 4 Try.func17 (spec_BodiesOk.calls (r := false) (qC HR0.out) a8.out A2.out) ?_; rintro aJ hb; replace HB := bS HB hb; clear hb) | ((with_reducible refine gd 6 rfl ?_); refine Kd.R_lit (Kd.int .i64) _ 3 ?hg (N := 6) ?hd (xs := ([] : List Int)) (inner := []) (ok := fun _ => True) (okp := fun _ => True) ?hr ?hp (fun _ hk => hk) trivial (Below.refl _ _) (Nat.le_refl _) (by simp) ?_; (case hd => rfl); (case hg => rfl); (case hr => first | (go_simp; done) | (go_simp; rfl)); (case hp => exact (Reps.none _ _)); intro aG aK a2 hb hg_ hnew_; clear hg_ hnew_; (first | rw [← a5.out] at a2 | (simp only [Int.reduceToNat] at a2; rw [← a5.out] at a2)); have aA := lo a2 HB; replace HB := bS HB hb; clear hb a2))
 go_ret
 exact ⟨_, qE, qR aA, qL HB⟩
end Go.Proofs.Ytdngjedhbnoaoaa.PBig
