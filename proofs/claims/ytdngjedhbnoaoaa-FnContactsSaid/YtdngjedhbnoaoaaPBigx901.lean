/- What these functions compute, each walked once: base_2, spec_Contacts, spec_DrawContacts, laws_pqContacts, laws_FnContacts; for all arguments and worlds, under the conditions that each theorem names. -/
import Derived.Test.YtdngjedhbnoaoaaSq
import Derived.Test.YtdngjedhbnoaoaaPBigx900
import Derived.Test.YtdngjedhbnoaoaaPBigx905
import Derived.Test.YtdngjedhbnoaoaaPBigx912
import Derived.Test.YtdngjedhbnoaoaaPBigx914
import Derived.Test.YtdngjedhbnoaoaaPBigx916
namespace Go.Proofs.Ytdngjedhbnoaoaa.PBig
open Go.RowKit Go.Proofs.YtdngjedhbnoaoaaW.PrintWords Go.Proofs.YtdngjedhbnoaoaaW.PrintLast Go.Proofs.YtdngjedhbnoaoaaW.PrintMore
attribute [local go_sem] max2_int min2_int max_two min_two max_three min_three max_four min_four
set_option linter.unusedVariables false
set_option linter.unusedSimpArgs false
set_option maxHeartbeats 8000000
set_option maxRecDepth 100000

theorem eqA35 (d : Nat) (w : World) (x0 y0 : Int) (x1 y1 : Int) (x2 y2 : Int) :
    (Op.equalIn (d + 3) 35 (.agg #[.int .i64 x0, .int .i64 x1, .int .i64 x2]) (.agg #[.int .i64 y0, .int .i64 y1, .int .i64 y2])).run Try.prog w = .ok ((x0 == y0 && (x1 == y1)) && (x2 == y2)) w := by
  refine eqA_of Try.underlying35 (by kernel_rfl) ?_
  refine eqf_cons (by rfl) (by go_simp) (by go_simp) (eqA33 (d + 0) w _ _ _ _) ?_
  exact eqf_last (by rfl) (by go_simp; rfl) (by go_simp; rfl) (by go_simp)
theorem eqA37 (d : Nat) (w : World) (x0 y0 : Int) (x1 y1 : Int) (x2 y2 : Int) (x3 y3 : Int) (x4 y4 : Int) :
    (Op.equalIn (d + 4) 37 (.agg #[.int .i64 x0, .int .i64 x1, .int .i64 x2, .int .i64 x3, .int .i64 x4]) (.agg #[.int .i64 y0, .int .i64 y1, .int .i64 y2, .int .i64 y3, .int .i64 y4])).run Try.prog w = .ok (x0 == y0 && (x1 == y1 && (((x2 == y2 && (x3 == y3)) && (x4 == y4))))) w := by
  refine eqA_of Try.underlying37 (by kernel_rfl) ?_
  refine eqf_cons (by rfl) (by go_simp; rfl) (by go_simp; rfl) (by go_simp) ?_
  refine eqf_cons (by rfl) (by go_simp; rfl) (by go_simp; rfl) (by go_simp) ?_
  exact eqf_last (by rfl) (by go_simp) (by go_simp) (eqA35 (d + 0) w _ _ _ _ _ _)

/-! ### spec_Contacts: function 29 -/
def spec_Contacts.f (k : Nat) (l0 : List S41) : Option ((List S37)) := (spec_BodiesOk.f k l0).bind fun a1 => (if a1 = true then ((spec_l7Contacts.f k l0).bind fun a4 => (some a4)) else (some (([] : List S37))))
theorem spec_Contacts.calls {k : Nat} {A0 : Option Addr} {c0 : Nat} {l0 : List S41} {r : List S37} {w : World} (hr0 : Kd.C k41 w A0 l0.length l0) (hc0 : l0.length ≤ c0) (h : spec_Contacts.f k l0 = some r) :
  Calls Try.prog 29 #[.slice A0 l0.length c0] w fun e w' => ∃ a9 : Value, e = .returned (a9) ∧ Kd.R k37 37 w' w.heap.size (fun _ => True) a9 r ∧ Below w.heap.size w w' := by
 have HR0 := az hr0; have a5 := az hc0; clear hr0 hc0; have HB := br w
 unfold spec_Contacts.f at h
 have H := h; clear h; replace H := qH H; obtain ⟨a1, A2, H⟩ := H
 by_cases c3 : a1 = true
 ·subst c3; replace H := qT H; replace H := qH H; obtain ⟨a4, A4, H⟩ := H
  obtain rfl := Option.some.inj H; go_enter Try.func29, Try.ntmps29; go_wp2_with (first | ((with_reducible refine gc 17 rfl ?_); refine gr 4 Try.func17 (spec_BodiesOk.calls (r := true) (qC HR0.out) a5.out A2.out) ?_; rintro w5 hb; replace HB := bS HB hb; clear hb) | ((with_reducible refine gc 53 rfl ?_); refine gx 8 Try.func53 (spec_l7Contacts.calls (qC (Kd.C_below HR0.out HB.out)) a5.out A4.out) ?_; rintro aB w6 ⟨aA, hb⟩; have a6 := lo aA HB; replace HB := bS HB hb; clear hb))
  go_ret
  exact ⟨_, qE, qR a6, qL HB⟩
 replace c3 := Bool.eq_false_iff.mpr c3; subst c3; replace H := qU H; obtain ⟨a8, a0⟩ : ∃ y_ : List S37, y_ = (([] : List S37)) := ⟨_, rfl⟩
 replace H : (some a8) = some r := qs H a0
 have a2 := az a0; clear a0; obtain rfl := Option.some.inj H; go_enter Try.func29, Try.ntmps29; go_wp2_with (first | ((with_reducible refine gc 17 rfl ?_); refine gr 4 Try.func17 (spec_BodiesOk.calls (r := false) (qC HR0.out) a5.out A2.out) ?_; rintro w7 hb; replace HB := bS HB hb; clear hb) | ((with_reducible refine gd 6 rfl ?_); refine Kd.R_lit k37 _ 37 ?hg (N := 6) ?hd (xs := ([] : List S37)) (inner := []) (ok := fun _ => True) (okp := fun _ => True) ?hr ?hp (fun _ hk => hk) trivial (Below.refl _ _) (Nat.le_refl _) (by simp) ?_; (case hd => rfl); (case hg => rfl); (case hr => first | (go_simp; done) | (go_simp; rfl)); (case hp => exact (Reps.none _ _)); intro aC w8 a3 hb hg_ hnew_; clear hg_ hnew_; (first | rw [← a2.out] at a3 | (simp only [Int.reduceToNat] at a3; rw [← a2.out] at a3)); have a7 := lo a3 HB; replace HB := bS HB hb; clear hb a3))
 go_ret
 exact ⟨_, qE, qR a7, qL HB⟩

/-! ### spec_DrawContacts: function 46 -/
def spec_DrawContacts.f (k : Nat) (l0 : List Int) : Option ((List S41)) := (spec_l1Open.f l0).bind fun bt1502 => ((spec_l11AnyBodies.f k bt1502.1 bt1502.2).bind fun bt1505 => (some bt1505.1))
theorem spec_DrawContacts.calls {k : Nat} {A0 : Option Addr} {c0 : Nat} {l0 : List Int} {r : List S41} {w : World} (hr0 : Kd.C (Kd.int .u8) w A0 l0.length l0) (hc0 : l0.length ≤ c0) (h : spec_DrawContacts.f k l0 = some r) :
  Calls Try.prog 46 #[.slice A0 l0.length c0] w fun e w' => ∃ a3 : Value, e = .returned (a3) ∧ Kd.R k41 41 w' w.heap.size (fun _ => True) a3 r ∧ Below w.heap.size w w' := by
 have HR0 := az hr0; have a5 := az hc0; clear hr0 hc0; have HB := br w; have H : ((spec_l1Open.f l0).bind fun bt1502 => ((spec_l11AnyBodies.f k bt1502.1 bt1502.2).bind fun bt1505 => (some bt1505.1))) = some r := h; clear h; replace H := qH H; obtain ⟨⟨a6, a7⟩, A2, H⟩ := H
 try dsimp only at H
 replace H := qH H; obtain ⟨⟨a8, a9⟩, A3, H⟩ := H
 try dsimp only at H
 obtain rfl := Option.some.inj H; go_enter Try.func46, Try.ntmps46; go_wp2_with (first | ((with_reducible refine gc 50 rfl ?_); refine gx 4 Try.func50 (spec_l1Open.calls (w0 := w) (qL HB) HR0.out a5.out A2.out) ?_; rintro a2 w4 ⟨hi, hb, hb2⟩; have a0 := az hi; replace HB := az hb; clear hb2 hb hi) | ((with_reducible refine gc 49 rfl ?_); refine gx 5 Try.func49 (spec_l11AnyBodies.calls (g := a2) (w0 := w) (qI a0) (qL HB) A3.out) ?_; rintro aA w5 ⟨a4, hi, hb, hk⟩; have a1 := lo a4 HB; replace HB := az hb; replace a0 := az hi; clear hb hk hi))
 go_ret
 exact ⟨_, qE, qR a1, qL HB⟩

attribute [local go_sem high] eqA37
/-! ### laws_pqContacts: function 47 -/
def laws_pqContacts.l0 : Nat → List S37 → List S37 → Int → Option (Bool)
  | 0, _, _, _ => none
  | k + 1, x0, x1, x5 => if x5 < (x0.length : Int) then (if 0 ≤ x5 then (if x5 < (x1.length : Int) then (if (!(((rd_T37 x0 x5).f0) == ((rd_T37 x1 x5).f0)) || (!(((rd_T37 x0 x5).f1) == ((rd_T37 x1 x5).f1)) || (((!(((rd_T37 x0 x5).f2.f0.f0) == ((rd_T37 x1 x5).f2.f0.f0)) || (!(((rd_T37 x0 x5).f2.f0.f1) == ((rd_T37 x1 x5).f2.f0.f1)))) || (!(((rd_T37 x0 x5).f2.f1) == ((rd_T37 x1 x5).f2.f1))))))) = true then (some false) else (laws_pqContacts.l0 k x0 x1 (wrap64 (x5 + 1)))) else none) else none) else (some true)
def laws_pqContacts.f (k : Nat) (l0 l1 : List S37) : Option (Bool) := if (l0.length : Int) = (l1.length : Int) then (laws_pqContacts.l0 k l0 l1 0) else (some false)
theorem laws_pqContacts.calls {k : Nat} {A0 : Option Addr} {c0 : Nat} {l0 : List S37} {A1 : Option Addr} {c1 : Nat} {l1 : List S37} {r : Bool} {w : World} (hr0 : Kd.C k37 w A0 l0.length l0) (hc0 : l0.length ≤ c0) (hr1 : Kd.C k37 w A1 l1.length l1) (hc1 : l1.length ≤ c1) (h : laws_pqContacts.f k l0 l1 = some r) :
  Calls Try.prog 47 #[.slice A0 l0.length c0, .slice A1 l1.length c1] w fun e w' => e = .returned (.bool r) ∧ Drawn0 w w' := by
 have hu37 := Try.underlying37; have HR0 := az hr0; have aW := az hc0; clear hr0 hc0; have HR1 := az hr1; have aX := az hc1; clear hr1 hc1; have H : (if (l0.length : Int) = (l1.length : Int) then (laws_pqContacts.l0 k l0 l1 0) else (some false)) = some r := h; clear h; by_cases a1 : (l0.length : Int) = (l1.length : Int); rw [if_pos a1] at H; have a4 : ((l0.length : Int) == (l1.length : Int)) = true := beq_iff_eq.mpr a1; have a5 : ((l0.length : Int) != (l1.length : Int)) = false := bne_eq_false_iff_eq.mpr a1
 have a6 : (l0.length == l1.length) = true := by first | simpa using a1 | (simp at a1 ⊢; omega)
 clear a1; have H' := az H; clear H; refine ?L4; rotate_left; rw [if_neg a1] at H; have a4 : ((l0.length : Int) == (l1.length : Int)) = false := beq_eq_false_iff_ne.mpr a1; have a5 : ((l0.length : Int) != (l1.length : Int)) = true := bne_iff_ne.mpr a1
 have a6 : (l0.length == l1.length) = false := by first | simpa using a1 | (simp at a1 ⊢; omega)
 obtain rfl := Option.some.inj H; refine ?L5
 rotate_right
 case' L4 | L5 =>
  go_enter Try.func47, Try.ntmps47; go_wp2
  repeat (go_quiet (fail); try go_wp2)
 case L4 =>
  go_loopg [5] k (fun kq v5 w' => ∃ (a0 : Int), v5 = .int .i64 a0 ∧ Aside0 (laws_pqContacts.l0 kq l0 l1 a0 = some r) ∧ Aside0 (kq ≤ k) ∧ Drawn0 w w')
  case atStart => exact ⟨(0), qG, H', ⟨Nat.le_refl _⟩, by repeat (first | exact Drawn0.refl _ | apply Drawn0.step)⟩
  case round =>
   clear H'; obtain ⟨a0, rfl, HA, aH, ⟨m1, rfl⟩⟩ := hrel
   obtain ⟨k1, rfl⟩ := qz gk HA
   have H := HA.out; clear HA; simp only [laws_pqContacts.l0] at H; replace H := qc H; obtain ⟨aD, H⟩ | ⟨aD, H⟩ := H; replace H := qd H; obtain ⟨aS, H⟩ := H; replace H := qd H; obtain ⟨aT, H⟩ := H; by_cases a3 : (!(((rd_T37 l0 a0).f0) == ((rd_T37 l1 a0).f0)) || (!(((rd_T37 l0 a0).f1) == ((rd_T37 l1 a0).f1)) || (((!(((rd_T37 l0 a0).f2.f0.f0) == ((rd_T37 l1 a0).f2.f0.f0)) || (!(((rd_T37 l0 a0).f2.f0.f1) == ((rd_T37 l1 a0).f2.f0.f1)))) || (!(((rd_T37 l0 a0).f2.f1) == ((rd_T37 l1 a0).f2.f1))))))) = true; rw [if_pos a3] at H; have aE : (!(((rd_T37 l0 a0).f0) == ((rd_T37 l1 a0).f0)) || (!(((rd_T37 l0 a0).f1) == ((rd_T37 l1 a0).f1)) || (((!(((rd_T37 l0 a0).f2.f0.f0) == ((rd_T37 l1 a0).f2.f0.f0)) || (!(((rd_T37 l0 a0).f2.f0.f1) == ((rd_T37 l1 a0).f2.f0.f1)))) || (!(((rd_T37 l0 a0).f2.f1) == ((rd_T37 l1 a0).f2.f1))))))) = true := a3; clear a3; obtain rfl := Option.some.inj H; refine ?L1; rotate_left; rw [if_neg a3] at H
   have aE : (!(((rd_T37 l0 a0).f0) == ((rd_T37 l1 a0).f0)) || (!(((rd_T37 l0 a0).f1) == ((rd_T37 l1 a0).f1)) || (((!(((rd_T37 l0 a0).f2.f0.f0) == ((rd_T37 l1 a0).f2.f0.f0)) || (!(((rd_T37 l0 a0).f2.f0.f1) == ((rd_T37 l1 a0).f2.f0.f1)))) || (!(((rd_T37 l0 a0).f2.f1) == ((rd_T37 l1 a0).f2.f1))))))) = false := by simpa using a3
   clear a3; have H' := az H; clear H; refine ?L2
   rotate_right
   rotate_left 2
   obtain rfl := Option.some.inj H; refine ?L3
   rotate_right 2
   case' L1 | L2 =>
    obtain ⟨a7, a8, aU, aF, aI, aJ, aK, aL, aM⟩ := ay37 HR0.out a0; cases aF; obtain ⟨a9, aA, aV, aG, aN, aO, aP, aQ, aR⟩ := ay37 HR1.out a0; cases aG; go_wp2
    repeat (go_quiet (fail); try go_wp2)
   case L1 =>
    go_ret
    exact ⟨by first | rfl | (simp; done) | (simp [*]; done), by repeat (first | exact Drawn0.refl _ | apply Drawn0.step)⟩
   case L2 =>
    go_roundg k1
    case measure => exact ma aH
    exact ⟨(wrap64 (a0 + 1)), qG, H', ⟨ma aH⟩, by repeat (first | exact Drawn0.refl _ | apply Drawn0.step)⟩
   case L3 =>
    go_wp2
    repeat (go_quiet (fail); try go_wp2)
    go_ret
    exact ⟨by first | rfl | (simp; done) | (simp [*]; done), by repeat (first | exact Drawn0.refl _ | apply Drawn0.step)⟩
 case L5 =>
  go_ret
  exact ⟨by first | rfl | (simp; done) | (simp [*]; done), by repeat (first | exact Drawn0.refl _ | apply Drawn0.step)⟩

attribute [local go_sem high] eqA37
/-! ### laws_FnContacts: function 11 -/
mutual
def laws_FnContacts.j0 : Nat → List S41 → List S37 → Bool → Option (Bool)
  | 0, _, _, _ => none
  | k + 1, x3, x4, g2 => if g2 = true then ((spec_Contacts.f k x3).bind fun fA => ((laws_pqContacts.f k x4 fA).bind fun fB => (some fB))) else (laws_FnContacts.l0 k x3 x4 0 0)
def laws_FnContacts.l0 : Nat → List S41 → List S37 → Int → Int → Option (Bool)
  | 0, _, _, _, _ => none
  | k + 1, x3, x4, x5, x6 => if x6 < (x3.length : Int) then (laws_FnContacts.l1 k x3 x4 x5 x6 (wrap64 (x6 + 1))) else (some (x5 == (x4.length : Int)))
def laws_FnContacts.l1 : Nat → List S41 → List S37 → Int → Int → Int → Option (Bool)
  | 0, _, _, _, _, _ => none
  | k + 1, x3, x4, x5, x6, x7 => if x7 < (x3.length : Int) then (if 0 ≤ x6 then (if x6 < (x3.length : Int) then (if 0 ≤ x7 then ((impl_Touch.f k ((rd_T41 x3 x6).f1.f0) ((rd_T41 x3 x6).f1.f1) ((rd_T41 x3 x6).f1.f2) ((rd_T41 x3 x6).f2.f0) ((rd_T41 x3 x6).f2.f1) ((rd_T41 x3 x7).f1.f0) ((rd_T41 x3 x7).f1.f1) ((rd_T41 x3 x7).f1.f2) ((rd_T41 x3 x7).f2.f0) ((rd_T41 x3 x7).f2.f1)).bind fun bt1530 => (if bt1530.2.2.2 = true then (if ((rd_T41 x3 x6).f4) = 0 then (laws_FnContacts.j3 k x3 x4 x5 x6 x7 (((rd_T41 x3 x7).f4) == 0) bt1530.1 bt1530.2.1 bt1530.2.2.1) else (laws_FnContacts.j3 k x3 x4 x5 x6 x7 false bt1530.1 bt1530.2.1 bt1530.2.2.1)) else (laws_FnContacts.j3 k x3 x4 x5 x6 x7 true bt1530.1 bt1530.2.1 bt1530.2.2.1))) else none) else none) else none) else (laws_FnContacts.l0 k x3 x4 x5 (wrap64 (x6 + 1)))
def laws_FnContacts.j3 : Nat → List S41 → List S37 → Int → Int → Int → Bool → Int → Int → Int → Option (Bool)
  | 0, _, _, _, _, _, _, _, _, _ => none
  | k + 1, x3, x4, x5, x6, x7, g3, eB, eC, eD => if g3 = true then (laws_FnContacts.l1 k x3 x4 x5 x6 (wrap64 (x7 + 1))) else (if x5 ≥ (x4.length : Int) then (some false) else (if 0 ≤ x5 then (if x5 < (x4.length : Int) then (if (!(((rd_T37 x4 x5).f0) == x6) || (!(((rd_T37 x4 x5).f1) == x7) || (((!(((rd_T37 x4 x5).f2.f0.f0) == eB) || (!(((rd_T37 x4 x5).f2.f0.f1) == eC))) || (!(((rd_T37 x4 x5).f2.f1) == eD)))))) = true then (some false) else (laws_FnContacts.l1 k x3 x4 (wrap64 (x5 + 1)) x6 (wrap64 (x7 + 1)))) else none) else none))
end
def laws_FnContacts.f (k : Nat) (l0 : List Int) : Option (Bool) := if (l0.length : Int) > 1048576 then (some true) else ((spec_DrawContacts.f k l0).bind fun aT => ((impl_Contacts.f k aT).bind fun dS => ((spec_Contacts.f k aT).bind fun fC => ((laws_pqContacts.f k dS fC).bind fun fD => (if fD = true then ((spec_BodiesOk.f k aT).bind fun fE => (laws_FnContacts.j0 k aT dS (!fE))) else (laws_FnContacts.j0 k aT dS true))))))
def laws_FnContacts.T14 : TT := (true, [([], []), ([], []), ([0, 1], [0, 1]), ([2], [2]), ([3], [3]), ([], []), ([], []), ([5, 6], [5, 6]), ([7], [7]), ([8], [8]), ([], []), ([], []), ([10, 11], [10, 11]), ([12], [12]), ([13], [13]), ([], []), ([], []), ([15, 16], [15, 16]), ([17], [17]), ([18], [18]), ([4, 9, 14, 19], [4, 9, 14, 19]), ([20], [20]), ([21], [21]), ([21], [21]), ([], []), ([24, 22, 20, 0, 1, 2, 3, 4, 5, 6, 7, 8, 9, 10, 11, 12, 13, 14, 15, 16, 17, 18, 19, 20, 21, 22, 24], [22, 24]), ([23, 25, 0, 1, 2, 3, 4, 5, 6, 7, 8, 9, 10, 11, 12, 13, 14, 15, 16, 17, 18, 19, 20, 21, 22, 23, 24, 25], [23])])
def laws_FnContacts.B14 : List Nat := [0, 0, 3, 7, 15, 0, 0, 96, 224, 480, 0, 0, 3072, 7168, 15360, 0, 0, 98304, 229376, 491520, 1048575, 2097151, 4194303, 4194303, 0, 25165823, 67108863]
theorem laws_FnContacts.tab14 : rtab .any (opsOf Try.f11 14) = laws_FnContacts.T14 := by kernel_rfl
theorem laws_FnContacts.bits14 : waitsOk laws_FnContacts.T14.2 laws_FnContacts.B14 = true := by kernel_rfl
def laws_FnContacts.T16 : TT := (true, [([], []), ([], []), ([1], [1]), ([0, 2], [0, 2]), ([3], [3]), ([4], [4]), ([4], [4]), ([5, 6, 4], [4, 5, 6]), ([7, 4], [4, 7]), ([4], [4]), ([4], [4]), ([4], [4]), ([9, 10, 11, 4], [4, 9, 10, 11]), ([8, 12, 4], [4, 8, 12]), ([4, 13], [4, 13])])
def laws_FnContacts.B16 : List Nat := [0, 0, 2, 7, 15, 31, 31, 127, 255, 31, 31, 31, 3615, 8191, 16383]
theorem laws_FnContacts.tab16 : rtab .any (opsOf Try.f11 16) = laws_FnContacts.T16 := by kernel_rfl
theorem laws_FnContacts.bits16 : waitsOk laws_FnContacts.T16.2 laws_FnContacts.B16 = true := by kernel_rfl
theorem laws_FnContacts.calls {k : Nat} {A0 : Option Addr} {c0 : Nat} {l0 : List Int} {r : Bool} {w : World} (hr0 : Kd.C (Kd.int .u8) w A0 l0.length l0) (hc0 : l0.length ≤ c0) (h : laws_FnContacts.f k l0 = some r) :
  Calls Try.prog 11 #[.slice A0 l0.length c0] w fun e w' => e = .returned (.bool r) ∧ Below w.heap.size w w' := by
 have hu39 := Try.underlying39; have hu33 := Try.underlying33; have hu35 := Try.underlying35; have hu37 := Try.underlying37; have HR0 := az hr0; have g4 := az hc0; clear hr0 hc0; have HB := br w
 unfold laws_FnContacts.f at h
 have H := h; clear h; by_cases aH : (l0.length : Int) > 1048576; rw [if_pos aH] at H; have aN : decide (1048576 < (l0.length : Int)) = true := decide_eq_true aH; have aO : decide (1048576 < l0.length) = true := decide_eq_true (by omega); clear aH; obtain rfl := Option.some.inj H; refine ?L1; rotate_left; rw [if_neg aH] at H; have aN : decide (1048576 < (l0.length : Int)) = false := decide_eq_false aH; have aO : decide (1048576 < l0.length) = false := decide_eq_false (by omega); clear aH; replace H := qH H; obtain ⟨a1, fG, H⟩ := H
 replace H := qH H; obtain ⟨a6, fH, H⟩ := H
 refine ?L17
 rotate_right
 case L1 =>
  go_enter Try.func11, Try.ntmps11; go_wp2
  go_ret
  exact ⟨qE, qL HB⟩
 case L17 =>
  have eP := az H; clear H; go_enter Try.func11, Try.ntmps11
  go_upto_region 5 with (first | ((with_reducible refine gc 46 rfl ?_); refine gx 14 Try.func46 (spec_DrawContacts.calls (qC HR0.out) g4.out fG.out) ?_; rintro gB w6 ⟨aJ, hb⟩; have aA := lo aJ HB; replace HB := bS HB hb; clear hb; obtain ⟨eQ, eA, g5⟩ := Kd.R_slice aA.out; subst g5) | ((with_reducible refine gc 18 rfl ?_); refine gx 16 Try.func18 (impl_Contacts.calls (qC (rr aA)) ((rc aA)) fH.out) ?_; rintro aU w8 ⟨aJ, hb⟩; have aC := lo aJ HB; replace aA := rb aA hb; replace HB := bS HB hb; clear hb))
  (try simp only [Act.put, List.setIfInBounds_toArray, List.set_cons_zero, List.set_cons_succ])
  go_cut [26] (fun g6 wc => ∃ (kq : Nat) (bD : Bool), g6 = .bool bD ∧ Aside0 (laws_FnContacts.j0 kq a1 a6 bD = some r) ∧ Aside0 (kq ≤ k) ∧ Aside0 (Kd.R k41 41 wc w.heap.size (fun _ => True) (.slice eQ a1.length eA) a1) ∧ Aside0 (Kd.R k37 37 wc w.heap.size (fun _ => True) aU a6) ∧ Aside0 (Below w.heap.size w wc))
  case first =>
   have H := eP.out; clear eP; replace H := qH H; obtain ⟨fI, dT, H⟩ := H
   replace H := qH H; obtain ⟨eF, bE, H⟩ := H
   by_cases bF : eF = true; subst bF; replace H := qT H; replace H := qH H; obtain ⟨fJ, fK, H⟩ := H
   have H' := az H; clear H; refine ?L2; rotate_left; replace bF := Bool.eq_false_iff.mpr bF; subst bF; replace H := qU H; have H' := az H; clear H; refine ?L3
   rotate_right
   case' L2 | L3 =>
    go_wp2_with (first | ((with_reducible refine gc 29 rfl ?_); refine gx 19 Try.func29 (spec_Contacts.calls (qC (rr aA)) ((rc aA)) dT.out) ?_; rintro gC gY ⟨aJ, hb⟩; have aI := lo (rn aJ aC) HB; replace aA := rb aA hb; replace aC := re aC aJ hb; replace HB := bS HB hb; clear hb; obtain ⟨gI, gJ, fT⟩ := Kd.R_slice aC.out; subst fT; obtain ⟨gL, gM, fU⟩ := Kd.R_slice aI.out; subst fU) | ((with_reducible refine gc 47 rfl ?_); refine gr 20 Try.func47 (laws_pqContacts.calls (r := true) (qC (rr aC)) ((rc aC)) (qC (rr aI)) ((rc aI)) bE.out) ?_; rintro w' ⟨nd, rfl⟩) | (go_at_call 17; (with_reducible refine (spec_BodiesOk.calls (qC (rr aA)) ((rc aA)) fK.out).mono ?_); rintro e gZ ⟨rfl, hb⟩; replace aA := rb aA hb; replace aC := rb aC hb; replace aI := rb aI hb; replace HB := bS HB hb; clear hb) | ((with_reducible refine gc 47 rfl ?_); refine gr 20 Try.func47 (laws_pqContacts.calls (r := false) (qC (rr aC)) ((rc aC)) (qC (rr aI)) ((rc aI)) bE.out) ?_; rintro w' ⟨nd, rfl⟩))
    go_meet
   case L2 =>
    exact ⟨_, (!fJ), qG, H', ⟨qO⟩, ⟨qR aA⟩, ⟨by (with_reducible repeat (first | apply Kd.R_alloc | apply Kd.R_drewN | apply Kd.R_drew)); exact Kd.R_mono aC.out (fun _ hk => trivial)⟩, ⟨qL HB⟩⟩
   case L3 =>
    exact ⟨_, (true), qG, H', ⟨qO⟩, ⟨qR aA⟩, ⟨by (with_reducible repeat (first | apply Kd.R_alloc | apply Kd.R_drewN | apply Kd.R_drew)); exact Kd.R_mono aC.out (fun _ hk => trivial)⟩, ⟨qL HB⟩⟩
  case rest =>
   clear eP; obtain ⟨kq, bD, rfl, HA, aV, a5, a7, HB⟩ := hcut
   obtain ⟨fS, rfl⟩ := qz kq HA
   have H := HA.out; clear HA; simp only [laws_FnContacts.j0] at H; by_cases aP : bD = true; subst aP; replace H := qT H; replace H := qH H; obtain ⟨fI, dT, H⟩ := H
   replace H := qH H; obtain ⟨eF, bE, H⟩ := H
   obtain rfl := Option.some.inj H; refine ?L4; rotate_left; replace aP := Bool.eq_false_iff.mpr aP; subst aP; replace H := qU H; have H' := az H; clear H; refine ?L16
   rotate_right
   case L4 =>
    go_wp2_with (first | ((with_reducible refine gc 29 rfl ?_); refine gx 29 Try.func29 (spec_Contacts.calls (qC (rr a5)) ((rc a5)) dT.out) ?_; rintro gD hA ⟨aJ, hb⟩; have bJ := lo (rn aJ a7) HB; replace a5 := rb a5 hb; replace a7 := re a7 aJ hb; replace HB := bS HB hb; clear hb; obtain ⟨gN, gO, fV⟩ := Kd.R_slice a7.out; subst fV; obtain ⟨gP, gQ, fW⟩ := Kd.R_slice bJ.out; subst fW) | ((with_reducible refine gc 47 rfl ?_); refine gr 30 Try.func47 (laws_pqContacts.calls (qC (rr a7)) ((rc a7)) (qC (rr bJ)) ((rc bJ)) bE.out) ?_; rintro w' ⟨nd, rfl⟩))
    go_ret
    exact ⟨qE, qL HB⟩
   case L16 =>
    go_wp2
    go_loopg [5, 6] fS (fun kq v5 v6 w' => ∃ (dU : Int) (a2 : Int), v5 = .int .i64 dU ∧ v6 = .int .i64 a2 ∧ Aside0 (laws_FnContacts.l0 kq a1 a6 dU a2 = some r) ∧ Aside0 (kq ≤ fS) ∧ Aside0 (Kd.R k41 41 w' w.heap.size (fun _ => True) (.slice eQ a1.length eA) a1) ∧ Aside0 (Kd.R k37 37 w' w.heap.size (fun _ => True) aU a6) ∧ Aside0 (Below w.heap.size w w'))
    case atStart => exact ⟨(0), (0), qG, qG, H', ⟨Nat.le_refl _⟩, ⟨qR a5⟩, ⟨qR a7⟩, ⟨qL HB⟩⟩
    case round =>
     clear H'; obtain ⟨dU, a2, rfl, rfl, HA, aW, a5, a7, HB⟩ := hrel
     obtain ⟨k2, rfl⟩ := qz gk HA
     have H := HA.out; clear HA; simp only [laws_FnContacts.l0] at H; replace H := qc H; obtain ⟨b0, H⟩ | ⟨b0, H⟩ := H; have H' := az H; clear H; refine ?L14; rotate_left; obtain rfl := Option.some.inj H; refine ?L15
     rotate_right
     case L14 =>
      go_wp2
      go_loopg [5, 7] k2 (fun kq v5 v7 w' => ∃ (a8 : Int) (a3 : Int), v5 = .int .i64 a8 ∧ v7 = .int .i64 a3 ∧ Aside0 (laws_FnContacts.l1 kq a1 a6 a8 a2 a3 = some r) ∧ Aside0 (kq ≤ k2) ∧ Aside0 (Kd.R k41 41 w' w.heap.size (fun _ => True) (.slice eQ a1.length eA) a1) ∧ Aside0 (Kd.R k37 37 w' w.heap.size (fun _ => True) aU a6) ∧ Aside0 (Below w.heap.size w w'))
      case atStart => exact ⟨(dU), (wrap64 (a2 + 1)), qG, qG, H', ⟨Nat.le_refl _⟩, ⟨qR a5⟩, ⟨qR a7⟩, ⟨qL HB⟩⟩
      case round =>
       clear H'; obtain ⟨a8, a3, rfl, rfl, HA, aX, a5, a7, HB⟩ := hrel
       obtain ⟨k3, rfl⟩ := qz gk HA
       have H := HA.out; clear HA; simp only [laws_FnContacts.l1] at H; replace H := qc H; obtain ⟨eL, H⟩ | ⟨eL, H⟩ := H; replace H := qd H; obtain ⟨fY, H⟩ := H; replace H := qd H; obtain ⟨b0, H⟩ := H; replace H := qd H; obtain ⟨fZ, H⟩ := H; replace H := qH H; obtain ⟨⟨aD, aE, aF, bG⟩, eI, H⟩ := H
       try dsimp only at H
       refine ?L12; rotate_left; have H' := az H; clear H; refine ?L13
       rotate_right
       case L12 =>
        have eE := az H; clear H
        try go_wp2
        replace a5 := rw_d a5; replace a7 := rw_d a7; replace HB := ed HB; obtain ⟨dV, dW, a9, fL, bK, bL, bM, bN, bO, bP, bQ, bR, bT, bU, b1, b2⟩ := ay41 (rr a5) a2; cases fL; obtain ⟨dX, dY, eR, fM, bV, bW, bX, bY, bZ, c1, c2, c3, c4, c5, b3, b4⟩ := ay41 (rr a5) a2; obtain rfl : a9 = eR := (by injection fM); obtain ⟨dZ, e0, eS, fN, c6, c7, c8, c9, cA, cB, cC, cD, cE, cF, b5, b6⟩ := ay41 (rr a5) a3; obtain rfl : a9 = eS := (by injection fN); obtain ⟨e1, e2, eT, fO, cG, cH, cJ, cK, cL, cM, cN, cO, cP, cQ, b7, b8⟩ := ay41 (rr a5) a3; obtain rfl : a9 = eT := (by injection fO); refine sa 27 (fun w' => ca (a9.add ((a2).toNat * 12)) (v41 (rd_T41 a1 a2)) w' ∧ ca (a9.add ((a2).toNat * 12)) (v41 (rd_T41 a1 a2)) w' ∧ ca (a9.add ((a3).toNat * 12)) (v41 (rd_T41 a1 a3)) w' ∧ ca (a9.add ((a3).toNat * 12)) (v41 (rd_T41 a1 a3)) w') [] ⟨⟨bK, bL, bM, bN, bO, bP, bQ, bR, bT, bU, b1, b2, trivial⟩, ⟨bV, bW, bX, bY, bZ, c1, c2, c3, c4, c5, b3, b4, trivial⟩, ⟨c6, c7, c8, c9, cA, cB, cC, cD, cE, cF, b5, b6, trivial⟩, ⟨cG, cH, cJ, cK, cL, cM, cN, cO, cP, cQ, b7, b8, trivial⟩⟩ fun Z => ?_; refine with_tabW laws_FnContacts.tab14 laws_FnContacts.bits14 fun T Y => ?_
        generalize wr.drew = hD at a5 a7 HB bK bL b1 b2 bM bN bO bP bQ bR bT bU bV bW b3 b4 bX bY bZ c1 c2 c3 c4 c5 c6 c7 b5 b6 c8 c9 cA cB cC cD cE cF cG cH b7 b8 cJ cK cL cM cN cO cP cQ Z ⊢; refine pz 0 46 T ?_; refine pz 1 47 T ?_; refine pz 2 48 T ?_; refine pz 3 49 T ?_; refine pz 5 51 T ?_; refine pz 6 52 T ?_; refine pz 7 53 T ?_; refine pz 8 54 T ?_; refine pz 10 56 T ?_; refine pz 11 57 T ?_; refine pz 12 58 T ?_; refine pz 13 59 T ?_; refine pz 15 61 T ?_; refine pz 16 62 T ?_; refine pz 17 63 T ?_; refine pz 18 64 T ?_; refine tz 4 50 T Y Z ?_; refine tz 9 55 T Y Z ?_; refine tz 14 60 T Y Z ?_; refine tz 19 65 T Y Z ?_; refine join_ (σ := Nat) 2 (fl 27 33554431) (fun s_ => [(66, .tuple #[.agg #[.int .i64 aD, .int .i64 aE, .int .i64 aF], .bool bG]), (8, .pointer (some ⟨s_, 0, none⟩)), (45, .tuple #[.agg #[.int .i64 aD, .int .i64 aE, .int .i64 aF], .bool bG]), (67, .agg #[.int .i64 aD, .int .i64 aE, .int .i64 aF]), (68, .bool bG)]) (fun s_ w' => (ca (a9.add ((a2).toNat * 12)) (v41 (rd_T41 a1 a2)) w' ∧ ca (a9.add ((a2).toNat * 12)) (v41 (rd_T41 a1 a2)) w' ∧ ca (a9.add ((a3).toNat * 12)) (v41 (rd_T41 a1 a3)) w' ∧ ca (a9.add ((a3).toNat * 12)) (v41 (rd_T41 a1 a3)) w') ∧ (Kd.R k41 41 w' w.heap.size (fun _ => True) (.slice (some a9) a1.length eA) a1) ∧ (Kd.R k37 37 w' w.heap.size (fun _ => True) aU a6) ∧ (w'.heap[s_]? = some (.cells #[.int .i64 0, .int .i64 0, .int .i64 0] 35 (0, 0))) ∧ (w.heap.size ≤ s_) ∧ (w.heap.size ≤ s_) ∧ (Below w.heap.size w w')) ?_ ?_
        rotate_left
        ·intro hCont; refine tt 27 20 24 66 8 2097151 17825791 T (fun K hK => ?_) fun K hK => ?_
         ·skip; refine ky Try.func48 (impl_Touch.calls eI.out) ?_; rintro g7 hb; have HSg0_ := caB hb Z.1; have HSg1_ := caB hb Z.2.1; have HSg2_ := caB hb Z.2.2.1; have HSg3_ := caB hb Z.2.2.2; replace a5 := rb a5 hb; replace a7 := rb a7 hb; replace HB := bS HB hb; clear hb; refine hz hK ⟨HSg0_, HSg1_, HSg2_, HSg3_⟩ fun Z => ?_; clear hK K; refine nn 66 ?_; refine pz 21 45 T ?_; refine pz 22 67 T ?_; refine pz 23 68 T ?_; refine oo 27 24 8 33554431 T fun K hK => ?_; refine bw 8 #[.int .i64 0, .int .i64 0, .int .i64 0] 35 ?_; intro aB hg g8 a4 hb; have HSg0_ := caB hb Z.1; have HSg1_ := caB hb Z.2.1; have HSg2_ := caB hb Z.2.2.1; have HSg3_ := caB hb Z.2.2.2; have aK := se hg HB; have aY := aK; replace a5 := rb a5 hb; replace a7 := rb a7 hb; replace HB := bS HB hb; clear hb hg; refine hz hK ⟨HSg0_, HSg1_, HSg2_, HSg3_⟩ fun Z => ?_; clear hK K; refine nn 8 ?_; exact nrm (hCont (aB) _ ⟨Z, (qR a5), (qR a7), (qB a4), aK.out, aY.out, (qL HB)⟩)
         skip; refine bw 8 #[.int .i64 0, .int .i64 0, .int .i64 0] 35 ?_; intro aB hg g7 a4 hb; have HSg0_ := caB hb Z.1; have HSg1_ := caB hb Z.2.1; have HSg2_ := caB hb Z.2.2.1; have HSg3_ := caB hb Z.2.2.2; have aK := se hg HB; have aY := aK; replace a5 := rb a5 hb; replace a7 := rb a7 hb; replace HB := bS HB hb; clear hb hg; refine hz hK ⟨HSg0_, HSg1_, HSg2_, HSg3_⟩ fun Z => ?_; clear hK K; refine nn 8 ?_; refine oo 27 20 66 18874367 T fun K hK => ?_; refine ky Try.func48 (impl_Touch.calls eI.out) ?_; rintro g8 hb; have HSg0_ := caB hb Z.1; have HSg1_ := caB hb Z.2.1; have HSg2_ := caB hb Z.2.2.1; have HSg3_ := caB hb Z.2.2.2; replace a5 := rb a5 hb; replace a7 := rb a7 hb; replace a4 := kBB a4 hb; replace HB := bS HB hb; clear hb; refine hz hK ⟨HSg0_, HSg1_, HSg2_, HSg3_⟩ fun Z => ?_; clear hK K; refine nn 66 ?_; refine pz 21 45 T ?_; refine pz 22 67 T ?_; refine pu 23 (some 68) (fl 27 33554431) T ?_; exact nrm (hCont (aB) _ ⟨Z, (qR a5), (qR a7), (qB a4), aK.out, aY.out, (qL HB)⟩)
        rintro aB eU ⟨hS_, h0_, h1_, h2_, h3_, h4_, h5_⟩; have a4 := az h2_; have aK := az h3_; have aY := az h4_; replace a5 := az h0_; replace a7 := az h1_; replace HB := az h5_; clear h0_ h1_ h2_ h3_ h4_ h5_; have Z := hS_; refine nmp ?_; refine op 27 25 67108863 T fun K hK => ?_; have gR : eU.cell? ⟨aB, 0, none⟩ = some (.int .i64 0) := bc a4 0; have gF := blk_frozen a4.out 0; have gS : eU.cell? ⟨aB, 1, none⟩ = some (.int .i64 0) := bc a4 1; have gG := blk_frozen a4.out 1; have gT : eU.cell? ⟨aB, 2, none⟩ = some (.int .i64 0) := bc a4 2; have gH := blk_frozen a4.out 2; refine sq ?_ ?_ ?_; rotate_left
        ·go_simp
         rfl
        refine hz hK ⟨(cao (Kd.R_ne a5.out a4.out (by decide)) (cao (Kd.R_ne a5.out a4.out (by decide)) (cao (Kd.R_ne a5.out a4.out (by decide)) Z.1))), (cao (Kd.R_ne a5.out a4.out (by decide)) (cao (Kd.R_ne a5.out a4.out (by decide)) (cao (Kd.R_ne a5.out a4.out (by decide)) Z.2.1))), (cao (Kd.R_ne a5.out a4.out (by decide)) (cao (Kd.R_ne a5.out a4.out (by decide)) (cao (Kd.R_ne a5.out a4.out (by decide)) Z.2.2.1))), (cao (Kd.R_ne a5.out a4.out (by decide)) (cao (Kd.R_ne a5.out a4.out (by decide)) (cao (Kd.R_ne a5.out a4.out (by decide)) Z.2.2.2)))⟩ fun Z => ?_; clear hK K; refine pz 26 9 T ?_; refine dn T ?_
        go_upto_region 15 with (fail)
        go_cut [86] (fun g9 wc => ∃ (kq : Nat) (aZ : Bool), g9 = .bool aZ ∧ Aside0 (laws_FnContacts.j3 kq a1 a6 a8 a2 a3 aZ aD aE aF = some r) ∧ Aside0 (kq ≤ k3) ∧ Aside0 (Kd.R k41 41 wc w.heap.size (fun _ => True) (.slice (some a9) a1.length eA) a1) ∧ Aside0 (Kd.R k37 37 wc w.heap.size (fun _ => True) aU a6) ∧ Aside0 (wc.heap[aB]? = some (.cells #[.int .i64 aD, .int .i64 aE, .int .i64 aF] 35 (0, 0))) ∧ Aside0 (Below w.heap.size w wc))
        case first =>
         have H := eE.out; clear eE; by_cases bH : bG = true; subst bH; replace H := qT H; by_cases aM : ((rd_T41 a1 a2).f4) = 0; rw [if_pos aM] at H; have aL : (((rd_T41 a1 a2).f4) == 0) = true := beq_iff_eq.mpr aM; have eM : (((rd_T41 a1 a2).f4) != 0) = false := bne_eq_false_iff_eq.mpr aM; clear aM; (first | rw [aL] | (simp only [i64_w, i32_w]; rw [aL]) | skip); have H' := az H; clear H; refine ?L5; rotate_left; rw [if_neg aM] at H; have aL : (((rd_T41 a1 a2).f4) == 0) = false := beq_eq_false_iff_ne.mpr aM; have eM : (((rd_T41 a1 a2).f4) != 0) = true := bne_iff_ne.mpr aM; (first | rw [aL] | (simp only [i64_w, i32_w]; rw [aL]) | skip); have H' := az H; clear H; refine ?L6
         rotate_right
         rotate_left 2
         replace bH := Bool.eq_false_iff.mpr bH; subst bH; replace H := qU H; have H' := az H; clear H; refine ?L7
         rotate_right 2
         case' L5 | L6 =>
          obtain ⟨e3, e4, eV, fP, cR, cS, cT, cU, cV, cW, cX, cY, cZ, dA, b9, bA⟩ := ay41 (rr a5) a2; obtain rfl : a9 = eV := (by injection fP); have dB : a9.block ≠ aB := Kd.own_blk (Kd.R_ne a5.out a4.out (by decide)); obtain ⟨cR, cS, cT, cU, cV, cW, cX, cY, cZ, dA, b9, bA⟩ := ff3x12 aB (.int .i64 aD) (.int .i64 aE) (.int .i64 aF) dB cR cS cT cU cV cW cX cY cZ dA b9 bA; clear dB
         case L5 =>
          obtain ⟨e5, e6, eW, fQ, dC, dD, dE, dF, dG, dH, dI, dJ, dK, dL, bB, bC⟩ := ay41 (rr a5) a3; obtain rfl : a9 = eW := (by injection fQ); have dM : a9.block ≠ aB := Kd.own_blk (Kd.R_ne a5.out a4.out (by decide)); obtain ⟨dC, dD, dE, dF, dG, dH, dI, dJ, dK, dL, bB, bC⟩ := ff3x12 aB (.int .i64 aD) (.int .i64 aE) (.int .i64 aF) dM dC dD dE dF dG dH dI dJ dK dL bB bC; clear dM; go_wp2
          go_meet
          exact ⟨_, ((((rd_T41 a1 a3).f4) == 0)), qG, H', ⟨mc aV aW aX⟩, ⟨qS a5 a4⟩, ⟨qS a7 a4⟩, ⟨qP a4⟩, ⟨qL HB⟩⟩
         case L6 =>
          go_wp2
          go_meet
          exact ⟨_, (false), qG, H', ⟨mc aV aW aX⟩, ⟨qS a5 a4⟩, ⟨qS a7 a4⟩, ⟨qP a4⟩, ⟨qL HB⟩⟩
         case L7 =>
          go_wp2
          go_meet
          exact ⟨_, (true), qG, H', ⟨mc aV aW aX⟩, ⟨qS a5 a4⟩, ⟨qS a7 a4⟩, ⟨qP a4⟩, ⟨qL HB⟩⟩
        case rest =>
         clear eE; obtain ⟨kq, aZ, rfl, HA, e7, a5, a7, a4, HB⟩ := hcut
         obtain ⟨eX, rfl⟩ := qz kq HA
         have H := HA.out; clear HA; simp only [laws_FnContacts.j3] at H; by_cases bI : aZ = true; subst bI; replace H := qT H; have H' := az H; clear H; refine ?L8; rotate_left; replace bI := Bool.eq_false_iff.mpr bI; subst bI; replace H := qU H; replace H := qc H; obtain ⟨eN, H⟩ | ⟨eN, H⟩ := H; obtain rfl := Option.some.inj H; refine ?L9; rotate_left; replace H := qd H; obtain ⟨g0, H⟩ := H; replace H := qd H; obtain ⟨g1, H⟩ := H; by_cases aS : (!(((rd_T37 a6 a8).f0) == a2) || (!(((rd_T37 a6 a8).f1) == a3) || (((!(((rd_T37 a6 a8).f2.f0.f0) == aD) || (!(((rd_T37 a6 a8).f2.f0.f1) == aE))) || (!(((rd_T37 a6 a8).f2.f1) == aF)))))) = true; rw [if_pos aS] at H; have eO : (!(((rd_T37 a6 a8).f0) == a2) || (!(((rd_T37 a6 a8).f1) == a3) || (((!(((rd_T37 a6 a8).f2.f0.f0) == aD) || (!(((rd_T37 a6 a8).f2.f0.f1) == aE))) || (!(((rd_T37 a6 a8).f2.f1) == aF)))))) = true := aS; clear aS; obtain rfl := Option.some.inj H; refine ?L10; rotate_left; rw [if_neg aS] at H
         have eO : (!(((rd_T37 a6 a8).f0) == a2) || (!(((rd_T37 a6 a8).f1) == a3) || (((!(((rd_T37 a6 a8).f2.f0.f0) == aD) || (!(((rd_T37 a6 a8).f2.f0.f1) == aE))) || (!(((rd_T37 a6 a8).f2.f1) == aF)))))) = false := by simpa using aS
         clear aS; have H' := az H; clear H; refine ?L11
         rotate_right 3
         case L8 =>
          go_wp2
          go_roundg eX
          case measure => exact md aV aW aX e7
          exact ⟨(a8), (wrap64 (a3 + 1)), qG, qG, H', ⟨md aV aW aX e7⟩, ⟨qR a5⟩, ⟨qR a7⟩, ⟨qL HB⟩⟩
         case' L9 | L10 | L11 =>
          try go_wp2
          replace a5 := rw_d a5; replace a7 := rw_d a7; replace a4 := bd a4; replace HB := ed HB; obtain ⟨gU, gV, eY⟩ := Kd.R_slice a7.out; (first | subst eY | (injection eY with f1_ f2_ f3_; have f4_ := f1_.symm; have f5_ := f3_.symm; clear f1_ f2_ f3_; subst f4_; subst f5_))
         case L9 =>
          refine sa 15 (fun w' => True) [] trivial fun Z => ?_; refine with_tabW laws_FnContacts.tab16 laws_FnContacts.bits16 fun T Y => ?_; generalize wc.drew = hE at a5 a7 a4 HB Z ⊢; refine pz 0 87 T ?_; refine pz 1 88 T ?_; refine pz 2 89 T ?_; refine pz 3 90 T ?_; refine pz 4 91 T ?_; refine py 5 92 T ?_; refine py 6 93 T ?_; refine py 7 94 T ?_; refine py 8 95 T ?_; refine py 9 96 T ?_; refine py 10 97 T ?_; refine py 11 98 T ?_; refine py 12 99 T ?_; refine py 13 100 T ?_; refine pz 14 101 T ?_; refine dn T ?_
          try go_wp2
          go_ret
          exact ⟨qE, qL HB⟩
         case' L10 | L11 =>
          obtain ⟨e8, e9, eZ, fR, dN, dO, dP, dQ, dR⟩ := ay37 (rr a7) a8; cases fR; refine sa 15 (fun w' => ci aB 0 [.int .i64 aD, .int .i64 aE, .int .i64 aF] w' ∧ ca (eZ.add ((a8).toNat * 5)) [.int .i64 ((rd_T37 a6 a8).f0), .int .i64 ((rd_T37 a6 a8).f1), .int .i64 ((rd_T37 a6 a8).f2.f0.f0), .int .i64 ((rd_T37 a6 a8).f2.f0.f1), .int .i64 ((rd_T37 a6 a8).f2.f1)] w') [] ⟨cI a4, ⟨dN, dO, dP, dQ, dR, trivial⟩⟩ fun Z => ?_; refine with_tabW laws_FnContacts.tab16 laws_FnContacts.bits16 fun T Y => ?_; generalize wc.drew = hF at a5 a7 a4 HB dN dO dP dQ dR Z ⊢; refine pz 0 87 T ?_; refine pz 1 88 T ?_; refine pz 2 89 T ?_; refine pz 3 90 T ?_; refine pz 4 91 T ?_; refine pz 5 92 T ?_; refine pz 6 93 T ?_; refine pz 7 94 T ?_; refine pz 9 96 T ?_; refine pz 10 97 T ?_; refine tz 8 95 T Y Z ?_; refine tz 11 98 T Y Z ?_; refine pz 12 99 T ?_; refine pz 13 100 T ?_; refine pz 14 101 T ?_; refine dn T ?_
          try go_wp2
         case L10 =>
          go_ret
          exact ⟨qE, qL HB⟩
         case L11 =>
          go_roundg eX
          case measure => exact md aV aW aX e7
          exact ⟨(wrap64 (a8 + 1)), (wrap64 (a3 + 1)), qG, qG, H', ⟨md aV aW aX e7⟩, ⟨qR a5⟩, ⟨qR a7⟩, ⟨qL HB⟩⟩
       case L13 =>
        go_wp2
        go_roundg k3
        case measure => exact mc aV aW aX
        exact ⟨(a8), (wrap64 (a2 + 1)), qG, qG, H', ⟨mc aV aW aX⟩, ⟨qR a5⟩, ⟨qR a7⟩, ⟨qL HB⟩⟩
     case L15 =>
      obtain ⟨gW, gX, fX⟩ := Kd.R_slice a7.out; subst fX; go_wp2
      go_ret
      exact ⟨qE, qL HB⟩

/-- THE ONE PURE STATEMENT of laws_FnContacts: yours. -/
def laws_FnContacts.Pure : Prop := ∀ (l0 : List Int), l0.length ≤ maxLen → l0.length * 1 ≤ 140737488351232 → (∀ x ∈ l0, (Lit.int .u8 x).wf = true) → ∃ k, laws_FnContacts.f k l0 = some true
theorem laws_FnContacts.walk (P : laws_FnContacts.Pure) (a0 : Option Addr) (len0 cap0 : Nat) (z0 : List Int) (w : World) (w0 : (a0 = none ∧ len0 = 0 ∧ cap0 = 0 ∧ z0 = []) ∨ ∃ x, a0 = some x ∧ len0 ≤ cap0 ∧ cap0 ≤ maxLen ∧ z0.length = cap0 ∧ (∀ i, i < z0.length → w.cell? (x.add i) = some (.int .u8 (z0.getD i 0))) ∧ ∀ n ∈ z0, (Lit.int .u8 n).wf = true) (y0 : len0 * 1 ≤ 140737488351232) :
  Calls Try.prog 11 #[.slice a0 len0 cap0] w fun e w' => e = .returned (.bool true) ∧ Below w.heap.size w w' := by
 obtain ⟨l0, rfl, hr0, hm0, gA, hc0⟩ := ReadsInt.ofRowC w0
 obtain ⟨k, h⟩ := P l0 hm0 y0 gA
 refine (laws_FnContacts.calls (k := k) (l0 := l0) (r := true) (w := w) (Kd.C_of_reads (d := (0 : Int)) (h1 := fun _ => rfl) hr0) hc0 h).mono ?_
 rintro e w' ⟨rfl, hd⟩
 exact ⟨rfl, hd⟩
end Go.Proofs.Ytdngjedhbnoaoaa.PBig
