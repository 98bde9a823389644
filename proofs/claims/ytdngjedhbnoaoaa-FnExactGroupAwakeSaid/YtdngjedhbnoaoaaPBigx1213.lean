/- What these functions compute, each walked once: spec_l6Sleeps, spec_l7Awake, spec_l6Drive, spec_ShapeOk, spec_l3Place, spec_BodyOk; for all arguments and worlds, under the conditions that each theorem names. -/
import Derived.Test.YtdngjedhbnoaoaaSq
import Derived.Test.YtdngjedhbnoaoaaPBigx1201
import Derived.Test.YtdngjedhbnoaoaaPBigx1209
namespace Go.Proofs.Ytdngjedhbnoaoaa.PBig
open Go.RowKit Go.Proofs.YtdngjedhbnoaoaaW.PrintWords Go.Proofs.YtdngjedhbnoaoaaW.PrintLast Go.Proofs.YtdngjedhbnoaoaaW.PrintMore
attribute [local go_sem] max2_int min2_int max_two min_two max_three min_three max_four min_four   -- for this text's walks alone
set_option linter.unusedVariables false
set_option linter.unusedSimpArgs false

/-! ### spec_l6Sleeps: function 81 -/
def spec_l6Sleeps.f (a2 : Int) (a3 : Int) (a4 : Int) (a5 : Int) (a6 : Int) (a7 : Int) (a8 : Int) (a9 : Int) (aA : Int) (aB : Int) (a1 : Int) (a0 : Int) : Option (Bool) := some (decide (a0 ≥ 8))
set_option maxHeartbeats 8000000 in
set_option maxRecDepth 100000 in
theorem spec_l6Sleeps.calls (a2 : Int) (a3 : Int) (a4 : Int) (a5 : Int) (a6 : Int) (a7 : Int) (a8 : Int) (a9 : Int) (aA : Int) (aB : Int) (a1 : Int) (a0 : Int) (r : Bool) (w : World) (h : spec_l6Sleeps.f a2 a3 a4 a5 a6 a7 a8 a9 aA aB a1 a0 = some r) :
    Calls Try.prog 81 #[.agg #[.int .i64 a2, .int .i64 a3, .int .i64 a4, .int .i64 a5, .int .i64 a6, .int .i64 a7, .int .i64 a8, .int .i64 a9, .int .i64 aA, .int .i64 aB, .int .i64 a1, .int .i64 a0]] w fun e w' => e = .returned (.bool r) ∧ Below w.heap.size w w' := by
  have hu41 := Try.underlying41; have HB := az (Below.refl w.heap.size w); have H : (some (decide (a0 ≥ 8))) = some r := h; clear h; obtain rfl := Option.some.inj H; go_enter Try.func81, Try.ntmps81; go_wp2_with (first | ((with_reducible refine gate_dst (N := 1) rfl ?_); refine bx (N := 1) (cs := #[.int .i64 a2, .int .i64 a3, .int .i64 a4, .int .i64 a5, .int .i64 a6, .int .i64 a7, .int .i64 a8, .int .i64 a9, .int .i64 aA, .int .i64 aB, .int .i64 a1, .int .i64 a0]) (t := 41) ?_; intro aD hg w2 hbox hb; have aC := az hbox; have aE := az ((gE hg (qL HB) : w.heap.size ≤ aD)); have b3 := aE; replace HB := bS HB hb; clear hb hbox hg; obtain ⟨aJ, aK, aL, aM, aN, aO, aP, aQ, aR, aS, aF, aG⟩ := cz12 aC.out; obtain ⟨aT, aU, aV, aW, aX, aY, aZ, b0, b1, b2, aH, aI⟩ := fz12 aC.out))
  go_ret
  exact ⟨qE, qL HB⟩

/-! ### spec_l7Awake: function 57 -/
def spec_l7Awake.l0 : Nat → List (S41) → List Int → List Bool → Int → Option (List Bool)
  | 0, _, _, _, _ => none
  | k + 1, x0, x1, x5, x6 => if x6 < (x0.length : Int) then (if 0 ≤ x6 then (if x6 < (x1.length : Int) then (if (rd x1 x6) = (x5.length : Int) then (if x5.length < 140737488355328 then ((some (x5 ++ [false] : List Bool)).bind fun bR => (if (rd x1 x6) ≥ 0 then (if 0 ≤ (rd x1 x6) then (if (rd x1 x6) < (bR.length : Int) then (if rdOf false bR (rd x1 x6) = true then (spec_l7Awake.l0 k x0 x1 (bR.set ((rd x1 x6) : Int).toNat true) (wrap64 (x6 + 1))) else ((spec_l6Sleeps.f ((rd_T41 x0 x6).f0) ((rd_T41 x0 x6).f1.f0) ((rd_T41 x0 x6).f1.f1) ((rd_T41 x0 x6).f1.f2) ((rd_T41 x0 x6).f2.f0) ((rd_T41 x0 x6).f2.f1) ((rd_T41 x0 x6).f3.f0) ((rd_T41 x0 x6).f3.f1) ((rd_T41 x0 x6).f4) ((rd_T41 x0 x6).f5) ((rd_T41 x0 x6).f6) ((rd_T41 x0 x6).f7)).bind fun bT => (spec_l7Awake.l0 k x0 x1 (bR.set ((rd x1 x6) : Int).toNat (!bT)) (wrap64 (x6 + 1))))) else (none)) else (none)) else (spec_l7Awake.l0 k x0 x1 bR (wrap64 (x6 + 1))))) else (none)) else (if (rd x1 x6) ≥ 0 then (if 0 ≤ (rd x1 x6) then (if (rd x1 x6) < (x5.length : Int) then (if rdOf false x5 (rd x1 x6) = true then (spec_l7Awake.l0 k x0 x1 (x5.set ((rd x1 x6) : Int).toNat true) (wrap64 (x6 + 1))) else ((spec_l6Sleeps.f ((rd_T41 x0 x6).f0) ((rd_T41 x0 x6).f1.f0) ((rd_T41 x0 x6).f1.f1) ((rd_T41 x0 x6).f1.f2) ((rd_T41 x0 x6).f2.f0) ((rd_T41 x0 x6).f2.f1) ((rd_T41 x0 x6).f3.f0) ((rd_T41 x0 x6).f3.f1) ((rd_T41 x0 x6).f4) ((rd_T41 x0 x6).f5) ((rd_T41 x0 x6).f6) ((rd_T41 x0 x6).f7)).bind fun cQ => (spec_l7Awake.l0 k x0 x1 (x5.set ((rd x1 x6) : Int).toNat (!cQ)) (wrap64 (x6 + 1))))) else (none)) else (none)) else (spec_l7Awake.l0 k x0 x1 x5 (wrap64 (x6 + 1))))) else (none)) else (none)) else (some x5)
def spec_l7Awake.f (k : Nat) (l0 : List (S41)) (l1 : List Int) : Option (List Bool) := spec_l7Awake.l0 k l0 l1 (([] : List Bool)) 0
theorem spec_l7Awake.mono_l : ∀ k, (∀ y0 y1 y2 y3, LeO (spec_l7Awake.l0 k y0 y1 y2 y3) (spec_l7Awake.l0 (k + 1) y0 y1 y2 y3))
  | 0 => fun _ _ _ _ r h => by simp [spec_l7Awake.l0] at h
  | k + 1 => by
    have ih0 := spec_l7Awake.mono_l k
    · intro y0 y1 y2 y3
      unfold spec_l7Awake.l0
      repeat' first
      | (with_reducible exact ih0 _ _ _ _)
      | (with_reducible exact LeO.refl _)
      | (with_reducible exact LeO.none _)
      | (with_reducible refine LeO.ite ?_ ?_)
      | (with_reducible refine LeO.bind ?_ (fun _ => ?_))
theorem spec_l7Awake.mono : ∀ a0 a1 k, LeO (spec_l7Awake.f k a0 a1) (spec_l7Awake.f (k + 1) a0 a1) := by
  intro a0 a1 k
  have ih0 := spec_l7Awake.mono_l k
  unfold spec_l7Awake.f
  repeat' first
      | (with_reducible exact ih0 _ _ _ _)
      | (with_reducible exact LeO.refl _)
      | (with_reducible exact LeO.none _)
      | (with_reducible refine LeO.ite ?_ ?_)
      | (with_reducible refine LeO.bind ?_ (fun _ => ?_))
def spec_l7Awake.T8 : Bool × List (List Nat × List Nat) := (true, [([], []), ([], []), ([], []), ([1, 2], [1, 2]), ([3], [3]), ([], []), ([], []), ([], []), ([6, 7], [6, 7]), ([8], [8]), ([5, 9], [5, 9]), ([10], [10]), ([11], [11]), ([12], [12]), ([12], [12]), ([13, 14, 12], [12, 13, 14]), ([15, 12], [12, 15]), ([16, 12, 12], [12, 16]), ([17, 12], [12, 17]), ([12, 18], [12, 18]), ([0, 4, 0, 1, 2, 3, 4, 5, 6, 7, 8, 9, 10, 11, 12, 13, 14, 15, 16, 17, 18, 19], [0, 4]), ([20, 19, 17, 0, 1, 2, 3, 4, 5, 6, 7, 8, 9, 10, 11, 12, 13, 14, 15, 16, 17, 18, 19], [19, 20])])
def spec_l7Awake.B8 : List Nat := [0, 0, 0, 6, 14, 0, 0, 0, 192, 448, 992, 2016, 4064, 8160, 8160, 32736, 65504, 131040, 262112, 524256, 1048575, 2097151]
theorem spec_l7Awake.tab8 : rtab .any (opsOf Try.f57 8) = spec_l7Awake.T8 := by kernel_rfl
theorem spec_l7Awake.bits8 : waitsOk spec_l7Awake.T8.2 spec_l7Awake.B8 = true := by kernel_rfl
set_option maxHeartbeats 8000000 in
set_option maxRecDepth 100000 in
theorem spec_l7Awake.calls (k : Nat) (A0 : Option Addr) (c0 : Nat) (l0 : List (S41)) (A1 : Option Addr) (c1 : Nat) (l1 : List Int) (r : List Bool) (w : World) (hr0 : Kd.C k41 w A0 l0.length l0) (hc0 : l0.length ≤ c0) (hr1 : Kd.C (Kd.int .i64) w A1 l1.length l1) (hc1 : l1.length ≤ c1) (h : spec_l7Awake.f k l0 l1 = some r) :
    Calls Try.prog 57 #[.slice A0 l0.length c0, .slice A1 l1.length c1] w fun e w' => ∃ eR : Value, e = .returned (eR) ∧ Kd.R Kd.bool 4 w' w.heap.size (fun _ => True) eR r ∧ Below w.heap.size w w' := by
  have hu41 := Try.underlying41; have HR0 := az hr0; have g4 := az hc0; clear hr0 hc0; have HR1 := az hr1; have g5 := az hc1; clear hr1 hc1; have HB := az (Below.refl w.heap.size w); have H : (spec_l7Awake.l0 k l0 l1 (([] : List Bool)) 0) = some r := h; clear h; obtain ⟨dY, bJ⟩ : ∃ y_ : List Bool, y_ = (([] : List Bool)) := ⟨_, rfl⟩
  replace H : (spec_l7Awake.l0 k l0 l1 dY 0) = some r := by first | (rw [bJ]; with_reducible exact H) | (have H2_ := (Option.bind_some _ _).symm.trans H; rw [bJ]; with_reducible exact H2_) | (have H2_ := (Option.bind_some _ _).symm.trans H; with_reducible exact H2_) | with_reducible exact H | (rw [bJ]; exact H) | exact H
  have dO := az bJ; clear bJ; have H' := az H; clear H; go_enter Try.func57, Try.ntmps57; go_wp2_with (first | ((with_reducible refine gate_dst (N := 7) rfl ?_); refine Kd.R_lit Kd.bool _ 4 ?hg (N := 7) ?hd (xs := ([] : List Bool)) (inner := []) (ok := fun _ => True) (okp := fun _ => True) ?hr ?hp (fun _ hk => hk) trivial (Below.refl _ _) (Nat.le_refl _) (by simp) ?_; (case hd => rfl); (case hg => rfl); (case hr => first | (go_simp; done) | (go_simp; rfl)); (case hp => exact (Reps.none _ _)); intro fU w3 cP hb hg_ hnew_; clear hg_ hnew_; (first | rw [← dO.out] at cP | (simp only [Int.reduceToNat] at cP; rw [← dO.out] at cP)); have eI := az (Kd.R_lower cP (below_size (qL HB))); replace HB := bS HB hb; clear hb cP))
  go_loopg [5, 6] k (fun kq v5 v6 w' => ∃ (a7 : List Bool) (a2 : Int), v6 = .int .i64 a2 ∧ Aside0 (spec_l7Awake.l0 kq l0 l1 a7 a2 = some r) ∧ Aside0 (kq ≤ k) ∧ Aside0 (Kd.R Kd.bool 4 w' w.heap.size (fun _ => True) v5 a7) ∧ Aside0 (Below w.heap.size w w'))
  case atStart => exact ⟨(dY), (0), qG, H', ⟨Nat.le_refl _⟩, ⟨qR eI⟩, ⟨qL HB⟩⟩
  case round =>
    clear H'; (try clear c1); obtain ⟨a7, a2, rfl, HA, aW, a9, HB⟩ := hrel
    cases gk with
    | zero => exact absurd HA.out (by simp [spec_l7Awake.l0])
    | succ k1 => ?_
    have H := HA.out; clear HA; simp only [spec_l7Awake.l0] at H; by_cases aY : a2 < (l0.length : Int); rw [if_pos aY] at H; have dU : decide (a2 < (l0.length : Int)) = true := decide_eq_true aY; clear aY; replace H := qif H; obtain ⟨dP, H⟩ := H; have fO : decide (0 ≤ a2) = true := decide_eq_true dP; clear dP; replace H := qif H; obtain ⟨dQ, H⟩ := H; have fP : decide (a2 < (l1.length : Int)) = true := decide_eq_true dQ; clear dQ; by_cases aN : (rd l1 a2) = (a7.length : Int); rw [if_pos aN] at H; have dV : ((rd l1 a2) == (a7.length : Int)) = true := beq_iff_eq.mpr aN; have dW : ((rd l1 a2) != (a7.length : Int)) = false := bne_eq_false_iff_eq.mpr aN; clear aN; replace H := qif H; obtain ⟨dR, H⟩ := H; have LMc7004 := az dR; clear dR; obtain ⟨a5, a6⟩ : ∃ y_ : List Bool, y_ = (a7 ++ [false]) := ⟨_, rfl⟩
    replace H : (if (rd l1 a2) ≥ 0 then (if 0 ≤ (rd l1 a2) then (if (rd l1 a2) < (a5.length : Int) then (if rdOf false a5 (rd l1 a2) = true then (spec_l7Awake.l0 k1 l0 l1 (a5.set ((rd l1 a2) : Int).toNat true) (wrap64 (a2 + 1))) else ((spec_l6Sleeps.f ((rd_T41 l0 a2).f0) ((rd_T41 l0 a2).f1.f0) ((rd_T41 l0 a2).f1.f1) ((rd_T41 l0 a2).f1.f2) ((rd_T41 l0 a2).f2.f0) ((rd_T41 l0 a2).f2.f1) ((rd_T41 l0 a2).f3.f0) ((rd_T41 l0 a2).f3.f1) ((rd_T41 l0 a2).f4) ((rd_T41 l0 a2).f5) ((rd_T41 l0 a2).f6) ((rd_T41 l0 a2).f7)).bind fun bT => (spec_l7Awake.l0 k1 l0 l1 (a5.set ((rd l1 a2) : Int).toNat (!bT)) (wrap64 (a2 + 1))))) else (none)) else (none)) else (spec_l7Awake.l0 k1 l0 l1 a5 (wrap64 (a2 + 1)))) = some r := by first | (rw [a6]; with_reducible exact H) | (have H2_ := (Option.bind_some _ _).symm.trans H; rw [a6]; with_reducible exact H2_) | (have H2_ := (Option.bind_some _ _).symm.trans H; with_reducible exact H2_) | with_reducible exact H | (rw [a6]; exact H) | exact H
    have aX := az a6; clear a6; by_cases aD : (rd l1 a2) ≥ 0; rw [if_pos aD] at H; have bM : decide (0 ≤ (rd l1 a2)) = true := decide_eq_true aD; clear aD; replace H := qif H; obtain ⟨bK, H⟩ := H; have dX : decide (0 ≤ (rd l1 a2)) = true := decide_eq_true bK; clear bK; replace H := qif H; obtain ⟨dS, H⟩ := H; have fQ : decide ((rd l1 a2) < (a5.length : Int)) = true := decide_eq_true dS; clear dS; obtain ⟨bq7201, hbq7201⟩ : ∃ b_ : Bool, b_ = (rdOf false a5 (rd l1 a2)) := ⟨_, rfl⟩
    replace H : (if bq7201 = true then (spec_l7Awake.l0 k1 l0 l1 (a5.set ((rd l1 a2) : Int).toNat true) (wrap64 (a2 + 1))) else ((spec_l6Sleeps.f ((rd_T41 l0 a2).f0) ((rd_T41 l0 a2).f1.f0) ((rd_T41 l0 a2).f1.f1) ((rd_T41 l0 a2).f1.f2) ((rd_T41 l0 a2).f2.f0) ((rd_T41 l0 a2).f2.f1) ((rd_T41 l0 a2).f3.f0) ((rd_T41 l0 a2).f3.f1) ((rd_T41 l0 a2).f4) ((rd_T41 l0 a2).f5) ((rd_T41 l0 a2).f6) ((rd_T41 l0 a2).f7)).bind fun bT => (spec_l7Awake.l0 k1 l0 l1 (a5.set ((rd l1 a2) : Int).toNat (!bT)) (wrap64 (a2 + 1))))) = some r := by rw [← hbq7201] at H; exact H
    have Nbq7201 := az hbq7201; clear hbq7201; by_cases aH : bq7201 = true; subst aH; replace H := qT H; obtain ⟨bL, aC⟩ : ∃ y_ : List Bool, y_ = (a5.set ((rd l1 a2) : Int).toNat true) := ⟨_, rfl⟩
    replace H : (spec_l7Awake.l0 k1 l0 l1 bL (wrap64 (a2 + 1))) = some r := by first | (rw [aC]; with_reducible exact H) | (have H2_ := (Option.bind_some _ _).symm.trans H; rw [aC]; with_reducible exact H2_) | (have H2_ := (Option.bind_some _ _).symm.trans H; with_reducible exact H2_) | with_reducible exact H | (rw [aC]; exact H) | exact H
    have bU := az aC; clear aC; have H' := az H; clear H; refine ?L1; rotate_left; replace aH := Bool.eq_false_iff.mpr aH; subst aH; replace H := qU H; replace H := qH H; obtain ⟨aQ, cO, H⟩ := H
    try dsimp only at H
    obtain ⟨bL, aC⟩ : ∃ y_ : List Bool, y_ = (a5.set ((rd l1 a2) : Int).toNat (!aQ)) := ⟨_, rfl⟩
    replace H : (spec_l7Awake.l0 k1 l0 l1 bL (wrap64 (a2 + 1))) = some r := by first | (rw [aC]; with_reducible exact H) | (have H2_ := (Option.bind_some _ _).symm.trans H; rw [aC]; with_reducible exact H2_) | (have H2_ := (Option.bind_some _ _).symm.trans H; with_reducible exact H2_) | with_reducible exact H | (rw [aC]; exact H) | exact H
    have bU := az aC; clear aC; have H' := az H; clear H; refine ?L2
    rotate_right
    rotate_left 2
    rw [if_neg aD] at H; have bM : decide (0 ≤ (rd l1 a2)) = false := decide_eq_false aD; clear aD; have H' := az H; clear H; refine ?L3
    rotate_right 2
    rotate_left 3
    rw [if_neg aN] at H; have dV : ((rd l1 a2) == (a7.length : Int)) = false := beq_eq_false_iff_ne.mpr aN; have dW : ((rd l1 a2) != (a7.length : Int)) = true := bne_iff_ne.mpr aN; by_cases aD : (rd l1 a2) ≥ 0; rw [if_pos aD] at H; have bM : decide (0 ≤ (rd l1 a2)) = true := decide_eq_true aD; clear aD; replace H := qif H; obtain ⟨bK, H⟩ := H; have dX : decide (0 ≤ (rd l1 a2)) = true := decide_eq_true bK; clear bK; replace H := qif H; obtain ⟨dT, H⟩ := H; have fR : decide ((rd l1 a2) < (a7.length : Int)) = true := decide_eq_true dT; clear dT; obtain ⟨bq7201, hbq7201⟩ : ∃ b_ : Bool, b_ = (rdOf false a7 (rd l1 a2)) := ⟨_, rfl⟩
    replace H : (if bq7201 = true then (spec_l7Awake.l0 k1 l0 l1 (a7.set ((rd l1 a2) : Int).toNat true) (wrap64 (a2 + 1))) else ((spec_l6Sleeps.f ((rd_T41 l0 a2).f0) ((rd_T41 l0 a2).f1.f0) ((rd_T41 l0 a2).f1.f1) ((rd_T41 l0 a2).f1.f2) ((rd_T41 l0 a2).f2.f0) ((rd_T41 l0 a2).f2.f1) ((rd_T41 l0 a2).f3.f0) ((rd_T41 l0 a2).f3.f1) ((rd_T41 l0 a2).f4) ((rd_T41 l0 a2).f5) ((rd_T41 l0 a2).f6) ((rd_T41 l0 a2).f7)).bind fun cQ => (spec_l7Awake.l0 k1 l0 l1 (a7.set ((rd l1 a2) : Int).toNat (!cQ)) (wrap64 (a2 + 1))))) = some r := by rw [← hbq7201] at H; exact H
    have Nbq7201 := az hbq7201; clear hbq7201; by_cases aH : bq7201 = true; subst aH; replace H := qT H; obtain ⟨a5, a6⟩ : ∃ y_ : List Bool, y_ = (a7.set ((rd l1 a2) : Int).toNat true) := ⟨_, rfl⟩
    replace H : (spec_l7Awake.l0 k1 l0 l1 a5 (wrap64 (a2 + 1))) = some r := by first | (rw [a6]; with_reducible exact H) | (have H2_ := (Option.bind_some _ _).symm.trans H; rw [a6]; with_reducible exact H2_) | (have H2_ := (Option.bind_some _ _).symm.trans H; with_reducible exact H2_) | with_reducible exact H | (rw [a6]; exact H) | exact H
    have aX := az a6; clear a6; have H' := az H; clear H; refine ?L4; rotate_left; replace aH := Bool.eq_false_iff.mpr aH; subst aH; replace H := qU H; replace H := qH H; obtain ⟨aQ, cO, H⟩ := H
    try dsimp only at H
    obtain ⟨a5, a6⟩ : ∃ y_ : List Bool, y_ = (a7.set ((rd l1 a2) : Int).toNat (!aQ)) := ⟨_, rfl⟩
    replace H : (spec_l7Awake.l0 k1 l0 l1 a5 (wrap64 (a2 + 1))) = some r := by first | (rw [a6]; with_reducible exact H) | (have H2_ := (Option.bind_some _ _).symm.trans H; rw [a6]; with_reducible exact H2_) | (have H2_ := (Option.bind_some _ _).symm.trans H; with_reducible exact H2_) | with_reducible exact H | (rw [a6]; exact H) | exact H
    have aX := az a6; clear a6; have H' := az H; clear H; refine ?L5
    rotate_right
    rotate_left 2
    rw [if_neg aD] at H; have bM : decide (0 ≤ (rd l1 a2)) = false := decide_eq_false aD; clear aD; have H' := az H; clear H; refine ?L6
    rotate_right 2
    rotate_right 3
    rotate_left 6
    rw [if_neg aY] at H; have dU : decide (a2 < (l0.length : Int)) = false := decide_eq_false aY; clear aY; obtain rfl := Option.some.inj H; refine ?L7
    rotate_right 6
    case' L1 | L2 | L3 | L4 | L5 | L6 =>
      have cR : 0 ≤ (a2 : Int) := qD; have cS : a2 < (l1.length : Int) := qD; obtain ⟨aA, eT, bZ⟩ := Kd.at_int HR1.out a2 cR cS; cases eT; replace bZ := hB HB bZ; replace cR := eq_true cR; replace cS := eq_true cS; obtain ⟨eU, eV, eW⟩ := Kd.R_slice a9.out; subst eW
    case' L1 | L2 | L3 =>
      try go_wp2_with (first | ((with_reducible refine gate_builtin (b := .append) (xs := #[.tmp 21, .tmp 22]) rfl ?_); at_builtin; refine Kd.R_append Kd.bool (w0 := w) w.heap.size rfl (.tmp 21) (.tmp 22) 31 4 (.bool false) 1 rfl Try.underlying31 info4 rfl (by decide) (by omega) (.slice eU a7.length eV) a7 false [.bool false] (fun _ => True) (fun _ => False) rfl rfl ?aP (fun _ hk => hk.elim) ?aF ?aO ?aB ?aS ?aL ?_; (case aP => exact rfl); (case aB => exact (qL HB)); (case aF => exact (fun _ _ => trivial)); (case aO => exact (qR a9)); (case aS => exact (below_size (qL HB))); (case aL => have := LMc7004.out; omega); intro fV eS ho hb hg hat; rw [← aX.out] at ho; have a8 := az (ho); replace HB := az hb; clear a9 ho hb hg hat; have cT : 0 ≤ (a2 : Int) := qD; have cU : a2 < (l1.length : Int) := qD; obtain ⟨eJ, eX, c2⟩ := Kd.at_int HR1.out a2 cT cU; obtain rfl : aA = eJ := (by injection eX); replace c2 := hB HB c2; replace cT := eq_true cT; replace cU := eq_true cU))
    case' L1 | L2 =>
      replace a8 := az (Kd.R_drew a8.out); replace HB := az (below_drew1 HB.out); have cV : 0 ≤ (a2 : Int) := qD; have cW : a2 < (l1.length : Int) := qD; obtain ⟨eK, eY, aI⟩ := Kd.at_int HR1.out a2 cV cW; have bN := aI; obtain rfl : aA = eK := (by injection eY); replace aI := hB HB aI; replace cV := eq_true cV; replace cW := eq_true cW; have cX : 0 ≤ (a2 : Int) := qD; have cY : a2 < (l1.length : Int) := qD; obtain ⟨eL, eZ, aJ⟩ := Kd.at_int HR1.out a2 cX cY; have bO := aJ; obtain rfl : aA = eL := (by injection eZ); replace aJ := hB HB aJ; replace cX := eq_true cX; replace cY := eq_true cY; obtain ⟨fW, fX, dZ⟩ := Kd.R_slice a8.out; (first | subst dZ | (injection dZ with f1_ f2_ f3_; have f4_ := f1_.symm; have f5_ := f3_.symm; clear f1_ f2_ f3_; subst f4_; subst f5_)); have cZ : 0 ≤ ((rd l1 a2) : Int) := qD; have dA : (rd l1 a2) < (a5.length : Int) := qD; obtain ⟨eM, fA, aE⟩ := Kd.at_bool (Kd.R_reads' a8.out).2.2 (rd l1 a2) cZ dA; (try rw [← Nbq7201.out] at aE); cases fA; replace cZ := eq_true cZ; replace dA := eq_true dA
    case L1 =>
      have e0 : 0 ≤ ((rd l1 a2) : Int) := qD; have e1 : ((rd l1 a2) : Int) < ((a5.length : Int) : Int) := qD; obtain ⟨fB, fY, e2, e3, fC, cl15, HG15⟩ := Kd.R_form a8.out (by omega); (first | cases e2 | (injection e2 with ea_ en_ ec_; (first | subst ea_ | (injection ea_ with ea_; subst ea_)); subst ec_; clear en_)); have GB15 := az e3; have GG15 := az HG15; clear e3 fC HG15; (first | simp only [add_plain] at aE | skip); obtain ⟨e4, hf15_0⟩ := Kd.R_celln false a8.out ((rd l1 a2) : Int) e0 e1; replace e0 := eq_true e0; replace e1 := eq_true e1; have HP20 := Kd.R_putn a8.out ((rd l1 a2) : Int) true; rw [← bU.out] at HP20; have HQ20 := az HP20; clear HP20; refine start_ (n := 22) (S := fun w' => w'.cell? (aA.add (a2).toNat) = some (.int .i64 (rd l1 a2)) ∧ w'.cell? (aA.add (a2).toNat) = some (.int .i64 (rd l1 a2)) ∧ w'.cell? ⟨fB, ((rd l1 a2)).toNat, none⟩ = some (.bool true)) (ds := [21]) #[false, false, false, false, false, false, false, false, false, false, false, false, false, false, false, false, false, false, false, false, false, false] (by kernel_rfl) rfl rfl ⟨(hB HB bN), (hB HB bO), aE⟩ (fun hHeld => ?_); refine with_tabW spec_l7Awake.tab8 spec_l7Awake.bits8 (fun HT_ HW_ => ?_); generalize eS.drew = g6 at a8 HB GG15 HQ20 hf15_0 e4 aI aJ aE hHeld ⊢; refine pu 0 (some 29) (fl 22 1) HT_ ?_; refine pu 1 (some 30) (fl 22 3) HT_ ?_; refine pu 2 (some 31) (fl 22 7) HT_ ?_; refine pu 3 (some 32) (fl 22 15) HT_ ?_; refine pu 5 (some 34) (fl 22 47) HT_ ?_; refine pu 6 (some 35) (fl 22 111) HT_ ?_; refine pu 7 (some 36) (fl 22 239) HT_ ?_; refine pu 8 (some 37) (fl 22 495) HT_ ?_; refine tk3 4 (some 33) (fl 22 511) HT_ HW_ hHeld ?_; refine tk3 9 (some 38) (fl 22 1023) HT_ HW_ hHeld ?_; refine pu 10 (some 39) (fl 22 2047) HT_ ?_; refine tk3 11 (some 40) (fl 22 4095) HT_ HW_ hHeld ?_; refine pu 12 (some 41) (fl 22 8191) HT_ ?_; refine pv 13 (some 42) (fl 22 16383) HT_ ?_; refine pv 14 (some 43) (fl 22 32767) HT_ ?_; refine pv 15 (some 44) (fl 22 65535) HT_ ?_; refine pv 16 (some 45) (fl 22 131071) HT_ ?_; refine pv 17 (some 46) (fl 22 262143) HT_ ?_; refine pv 18 (some 47) (fl 22 524287) HT_ ?_; refine pu 19 (some 48) (fl 22 1048575) HT_ ?_; refine pu 20 (some 49) (fl 22 2097151) HT_ ?_; refine last_ (i := 21) (N := none) (fl 22 4194303) rfl rfl (one_of HT_.out (by kernel_rfl)) (by decide) (fun K hK => ?_); refine skip_ (w1 := ?_) ?hw ?hn ?_ ?_; (case hw => unfold Region.wanted; rfl); (case hn => rfl); rotate_left
      · go_simp
        rfl
      refine hK.out _ _ ?_; clear hK K; refine done_ (done_of HT_.out (by kernel_rfl)) ?_
      try go_wp2
      go_roundg k1
      case measure => have := aW.out; omega
      exact ⟨(bL), (wrap64 (a2 + 1)), qG, H', ⟨by have := aW.out; omega⟩, ⟨qR HQ20⟩, ⟨qL HB⟩⟩
    case L2 =>
      have dB : 0 ≤ (a2 : Int) := qD; have dC : a2 < (l0.length : Int) := qD; obtain ⟨a3, fD, aZ, b0, b1, b2, b3, b4, b5, b6, b7, b8, aR, aT⟩ := at_T41 HR0.out a2 dB dC; have bV := aT; have bW := aR; have c3 := b8; have c4 := b7; have c5 := b6; have c6 := b5; have c7 := b4; have c8 := b3; have c9 := b2; have cA := b1; have cB := b0; have cC := aZ; cases fD; obtain ⟨aZ, b0, b1, b2, b3, b4, b5, b6, b7, b8, aR, aT⟩ := hB12 HB aZ b0 b1 b2 b3 b4 b5 b6 b7 b8 aR aT; replace dB := eq_true dB; replace dC := eq_true dC; refine start_ (n := 22) (S := fun w' => w'.cell? (aA.add (a2).toNat) = some (.int .i64 (rd l1 a2)) ∧ w'.cell? (aA.add (a2).toNat) = some (.int .i64 (rd l1 a2)) ∧ w'.cell? (eM.add ((rd l1 a2)).toNat) = some (.bool false) ∧ w'.cell? (a3.add ((a2).toNat * 12)) = some (.int .i64 ((rd_T41 l0 a2).f0)) ∧ w'.cell? ⟨(a3.add ((a2).toNat * 12)).block, (a3.add ((a2).toNat * 12)).off + 1, none⟩ = some (.int .i64 ((rd_T41 l0 a2).f1.f0)) ∧ w'.cell? ⟨(a3.add ((a2).toNat * 12)).block, (a3.add ((a2).toNat * 12)).off + 2, none⟩ = some (.int .i64 ((rd_T41 l0 a2).f1.f1)) ∧ w'.cell? ⟨(a3.add ((a2).toNat * 12)).block, (a3.add ((a2).toNat * 12)).off + 3, none⟩ = some (.int .i64 ((rd_T41 l0 a2).f1.f2)) ∧ w'.cell? ⟨(a3.add ((a2).toNat * 12)).block, (a3.add ((a2).toNat * 12)).off + 4, none⟩ = some (.int .i64 ((rd_T41 l0 a2).f2.f0)) ∧ w'.cell? ⟨(a3.add ((a2).toNat * 12)).block, (a3.add ((a2).toNat * 12)).off + 5, none⟩ = some (.int .i64 ((rd_T41 l0 a2).f2.f1)) ∧ w'.cell? ⟨(a3.add ((a2).toNat * 12)).block, (a3.add ((a2).toNat * 12)).off + 6, none⟩ = some (.int .i64 ((rd_T41 l0 a2).f3.f0)) ∧ w'.cell? ⟨(a3.add ((a2).toNat * 12)).block, (a3.add ((a2).toNat * 12)).off + 7, none⟩ = some (.int .i64 ((rd_T41 l0 a2).f3.f1)) ∧ w'.cell? ⟨(a3.add ((a2).toNat * 12)).block, (a3.add ((a2).toNat * 12)).off + 8, none⟩ = some (.int .i64 ((rd_T41 l0 a2).f4)) ∧ w'.cell? ⟨(a3.add ((a2).toNat * 12)).block, (a3.add ((a2).toNat * 12)).off + 9, none⟩ = some (.int .i64 ((rd_T41 l0 a2).f5)) ∧ w'.cell? ⟨(a3.add ((a2).toNat * 12)).block, (a3.add ((a2).toNat * 12)).off + 10, none⟩ = some (.int .i64 ((rd_T41 l0 a2).f6)) ∧ w'.cell? ⟨(a3.add ((a2).toNat * 12)).block, (a3.add ((a2).toNat * 12)).off + 11, none⟩ = some (.int .i64 ((rd_T41 l0 a2).f7))) (ds := [21]) #[false, false, false, false, false, false, false, false, false, false, false, false, false, false, false, false, false, false, false, false, false, false] (by kernel_rfl) rfl rfl ⟨(hB HB bN), (hB HB bO), aE, (hB HB cC), (hB HB cB), (hB HB cA), (hB HB c9), (hB HB c8), (hB HB c7), (hB HB c6), (hB HB c5), (hB HB c4), (hB HB c3), (hB HB bW), (hB HB bV)⟩ (fun hHeld => ?_); refine with_tabW spec_l7Awake.tab8 spec_l7Awake.bits8 (fun HT_ HW_ => ?_)
      generalize eS.drew = g7 at a8 HB aI aJ aE aZ b0 aR aT b1 b2 b3 b4 b5 b6 b7 b8 hHeld ⊢; refine pu 0 (some 29) (fl 22 1) HT_ ?_; refine pu 1 (some 30) (fl 22 3) HT_ ?_; refine pu 2 (some 31) (fl 22 7) HT_ ?_; refine pu 3 (some 32) (fl 22 15) HT_ ?_; refine pu 5 (some 34) (fl 22 47) HT_ ?_; refine pu 6 (some 35) (fl 22 111) HT_ ?_; refine pu 7 (some 36) (fl 22 239) HT_ ?_; refine pu 8 (some 37) (fl 22 495) HT_ ?_; refine tk15 4 (some 33) (fl 22 511) HT_ HW_ hHeld ?_; refine tk15 9 (some 38) (fl 22 1023) HT_ HW_ hHeld ?_; refine pu 10 (some 39) (fl 22 2047) HT_ ?_; refine tk15 11 (some 40) (fl 22 4095) HT_ HW_ hHeld ?_; refine pu 12 (some 41) (fl 22 8191) HT_ ?_; refine pu 13 (some 42) (fl 22 16383) HT_ ?_; refine pu 14 (some 43) (fl 22 32767) HT_ ?_; refine pu 15 (some 44) (fl 22 65535) HT_ ?_; refine tk15 16 (some 45) (fl 22 131071) HT_ HW_ hHeld ?_; refine on 17 (some 46) (fl 22 262143) HT_ (fun K hK => ?_); refine go1 Try.func81 #[.agg #[.int .i64 ((rd_T41 l0 a2).f0), .int .i64 ((rd_T41 l0 a2).f1.f0), .int .i64 ((rd_T41 l0 a2).f1.f1), .int .i64 ((rd_T41 l0 a2).f1.f2), .int .i64 ((rd_T41 l0 a2).f2.f0), .int .i64 ((rd_T41 l0 a2).f2.f1), .int .i64 ((rd_T41 l0 a2).f3.f0), .int .i64 ((rd_T41 l0 a2).f3.f1), .int .i64 ((rd_T41 l0 a2).f4), .int .i64 ((rd_T41 l0 a2).f5), .int .i64 ((rd_T41 l0 a2).f6), .int .i64 ((rd_T41 l0 a2).f7)]] ?_
      with_reducible refine (spec_l6Sleeps.calls ((rd_T41 l0 a2).f0) ((rd_T41 l0 a2).f1.f0) ((rd_T41 l0 a2).f1.f1) ((rd_T41 l0 a2).f1.f2) ((rd_T41 l0 a2).f2.f0) ((rd_T41 l0 a2).f2.f1) ((rd_T41 l0 a2).f3.f0) ((rd_T41 l0 a2).f3.f1) ((rd_T41 l0 a2).f4) ((rd_T41 l0 a2).f5) ((rd_T41 l0 a2).f6) ((rd_T41 l0 a2).f7) aQ _ cO.out).mono ?_
      rintro e g8 ⟨rfl, hb⟩; have dD := hC hb hHeld.2.2.1; refine ⟨_, rfl, ?_⟩; replace a8 := az (Kd.R_below (qR a8) hb); replace HB := bS HB hb; clear hb; have e5 : 0 ≤ ((rd l1 a2) : Int) := qD; have e6 : ((rd l1 a2) : Int) < ((a5.length : Int) : Int) := qD; obtain ⟨fZ, g0, e7, e8, fE, cl22, HG22⟩ := Kd.R_form a8.out (by omega); (first | cases e7 | (injection e7 with ea_ en_ ec_; (first | subst ea_ | (injection ea_ with ea_; subst ea_)); subst ec_; clear en_)); have GB22 := az e8; have GG22 := az HG22; clear e8 fE HG22; (first | simp only [add_plain] at aE | skip); obtain ⟨fS, hf22_0⟩ := Kd.R_celln false a8.out ((rd l1 a2) : Int) e5 e6; replace e5 := eq_true e5; replace e6 := eq_true e6; have HP28 := Kd.R_putn a8.out ((rd l1 a2) : Int) (!aQ); rw [← bU.out] at HP28; have HQ28 := az HP28; clear HP28; refine hK.out _ _ ⟨(hB HB bN), (hB HB bO), dD, (hB HB cC), (hB HB cB), (hB HB cA), (hB HB c9), (hB HB c8), (hB HB c7), (hB HB c6), (hB HB c5), (hB HB c4), (hB HB c3), (hB HB bW), (hB HB bV)⟩ (fun hHeld => ?_); clear hK K; refine nm (some 46) ?_; refine pu 18 (some 47) (fl 22 524287) HT_ ?_; refine pu 19 (some 48) (fl 22 1048575) HT_ ?_; refine pu 20 (some 49) (fl 22 2097151) HT_ ?_; refine last_ (i := 21) (N := none) (fl 22 4194303) rfl rfl (one_of HT_.out (by kernel_rfl)) (by decide) (fun K hK => ?_); refine skip_ (w1 := ?_) ?hw ?hn ?_ ?_; (case hw => unfold Region.wanted; rfl); (case hn => rfl); rotate_left
      · go_simp
        rfl
      refine hK.out _ _ ?_; clear hK K; refine done_ (done_of HT_.out (by kernel_rfl)) ?_
      try go_wp2
      go_roundg k1
      case measure => have := aW.out; omega
      exact ⟨(bL), (wrap64 (a2 + 1)), qG, H', ⟨by have := aW.out; omega⟩, ⟨qR HQ28⟩, ⟨qL HB⟩⟩
    case L3 =>
      go_roundg k1
      case measure => have := aW.out; omega
      exact ⟨(a5), (wrap64 (a2 + 1)), qG, H', ⟨by have := aW.out; omega⟩, ⟨qR a8⟩, ⟨qL HB⟩⟩
    case' L4 | L5 | L6 =>
      have dE : 0 ≤ (a2 : Int) := qD; have dF : a2 < (l1.length : Int) := qD; obtain ⟨eN, fG, cD⟩ := Kd.at_int HR1.out a2 dE dF; obtain rfl : aA = eN := (by injection fG); replace cD := hB HB cD; replace dE := eq_true dE; replace dF := eq_true dF
    case' L4 | L5 =>
      try go_wp2
      replace a9 := az (Kd.R_drew a9.out); replace HB := az (below_drew1 HB.out); have dG : 0 ≤ (a2 : Int) := qD; have dH : a2 < (l1.length : Int) := qD; obtain ⟨eO, fH, aK⟩ := Kd.at_int HR1.out a2 dG dH; have bP := aK; obtain rfl : aA = eO := (by injection fH); replace aK := hB HB aK; replace dG := eq_true dG; replace dH := eq_true dH; have dI : 0 ≤ (a2 : Int) := qD; have dJ : a2 < (l1.length : Int) := qD; obtain ⟨eP, fI, aM⟩ := Kd.at_int HR1.out a2 dI dJ; have bQ := aM; obtain rfl : aA = eP := (by injection fI); replace aM := hB HB aM; replace dI := eq_true dI; replace dJ := eq_true dJ; have dK : 0 ≤ ((rd l1 a2) : Int) := qD; have dL : (rd l1 a2) < (a7.length : Int) := qD; obtain ⟨eQ, fJ, aG⟩ := Kd.at_bool (Kd.R_reads' a9.out).2.2 (rd l1 a2) dK dL; (try rw [← Nbq7201.out] at aG); cases fJ; replace dK := eq_true dK; replace dL := eq_true dL
    case L4 =>
      have e9 : 0 ≤ ((rd l1 a2) : Int) := qD; have eA : ((rd l1 a2) : Int) < ((a7.length : Int) : Int) := qD; obtain ⟨fK, g1, eB, eC, fL, cl36, HG36⟩ := Kd.R_form a9.out (by omega); (first | cases eB | (injection eB with ea_ en_ ec_; (first | subst ea_ | (injection ea_ with ea_; subst ea_)); subst ec_; clear en_)); have GB36 := az eC; have GG36 := az HG36; clear eC fL HG36; (first | simp only [add_plain] at aG | skip); obtain ⟨eD, hf36_0⟩ := Kd.R_celln false a9.out ((rd l1 a2) : Int) e9 eA; replace e9 := eq_true e9; replace eA := eq_true eA; have HP39 := Kd.R_putn a9.out ((rd l1 a2) : Int) true; rw [← aX.out] at HP39; have HQ39 := az HP39; clear HP39; refine start_ (n := 22) (S := fun w' => w'.cell? (aA.add (a2).toNat) = some (.int .i64 (rd l1 a2)) ∧ w'.cell? (aA.add (a2).toNat) = some (.int .i64 (rd l1 a2)) ∧ w'.cell? ⟨fK, ((rd l1 a2)).toNat, none⟩ = some (.bool true)) (ds := [21]) #[false, false, false, false, false, false, false, false, false, false, false, false, false, false, false, false, false, false, false, false, false, false] (by kernel_rfl) rfl rfl ⟨(hB HB bP), (hB HB bQ), aG⟩ (fun hHeld => ?_); refine with_tabW spec_l7Awake.tab8 spec_l7Awake.bits8 (fun HT_ HW_ => ?_); generalize wr.drew = g9 at a9 HB GG36 HQ39 hf36_0 aK aM aG eD hHeld ⊢; refine pu 0 (some 29) (fl 22 1) HT_ ?_; refine pu 1 (some 30) (fl 22 3) HT_ ?_; refine pu 2 (some 31) (fl 22 7) HT_ ?_; refine pu 3 (some 32) (fl 22 15) HT_ ?_; refine pu 5 (some 34) (fl 22 47) HT_ ?_; refine pu 6 (some 35) (fl 22 111) HT_ ?_; refine pu 7 (some 36) (fl 22 239) HT_ ?_; refine pu 8 (some 37) (fl 22 495) HT_ ?_; refine tk3 4 (some 33) (fl 22 511) HT_ HW_ hHeld ?_; refine tk3 9 (some 38) (fl 22 1023) HT_ HW_ hHeld ?_; refine pu 10 (some 39) (fl 22 2047) HT_ ?_; refine tk3 11 (some 40) (fl 22 4095) HT_ HW_ hHeld ?_; refine pu 12 (some 41) (fl 22 8191) HT_ ?_; refine pv 13 (some 42) (fl 22 16383) HT_ ?_; refine pv 14 (some 43) (fl 22 32767) HT_ ?_; refine pv 15 (some 44) (fl 22 65535) HT_ ?_; refine pv 16 (some 45) (fl 22 131071) HT_ ?_; refine pv 17 (some 46) (fl 22 262143) HT_ ?_; refine pv 18 (some 47) (fl 22 524287) HT_ ?_; refine pu 19 (some 48) (fl 22 1048575) HT_ ?_; refine pu 20 (some 49) (fl 22 2097151) HT_ ?_; refine last_ (i := 21) (N := none) (fl 22 4194303) rfl rfl (one_of HT_.out (by kernel_rfl)) (by decide) (fun K hK => ?_); refine skip_ (w1 := ?_) ?hw ?hn ?_ ?_; (case hw => unfold Region.wanted; rfl); (case hn => rfl); rotate_left
      · go_simp
        rfl
      refine hK.out _ _ ?_; clear hK K; refine done_ (done_of HT_.out (by kernel_rfl)) ?_
      try go_wp2
      go_roundg k1
      case measure => have := aW.out; omega
      exact ⟨(a5), (wrap64 (a2 + 1)), qG, H', ⟨by have := aW.out; omega⟩, ⟨qR HQ39⟩, ⟨qL HB⟩⟩
    case L5 =>
      have dM : 0 ≤ (a2 : Int) := qD; have dN : a2 < (l0.length : Int) := qD; obtain ⟨a4, fM, b9, bA, bB, bC, bD, bE, bF, bG, bH, bI, aU, aV⟩ := at_T41 HR0.out a2 dM dN; have bX := aV; have bY := aU; have cE := bI; have cF := bH; have cG := bG; have cH := bF; have cI := bE; have cJ := bD; have cK := bC; have cL := bB; have cM := bA; have cN := b9; cases fM; obtain ⟨b9, bA, bB, bC, bD, bE, bF, bG, bH, bI, aU, aV⟩ := hB12 HB b9 bA bB bC bD bE bF bG bH bI aU aV; replace dM := eq_true dM; replace dN := eq_true dN; refine start_ (n := 22) (S := fun w' => w'.cell? (aA.add (a2).toNat) = some (.int .i64 (rd l1 a2)) ∧ w'.cell? (aA.add (a2).toNat) = some (.int .i64 (rd l1 a2)) ∧ w'.cell? (eQ.add ((rd l1 a2)).toNat) = some (.bool false) ∧ w'.cell? (a4.add ((a2).toNat * 12)) = some (.int .i64 ((rd_T41 l0 a2).f0)) ∧ w'.cell? ⟨(a4.add ((a2).toNat * 12)).block, (a4.add ((a2).toNat * 12)).off + 1, none⟩ = some (.int .i64 ((rd_T41 l0 a2).f1.f0)) ∧ w'.cell? ⟨(a4.add ((a2).toNat * 12)).block, (a4.add ((a2).toNat * 12)).off + 2, none⟩ = some (.int .i64 ((rd_T41 l0 a2).f1.f1)) ∧ w'.cell? ⟨(a4.add ((a2).toNat * 12)).block, (a4.add ((a2).toNat * 12)).off + 3, none⟩ = some (.int .i64 ((rd_T41 l0 a2).f1.f2)) ∧ w'.cell? ⟨(a4.add ((a2).toNat * 12)).block, (a4.add ((a2).toNat * 12)).off + 4, none⟩ = some (.int .i64 ((rd_T41 l0 a2).f2.f0)) ∧ w'.cell? ⟨(a4.add ((a2).toNat * 12)).block, (a4.add ((a2).toNat * 12)).off + 5, none⟩ = some (.int .i64 ((rd_T41 l0 a2).f2.f1)) ∧ w'.cell? ⟨(a4.add ((a2).toNat * 12)).block, (a4.add ((a2).toNat * 12)).off + 6, none⟩ = some (.int .i64 ((rd_T41 l0 a2).f3.f0)) ∧ w'.cell? ⟨(a4.add ((a2).toNat * 12)).block, (a4.add ((a2).toNat * 12)).off + 7, none⟩ = some (.int .i64 ((rd_T41 l0 a2).f3.f1)) ∧ w'.cell? ⟨(a4.add ((a2).toNat * 12)).block, (a4.add ((a2).toNat * 12)).off + 8, none⟩ = some (.int .i64 ((rd_T41 l0 a2).f4)) ∧ w'.cell? ⟨(a4.add ((a2).toNat * 12)).block, (a4.add ((a2).toNat * 12)).off + 9, none⟩ = some (.int .i64 ((rd_T41 l0 a2).f5)) ∧ w'.cell? ⟨(a4.add ((a2).toNat * 12)).block, (a4.add ((a2).toNat * 12)).off + 10, none⟩ = some (.int .i64 ((rd_T41 l0 a2).f6)) ∧ w'.cell? ⟨(a4.add ((a2).toNat * 12)).block, (a4.add ((a2).toNat * 12)).off + 11, none⟩ = some (.int .i64 ((rd_T41 l0 a2).f7))) (ds := [21]) #[false, false, false, false, false, false, false, false, false, false, false, false, false, false, false, false, false, false, false, false, false, false] (by kernel_rfl) rfl rfl ⟨(hB HB bP), (hB HB bQ), aG, (hB HB cN), (hB HB cM), (hB HB cL), (hB HB cK), (hB HB cJ), (hB HB cI), (hB HB cH), (hB HB cG), (hB HB cF), (hB HB cE), (hB HB bY), (hB HB bX)⟩ (fun hHeld => ?_); refine with_tabW spec_l7Awake.tab8 spec_l7Awake.bits8 (fun HT_ HW_ => ?_)
      generalize wr.drew = gA at a9 HB aK aM aG b9 bA aU aV bB bC bD bE bF bG bH bI hHeld ⊢; refine pu 0 (some 29) (fl 22 1) HT_ ?_; refine pu 1 (some 30) (fl 22 3) HT_ ?_; refine pu 2 (some 31) (fl 22 7) HT_ ?_; refine pu 3 (some 32) (fl 22 15) HT_ ?_; refine pu 5 (some 34) (fl 22 47) HT_ ?_; refine pu 6 (some 35) (fl 22 111) HT_ ?_; refine pu 7 (some 36) (fl 22 239) HT_ ?_; refine pu 8 (some 37) (fl 22 495) HT_ ?_; refine tk15 4 (some 33) (fl 22 511) HT_ HW_ hHeld ?_; refine tk15 9 (some 38) (fl 22 1023) HT_ HW_ hHeld ?_; refine pu 10 (some 39) (fl 22 2047) HT_ ?_; refine tk15 11 (some 40) (fl 22 4095) HT_ HW_ hHeld ?_; refine pu 12 (some 41) (fl 22 8191) HT_ ?_; refine pu 13 (some 42) (fl 22 16383) HT_ ?_; refine pu 14 (some 43) (fl 22 32767) HT_ ?_; refine pu 15 (some 44) (fl 22 65535) HT_ ?_; refine tk15 16 (some 45) (fl 22 131071) HT_ HW_ hHeld ?_; refine on 17 (some 46) (fl 22 262143) HT_ (fun K hK => ?_); refine go1 Try.func81 #[.agg #[.int .i64 ((rd_T41 l0 a2).f0), .int .i64 ((rd_T41 l0 a2).f1.f0), .int .i64 ((rd_T41 l0 a2).f1.f1), .int .i64 ((rd_T41 l0 a2).f1.f2), .int .i64 ((rd_T41 l0 a2).f2.f0), .int .i64 ((rd_T41 l0 a2).f2.f1), .int .i64 ((rd_T41 l0 a2).f3.f0), .int .i64 ((rd_T41 l0 a2).f3.f1), .int .i64 ((rd_T41 l0 a2).f4), .int .i64 ((rd_T41 l0 a2).f5), .int .i64 ((rd_T41 l0 a2).f6), .int .i64 ((rd_T41 l0 a2).f7)]] ?_
      with_reducible refine (spec_l6Sleeps.calls ((rd_T41 l0 a2).f0) ((rd_T41 l0 a2).f1.f0) ((rd_T41 l0 a2).f1.f1) ((rd_T41 l0 a2).f1.f2) ((rd_T41 l0 a2).f2.f0) ((rd_T41 l0 a2).f2.f1) ((rd_T41 l0 a2).f3.f0) ((rd_T41 l0 a2).f3.f1) ((rd_T41 l0 a2).f4) ((rd_T41 l0 a2).f5) ((rd_T41 l0 a2).f6) ((rd_T41 l0 a2).f7) aQ _ cO.out).mono ?_
      rintro e gB ⟨rfl, hb⟩; have dD := hC hb hHeld.2.2.1; refine ⟨_, rfl, ?_⟩; replace a9 := az (Kd.R_below (qR a9) hb); replace HB := bS HB hb; clear hb; have eE : 0 ≤ ((rd l1 a2) : Int) := qD; have eF : ((rd l1 a2) : Int) < ((a7.length : Int) : Int) := qD; obtain ⟨g2, g3, eG, eH, fN, cl41, HG41⟩ := Kd.R_form a9.out (by omega); (first | cases eG | (injection eG with ea_ en_ ec_; (first | subst ea_ | (injection ea_ with ea_; subst ea_)); subst ec_; clear en_)); have GB41 := az eH; have GG41 := az HG41; clear eH fN HG41; (first | simp only [add_plain] at aG | skip); obtain ⟨fT, hf41_0⟩ := Kd.R_celln false a9.out ((rd l1 a2) : Int) eE eF; replace eE := eq_true eE; replace eF := eq_true eF; have HP45 := Kd.R_putn a9.out ((rd l1 a2) : Int) (!aQ); rw [← aX.out] at HP45; have HQ45 := az HP45; clear HP45; refine hK.out _ _ ⟨(hB HB bP), (hB HB bQ), dD, (hB HB cN), (hB HB cM), (hB HB cL), (hB HB cK), (hB HB cJ), (hB HB cI), (hB HB cH), (hB HB cG), (hB HB cF), (hB HB cE), (hB HB bY), (hB HB bX)⟩ (fun hHeld => ?_); clear hK K; refine nm (some 46) ?_; refine pu 18 (some 47) (fl 22 524287) HT_ ?_; refine pu 19 (some 48) (fl 22 1048575) HT_ ?_; refine pu 20 (some 49) (fl 22 2097151) HT_ ?_; refine last_ (i := 21) (N := none) (fl 22 4194303) rfl rfl (one_of HT_.out (by kernel_rfl)) (by decide) (fun K hK => ?_); refine skip_ (w1 := ?_) ?hw ?hn ?_ ?_; (case hw => unfold Region.wanted; rfl); (case hn => rfl); rotate_left
      · go_simp
        rfl
      refine hK.out _ _ ?_; clear hK K; refine done_ (done_of HT_.out (by kernel_rfl)) ?_
      try go_wp2
      go_roundg k1
      case measure => have := aW.out; omega
      exact ⟨(a5), (wrap64 (a2 + 1)), qG, H', ⟨by have := aW.out; omega⟩, ⟨qR HQ45⟩, ⟨qL HB⟩⟩
    case L6 =>
      go_wp2
      go_roundg k1
      case measure => have := aW.out; omega
      exact ⟨(a7), (wrap64 (a2 + 1)), qG, H', ⟨by have := aW.out; omega⟩, ⟨qR a9⟩, ⟨qL HB⟩⟩
    case L7 =>
      go_wp2
      go_ret
      exact ⟨_, qE, qR a9, qL HB⟩
      

/-! ### spec_l6Drive: function 80 -/
def spec_l6Drive.f (a0 : Int) (a1 : Int) : Option (Bool) := (spec_l1In.f a0 (-20000000) 20000000).bind fun a4 => (if a4 = true then ((spec_l1In.f a1 (-20000000) 20000000).bind fun a5 => (some a5)) else (some false))
set_option maxHeartbeats 8000000 in
set_option maxRecDepth 100000 in
theorem spec_l6Drive.calls (a0 : Int) (a1 : Int) (r : Bool) (w : World) (h : spec_l6Drive.f a0 a1 = some r) :
    Calls Try.prog 80 #[.agg #[.int .i64 a0, .int .i64 a1]] w fun e w' => e = .returned (.bool r) ∧ Below w.heap.size w w' := by
  have hu33 := Try.underlying33; have HB := az (Below.refl w.heap.size w); have H : ((spec_l1In.f a0 (-20000000) 20000000).bind fun a4 => (if a4 = true then ((spec_l1In.f a1 (-20000000) 20000000).bind fun a5 => (some a5)) else (some false))) = some r := h; clear h; replace H := qH H; obtain ⟨a7, a6, H⟩ := H
  try dsimp only at H
  by_cases a2 : a7 = true; subst a2; replace H := qT H; replace H := qH H; obtain ⟨a8, a9, H⟩ := H
  try dsimp only at H
  obtain rfl := Option.some.inj H; refine ?L1; rotate_left; replace a2 := Bool.eq_false_iff.mpr a2; subst a2; replace H := qU H; obtain rfl := Option.some.inj H; refine ?L2
  rotate_right
  case' L1 | L2 =>
    go_enter Try.func80, Try.ntmps80; go_wp2_with (first | ((with_reducible refine gate_dst (N := 1) rfl ?_); refine bx (N := 1) (cs := #[.int .i64 a0, .int .i64 a1]) (t := 33) ?_; intro aA hg w5 hbox hb; have a3 := az hbox; have aB := az ((gE hg (qL HB) : w.heap.size ≤ aA)); have aG := aB; replace HB := bS HB hb; clear hb hbox hg; obtain ⟨aC, aD⟩ := cz2 a3.out; have aE := blk_frozen a3.out 0; have aF := blk_frozen a3.out 1) | ((with_reducible refine gate_callee (f := 77) rfl ?_); refine gl (some 5) Try.func77 #[.int .i64 a0, .int .i64 (-20000000), .int .i64 20000000] ?_; (with_reducible refine (spec_l1In.calls a0 (-20000000) 20000000 true _ a6.out).mono ?_); rintro e w' ⟨rfl, ⟨nd, rfl⟩⟩; refine ⟨_, rfl, ?_⟩) | (go_at_call 77; (with_reducible refine (spec_l1In.calls a1 (-20000000) 20000000 a8 _ a9.out).mono ?_); rintro e w' ⟨rfl, ⟨nd, rfl⟩⟩) | ((with_reducible refine gate_callee (f := 77) rfl ?_); refine gl (some 5) Try.func77 #[.int .i64 a0, .int .i64 (-20000000), .int .i64 20000000] ?_; (with_reducible refine (spec_l1In.calls a0 (-20000000) 20000000 false _ a6.out).mono ?_); rintro e w' ⟨rfl, ⟨nd, rfl⟩⟩; refine ⟨_, rfl, ?_⟩))
    go_ret
  case L1 =>
    exact ⟨qE, qL HB⟩
  case L2 =>
    exact ⟨qE, qL HB⟩
    

/-! ### spec_ShapeOk: function 78 -/
def spec_ShapeOk.f (a0 : Int) (a1 : Int) (a3 : Int) : Option (Bool) := if a0 = 1 then ((spec_l1In.f a1 1 25600).bind fun a7 => (if a7 = true then (some (a3 == 0)) else (some false))) else (if a0 = 2 then ((spec_l1In.f a1 1 25600).bind fun a8 => (if a8 = true then ((spec_l1In.f a3 1 25600).bind fun a9 => (some a9)) else (some false))) else (some false))
set_option maxHeartbeats 8000000 in
set_option maxRecDepth 100000 in
theorem spec_ShapeOk.calls (a0 : Int) (a1 : Int) (a3 : Int) (r : Bool) (w : World) (h : spec_ShapeOk.f a0 a1 a3 = some r) :
    Calls Try.prog 78 #[.agg #[.int .i64 a0, .int .i64 a1, .int .i64 a3]] w fun e w' => e = .returned (.bool r) ∧ Below w.heap.size w w' := by
  have hu39 := Try.underlying39; have HB := az (Below.refl w.heap.size w); have H : (if a0 = 1 then ((spec_l1In.f a1 1 25600).bind fun a7 => (if a7 = true then (some (a3 == 0)) else (some false))) else (if a0 = 2 then ((spec_l1In.f a1 1 25600).bind fun a8 => (if a8 = true then ((spec_l1In.f a3 1 25600).bind fun a9 => (some a9)) else (some false))) else (some false))) = some r := h; clear h; by_cases a4 : a0 = 1; rw [if_pos a4] at H; have aC : (a0 == 1) = true := beq_iff_eq.mpr a4; have aD : (a0 != 1) = false := bne_eq_false_iff_eq.mpr a4; clear a4; replace H := qH H; obtain ⟨aA, a6, H⟩ := H
  try dsimp only at H
  by_cases a2 : aA = true; subst a2; replace H := qT H; obtain rfl := Option.some.inj H; refine ?L1; rotate_left; replace a2 := Bool.eq_false_iff.mpr a2; subst a2; replace H := qU H; obtain rfl := Option.some.inj H; refine ?L2
  rotate_right
  rotate_left 2
  rw [if_neg a4] at H; have aC : (a0 == 1) = false := beq_eq_false_iff_ne.mpr a4; have aD : (a0 != 1) = true := bne_iff_ne.mpr a4; by_cases a5 : a0 = 2; rw [if_pos a5] at H; have aE : (a0 == 2) = true := beq_iff_eq.mpr a5; have aF : (a0 != 2) = false := bne_eq_false_iff_eq.mpr a5; clear a5; replace H := qH H; obtain ⟨aA, a6, H⟩ := H
  try dsimp only at H
  by_cases a2 : aA = true; subst a2; replace H := qT H; replace H := qH H; obtain ⟨aI, aJ, H⟩ := H
  try dsimp only at H
  obtain rfl := Option.some.inj H; refine ?L3; rotate_left; replace a2 := Bool.eq_false_iff.mpr a2; subst a2; replace H := qU H; obtain rfl := Option.some.inj H; refine ?L4
  rotate_right
  rotate_left 2
  rw [if_neg a5] at H; have aE : (a0 == 2) = false := beq_eq_false_iff_ne.mpr a5; have aF : (a0 != 2) = true := bne_iff_ne.mpr a5; obtain rfl := Option.some.inj H; refine ?L5
  rotate_right 2
  rotate_right 2
  case' L1 | L2 | L3 | L4 | L5 =>
    go_enter Try.func78, Try.ntmps78; go_wp2_with (first | ((with_reducible refine gate_dst (N := 1) rfl ?_); refine bx (N := 1) (cs := #[.int .i64 a0, .int .i64 a1, .int .i64 a3]) (t := 39) ?_; intro aG hg w5 hbox hb; have aB := az hbox; have aH := az ((gE hg (qL HB) : w.heap.size ≤ aG)); have aK := aH; replace HB := bS HB hb; clear hb hbox hg; obtain ⟨aL, aM, aN⟩ := cz3 aB.out; obtain ⟨aO, aP, aQ⟩ := fz3 aB.out) | ((with_reducible refine gate_callee (f := 77) rfl ?_); refine gl (some 9) Try.func77 #[.int .i64 a1, .int .i64 1, .int .i64 25600] ?_; (with_reducible refine (spec_l1In.calls a1 1 25600 true _ a6.out).mono ?_); rintro e w' ⟨rfl, ⟨nd, rfl⟩⟩; refine ⟨_, rfl, ?_⟩) | ((with_reducible refine gate_callee (f := 77) rfl ?_); refine gl (some 9) Try.func77 #[.int .i64 a1, .int .i64 1, .int .i64 25600] ?_; (with_reducible refine (spec_l1In.calls a1 1 25600 false _ a6.out).mono ?_); rintro e w' ⟨rfl, ⟨nd, rfl⟩⟩; refine ⟨_, rfl, ?_⟩) | ((with_reducible refine gate_callee (f := 77) rfl ?_); refine gl (some 19) Try.func77 #[.int .i64 a1, .int .i64 1, .int .i64 25600] ?_; (with_reducible refine (spec_l1In.calls a1 1 25600 true _ a6.out).mono ?_); rintro e w' ⟨rfl, ⟨nd, rfl⟩⟩; refine ⟨_, rfl, ?_⟩) | (go_at_call 77; (with_reducible refine (spec_l1In.calls a3 1 25600 aI _ aJ.out).mono ?_); rintro e w' ⟨rfl, ⟨nd, rfl⟩⟩) | ((with_reducible refine gate_callee (f := 77) rfl ?_); refine gl (some 19) Try.func77 #[.int .i64 a1, .int .i64 1, .int .i64 25600] ?_; (with_reducible refine (spec_l1In.calls a1 1 25600 false _ a6.out).mono ?_); rintro e w' ⟨rfl, ⟨nd, rfl⟩⟩; refine ⟨_, rfl, ?_⟩))
    go_ret
  case' L1 | L2 | L3 | L4 =>
    exact ⟨qE, qL HB⟩
  case L5 =>
    exact ⟨qE, qL HB⟩
    

/-! ### spec_l3Place: function 79 -/
def spec_l3Place.f (a0 : Int) (a1 : Int) : Option (Bool) := (spec_l1In.f a0 (-2560000) 2560000).bind fun a4 => (if a4 = true then ((spec_l1In.f a1 (-2560000) 2560000).bind fun a5 => (some a5)) else (some false))
set_option maxHeartbeats 8000000 in
set_option maxRecDepth 100000 in
theorem spec_l3Place.calls (a0 : Int) (a1 : Int) (r : Bool) (w : World) (h : spec_l3Place.f a0 a1 = some r) :
    Calls Try.prog 79 #[.agg #[.int .i64 a0, .int .i64 a1]] w fun e w' => e = .returned (.bool r) ∧ Below w.heap.size w w' := by
  have hu33 := Try.underlying33; have HB := az (Below.refl w.heap.size w); have H : ((spec_l1In.f a0 (-2560000) 2560000).bind fun a4 => (if a4 = true then ((spec_l1In.f a1 (-2560000) 2560000).bind fun a5 => (some a5)) else (some false))) = some r := h; clear h; replace H := qH H; obtain ⟨a9, a6, H⟩ := H
  try dsimp only at H
  by_cases a2 : a9 = true; subst a2; replace H := qT H; replace H := qH H; obtain ⟨aA, aB, H⟩ := H
  try dsimp only at H
  obtain rfl := Option.some.inj H; refine ?L1; rotate_left; replace a2 := Bool.eq_false_iff.mpr a2; subst a2; replace H := qU H; obtain rfl := Option.some.inj H; refine ?L2
  rotate_right
  case' L1 | L2 =>
    go_enter Try.func79, Try.ntmps79; go_wp2_with (first | ((with_reducible refine gate_dst (N := 1) rfl ?_); refine bx (N := 1) (cs := #[.int .i64 a0, .int .i64 a1]) (t := 33) ?_; intro a7 hg w5 hbox hb; have a3 := az hbox; have a8 := az ((gE hg (qL HB) : w.heap.size ≤ a7)); have aC := a8; replace HB := bS HB hb; clear hb hbox hg; obtain ⟨aD, aE⟩ := cz2 a3.out; have aF := blk_frozen a3.out 0; have aG := blk_frozen a3.out 1) | ((with_reducible refine gate_callee (f := 77) rfl ?_); refine gl (some 5) Try.func77 #[.int .i64 a0, .int .i64 (-2560000), .int .i64 2560000] ?_; (with_reducible refine (spec_l1In.calls a0 (-2560000) 2560000 true _ a6.out).mono ?_); rintro e w' ⟨rfl, ⟨nd, rfl⟩⟩; refine ⟨_, rfl, ?_⟩) | (go_at_call 77; (with_reducible refine (spec_l1In.calls a1 (-2560000) 2560000 aA _ aB.out).mono ?_); rintro e w' ⟨rfl, ⟨nd, rfl⟩⟩) | ((with_reducible refine gate_callee (f := 77) rfl ?_); refine gl (some 5) Try.func77 #[.int .i64 a0, .int .i64 (-2560000), .int .i64 2560000] ?_; (with_reducible refine (spec_l1In.calls a0 (-2560000) 2560000 false _ a6.out).mono ?_); rintro e w' ⟨rfl, ⟨nd, rfl⟩⟩; refine ⟨_, rfl, ?_⟩))
    go_ret
  case L1 =>
    exact ⟨qE, qL HB⟩
  case L2 =>
    exact ⟨qE, qL HB⟩
    

attribute [local go_sem high] eqA33
/-! ### spec_BodyOk: function 54 -/
def spec_BodyOk.j0 : Nat → Bool → Int → Int → Int → Int → Int → Int → Int → Int → Int → Int → Int → Int → Option (Bool)
  | 0, _, _, _, _, _, _, _, _, _, _, _, _, _ => none
  | k + 1, jE, c6, c7, c8, c9, cA, cB, aZ, b0, bB, cC, cD, b1 => if jE = true then (some false) else (if bB = 0 then (if (aZ == 0 && (b0 == 0)) = true then (some (b1 == 0)) else (some false)) else (if b1 < 8 then (some true) else (some (aZ == 0 && (b0 == 0)))))
def spec_BodyOk.f (k : Nat) (aG : Int) (aH : Int) (aI : Int) (aJ : Int) (aK : Int) (aL : Int) (aC : Int) (aD : Int) (aF : Int) (aM : Int) (aE : Int) (aB : Int) : Option (Bool) := (spec_l1In.f aG 0 999999999).bind fun b2 => (if b2 = true then ((spec_ShapeOk.f aH aI aJ).bind fun b3 => (if b3 = true then ((spec_l3Place.f aK aL).bind fun b4 => (if b4 = true then ((spec_l6Drive.f aC aD).bind fun b5 => (if b5 = true then ((spec_l1In.f aF 0 1000).bind fun b6 => (if b6 = true then ((spec_l1In.f aM 0 256).bind fun b7 => (if b7 = true then ((spec_l1In.f aE 0 256).bind fun b8 => (if b8 = true then ((spec_l1In.f aB 0 8).bind fun b9 => (spec_BodyOk.j0 k (!b9) aG aH aI aJ aK aL aC aD aF aM aE aB)) else (spec_BodyOk.j0 k true aG aH aI aJ aK aL aC aD aF aM aE aB))) else (spec_BodyOk.j0 k true aG aH aI aJ aK aL aC aD aF aM aE aB))) else (spec_BodyOk.j0 k true aG aH aI aJ aK aL aC aD aF aM aE aB))) else (spec_BodyOk.j0 k true aG aH aI aJ aK aL aC aD aF aM aE aB))) else (spec_BodyOk.j0 k true aG aH aI aJ aK aL aC aD aF aM aE aB))) else (spec_BodyOk.j0 k true aG aH aI aJ aK aL aC aD aF aM aE aB))) else (spec_BodyOk.j0 k true aG aH aI aJ aK aL aC aD aF aM aE aB))
theorem spec_BodyOk.mono_l : ∀ k, (∀ y0 y1 y2 y3 y4 y5 y6 y7 y8 y9 bQ bR bT, LeO (spec_BodyOk.j0 k y0 y1 y2 y3 y4 y5 y6 y7 y8 y9 bQ bR bT) (spec_BodyOk.j0 (k + 1) y0 y1 y2 y3 y4 y5 y6 y7 y8 y9 bQ bR bT))
  | 0 => fun _ _ _ _ _ _ _ _ _ _ _ _ _ r h => by simp [spec_BodyOk.j0] at h
  | k + 1 => by
    have ih0 := spec_BodyOk.mono_l k
    · intro y0 y1 y2 y3 y4 y5 y6 y7 y8 y9 bQ bR bT
      unfold spec_BodyOk.j0
      repeat' first
      | (with_reducible exact ih0 _ _ _ _ _ _ _ _ _ _ _ _ _)
      | (with_reducible exact LeO.refl _)
      | (with_reducible exact LeO.none _)
      | (with_reducible refine LeO.ite ?_ ?_)
      | (with_reducible refine LeO.bind ?_ (fun _ => ?_))
theorem spec_BodyOk.mono : ∀ a0 a1 a2 a3 a4 a5 a6 a7 a8 a9 bU bV k, LeO (spec_BodyOk.f k a0 a1 a2 a3 a4 a5 a6 a7 a8 a9 bU bV) (spec_BodyOk.f (k + 1) a0 a1 a2 a3 a4 a5 a6 a7 a8 a9 bU bV) := by
  intro a0 a1 a2 a3 a4 a5 a6 a7 a8 a9 bU bV k
  have ih0 := spec_BodyOk.mono_l k
  unfold spec_BodyOk.f
  repeat' first
      | (with_reducible exact ih0 _ _ _ _ _ _ _ _ _ _ _ _ _)
      | (with_reducible exact LeO.refl _)
      | (with_reducible exact LeO.none _)
      | (with_reducible refine LeO.ite ?_ ?_)
      | (with_reducible refine LeO.bind ?_ (fun _ => ?_))
set_option maxHeartbeats 8000000 in
set_option maxRecDepth 100000 in
theorem spec_BodyOk.calls (k : Nat) (aG : Int) (aH : Int) (aI : Int) (aJ : Int) (aK : Int) (aL : Int) (aC : Int) (aD : Int) (aF : Int) (aM : Int) (aE : Int) (aB : Int) (r : Bool) (w : World) (h : spec_BodyOk.f k aG aH aI aJ aK aL aC aD aF aM aE aB = some r) :
    Calls Try.prog 54 #[.agg #[.int .i64 aG, .int .i64 aH, .int .i64 aI, .int .i64 aJ, .int .i64 aK, .int .i64 aL, .int .i64 aC, .int .i64 aD, .int .i64 aF, .int .i64 aM, .int .i64 aE, .int .i64 aB]] w fun e w' => e = .returned (.bool r) ∧ Below w.heap.size w w' := by
  have hu41 := Try.underlying41; have hu39 := Try.underlying39; have hu33 := Try.underlying33; have HB := az (Below.refl w.heap.size w); have H : ((spec_l1In.f aG 0 999999999).bind fun b2 => (if b2 = true then ((spec_ShapeOk.f aH aI aJ).bind fun b3 => (if b3 = true then ((spec_l3Place.f aK aL).bind fun b4 => (if b4 = true then ((spec_l6Drive.f aC aD).bind fun b5 => (if b5 = true then ((spec_l1In.f aF 0 1000).bind fun b6 => (if b6 = true then ((spec_l1In.f aM 0 256).bind fun b7 => (if b7 = true then ((spec_l1In.f aE 0 256).bind fun b8 => (if b8 = true then ((spec_l1In.f aB 0 8).bind fun b9 => (spec_BodyOk.j0 k (!b9) aG aH aI aJ aK aL aC aD aF aM aE aB)) else (spec_BodyOk.j0 k true aG aH aI aJ aK aL aC aD aF aM aE aB))) else (spec_BodyOk.j0 k true aG aH aI aJ aK aL aC aD aF aM aE aB))) else (spec_BodyOk.j0 k true aG aH aI aJ aK aL aC aD aF aM aE aB))) else (spec_BodyOk.j0 k true aG aH aI aJ aK aL aC aD aF aM aE aB))) else (spec_BodyOk.j0 k true aG aH aI aJ aK aL aC aD aF aM aE aB))) else (spec_BodyOk.j0 k true aG aH aI aJ aK aL aC aD aF aM aE aB))) else (spec_BodyOk.j0 k true aG aH aI aJ aK aL aC aD aF aM aE aB))) = some r := h; clear h; have bW := az H; clear H; go_enter Try.func54, Try.ntmps54
  go_upto_region 1 with (first | ((with_reducible refine gate_dst (N := 1) rfl ?_); refine bx (N := 1) (cs := #[.int .i64 aG, .int .i64 aH, .int .i64 aI, .int .i64 aJ, .int .i64 aK, .int .i64 aL, .int .i64 aC, .int .i64 aD, .int .i64 aF, .int .i64 aM, .int .i64 aE, .int .i64 aB]) (t := 41) ?_; intro bA hg w3 hbox hb; have aA := az hbox; have bX := az ((gE hg (qL HB) : w.heap.size ≤ bA)); have jF := bX; replace HB := bS HB hb; clear hb hbox hg))
  (try simp only [Act.put, List.setIfInBounds_toArray, List.set_cons_zero, List.set_cons_succ])
  go_cut [48] (fun jG wc => ∃ (kq : Nat) (aQ : Bool), jG = .bool aQ ∧ Aside0 (spec_BodyOk.j0 kq aQ aG aH aI aJ aK aL aC aD aF aM aE aB = some r) ∧ Aside0 (kq ≤ k) ∧ Aside0 (wc.heap[bA]? = some (.cells #[.int .i64 aG, .int .i64 aH, .int .i64 aI, .int .i64 aJ, .int .i64 aK, .int .i64 aL, .int .i64 aC, .int .i64 aD, .int .i64 aF, .int .i64 aM, .int .i64 aE, .int .i64 aB] 41 (0, 0))) ∧ Aside0 (Below w.heap.size w wc))
  case first =>
    have H := bW.out; clear bW; replace H := qH H; obtain ⟨bY, bC, H⟩ := H
    try dsimp only at H
    by_cases aR : bY = true; subst aR; replace H := qT H; replace H := qH H; obtain ⟨bZ, bD, H⟩ := H
    try dsimp only at H
    by_cases aS : bZ = true; subst aS; replace H := qT H; replace H := qH H; obtain ⟨c0, bE, H⟩ := H
    try dsimp only at H
    by_cases aT : c0 = true; subst aT; replace H := qT H; replace H := qH H; obtain ⟨c1, bF, H⟩ := H
    try dsimp only at H
    by_cases aU : c1 = true; subst aU; replace H := qT H; replace H := qH H; obtain ⟨c2, bG, H⟩ := H
    try dsimp only at H
    by_cases aV : c2 = true; subst aV; replace H := qT H; replace H := qH H; obtain ⟨c3, bH, H⟩ := H
    try dsimp only at H
    by_cases aW : c3 = true; subst aW; replace H := qT H; replace H := qH H; obtain ⟨c4, bI, H⟩ := H
    try dsimp only at H
    by_cases aX : c4 = true; subst aX; replace H := qT H; replace H := qH H; obtain ⟨bJ, c5, H⟩ := H
    try dsimp only at H
    have H' := az H; clear H; refine ?L1; rotate_left; replace aX := Bool.eq_false_iff.mpr aX; subst aX; replace H := qU H; have H' := az H; clear H; refine ?L2
    rotate_right
    rotate_left 2
    replace aW := Bool.eq_false_iff.mpr aW; subst aW; replace H := qU H; have H' := az H; clear H; refine ?L3
    rotate_right 2
    rotate_left 3
    replace aV := Bool.eq_false_iff.mpr aV; subst aV; replace H := qU H; have H' := az H; clear H; refine ?L4
    rotate_right 3
    rotate_left 4
    replace aU := Bool.eq_false_iff.mpr aU; subst aU; replace H := qU H; have H' := az H; clear H; refine ?L5
    rotate_right 4
    rotate_left 5
    replace aT := Bool.eq_false_iff.mpr aT; subst aT; replace H := qU H; have H' := az H; clear H; refine ?L6
    rotate_right 5
    rotate_left 6
    replace aS := Bool.eq_false_iff.mpr aS; subst aS; replace H := qU H; have H' := az H; clear H; refine ?L7
    rotate_right 6
    rotate_left 7
    replace aR := Bool.eq_false_iff.mpr aR; subst aR; replace H := qU H; have H' := az H; clear H; refine ?L8
    rotate_right 7
    case' L1 | L2 | L3 | L4 | L5 | L6 | L7 | L8 =>
      obtain ⟨dG, dH, dI, dJ, dK, dL, dM, dN, dO, dP, cE, cF⟩ := cz12 aA.out; obtain ⟨dQ, dR, dS, dT, dU, dV, dW, dX, dY, dZ, cG, cH⟩ := fz12 aA.out
    case' L1 | L2 | L3 | L4 | L5 | L6 | L7 =>
      go_wp2_with (first | ((with_reducible refine gate_callee (f := 77) rfl ?_); refine gl (some 5) Try.func77 #[.int .i64 aG, .int .i64 0, .int .i64 999999999] ?_; (with_reducible refine (spec_l1In.calls aG 0 999999999 true _ bC.out).mono ?_); rintro e w' ⟨rfl, ⟨nd, rfl⟩⟩; refine ⟨_, rfl, ?_⟩) | (go_at_call 78; (with_reducible refine (spec_ShapeOk.calls aH aI aJ true _ bD.out).mono ?_); rintro e jH ⟨rfl, hb⟩; replace aA := kBB aA hb; replace HB := bS HB hb; clear hb; obtain ⟨e0, e1, e2, e3, e4, e5, e6, e7, e8, e9, cI, cJ⟩ := cz12 aA.out; obtain ⟨eA, eB, eC, eD, eE, eF, eG, eH, eI, eJ, cK, cL⟩ := fz12 aA.out) | (go_at_call 79; (with_reducible refine (spec_l3Place.calls aK aL true _ bE.out).mono ?_); rintro e jI ⟨rfl, hb⟩; replace aA := kBB aA hb; replace HB := bS HB hb; clear hb; obtain ⟨eK, eL, eM, eN, eO, eP, eQ, eR, eS, eT, cM, cN⟩ := cz12 aA.out; obtain ⟨eU, eV, eW, eX, eY, eZ, fA, fB, fC, fD, cO, cP⟩ := fz12 aA.out) | (go_at_call 80; (with_reducible refine (spec_l6Drive.calls aC aD true _ bF.out).mono ?_); rintro e jJ ⟨rfl, hb⟩; replace aA := kBB aA hb; replace HB := bS HB hb; clear hb; obtain ⟨fE, fG, fH, fI, fJ, fK, fL, fM, fN, fO, cQ, cR⟩ := cz12 aA.out; obtain ⟨fP, fQ, fR, fS, fT, fU, fV, fW, fX, fY, cS, cT⟩ := fz12 aA.out) | (go_at_call 77; (with_reducible refine (spec_l1In.calls aF 0 1000 true _ bG.out).mono ?_); rintro e w' ⟨rfl, ⟨nd, rfl⟩⟩) | (go_at_call 77; (with_reducible refine (spec_l1In.calls aM 0 256 true _ bH.out).mono ?_); rintro e w' ⟨rfl, ⟨nd, rfl⟩⟩) | (go_at_call 77; (with_reducible refine (spec_l1In.calls aE 0 256 true _ bI.out).mono ?_); rintro e w' ⟨rfl, ⟨nd, rfl⟩⟩) | (go_at_call 77; (with_reducible refine (spec_l1In.calls aB 0 8 bJ _ c5.out).mono ?_); rintro e w' ⟨rfl, ⟨nd, rfl⟩⟩) | (go_at_call 77; (with_reducible refine (spec_l1In.calls aE 0 256 false _ bI.out).mono ?_); rintro e w' ⟨rfl, ⟨nd, rfl⟩⟩) | (go_at_call 77; (with_reducible refine (spec_l1In.calls aM 0 256 false _ bH.out).mono ?_); rintro e w' ⟨rfl, ⟨nd, rfl⟩⟩) | (go_at_call 77; (with_reducible refine (spec_l1In.calls aF 0 1000 false _ bG.out).mono ?_); rintro e w' ⟨rfl, ⟨nd, rfl⟩⟩) | (go_at_call 80; (with_reducible refine (spec_l6Drive.calls aC aD false _ bF.out).mono ?_); rintro e jK ⟨rfl, hb⟩; replace aA := kBB aA hb; replace HB := bS HB hb; clear hb) | (go_at_call 79; (with_reducible refine (spec_l3Place.calls aK aL false _ bE.out).mono ?_); rintro e jL ⟨rfl, hb⟩; replace aA := kBB aA hb; replace HB := bS HB hb; clear hb) | (go_at_call 78; (with_reducible refine (spec_ShapeOk.calls aH aI aJ false _ bD.out).mono ?_); rintro e jM ⟨rfl, hb⟩; replace aA := kBB aA hb; replace HB := bS HB hb; clear hb))
      go_meet
    case L1 =>
      exact ⟨_, (!bJ), qG, H', ⟨qO⟩, ⟨qF aA⟩, ⟨qL HB⟩⟩
    case' L2 | L3 | L4 | L5 | L6 | L7 =>
      exact ⟨_, (true), qG, H', ⟨qO⟩, ⟨qF aA⟩, ⟨qL HB⟩⟩
    case L8 =>
      go_wp2_with (first | ((with_reducible refine gate_callee (f := 77) rfl ?_); refine gl (some 5) Try.func77 #[.int .i64 aG, .int .i64 0, .int .i64 999999999] ?_; (with_reducible refine (spec_l1In.calls aG 0 999999999 false _ bC.out).mono ?_); rintro e w' ⟨rfl, ⟨nd, rfl⟩⟩; refine ⟨_, rfl, ?_⟩))
      go_meet
      exact ⟨_, (true), qG, H', ⟨qO⟩, ⟨qF aA⟩, ⟨qL HB⟩⟩
  case rest =>
    clear bW; obtain ⟨kq, aQ, rfl, HA, jN, aA, HB⟩ := hcut
    cases kq with
    | zero => exact absurd HA.out (by simp [spec_BodyOk.j0])
    | succ jO => ?_
    have H := HA.out; clear HA; simp only [spec_BodyOk.j0] at H; by_cases aY : aQ = true; subst aY; replace H := qT H; obtain rfl := Option.some.inj H; refine ?L9; rotate_left; replace aY := Bool.eq_false_iff.mpr aY; subst aY; replace H := qU H; by_cases aO : aF = 0; rw [if_pos aO] at H; have bK : (aF == 0) = true := beq_iff_eq.mpr aO; have bL : (aF != 0) = false := bne_eq_false_iff_eq.mpr aO; clear aO; by_cases aN : (aC == 0 && (aD == 0)) = true; rw [if_pos aN] at H; have bM : (aC == 0 && (aD == 0)) = true := aN; refine ?L10; rotate_left; rw [if_neg aN] at H
    have bM : (aC == 0 && (aD == 0)) = false := by simpa using aN
    refine ?L11
    rotate_right
    rotate_left 2
    rw [if_neg aO] at H; have bK : (aF == 0) = false := beq_eq_false_iff_ne.mpr aO; have bL : (aF != 0) = true := bne_iff_ne.mpr aO; by_cases aP : aB < 8; rw [if_pos aP] at H; have bN : decide (aB < 8) = true := decide_eq_true aP; clear aP; obtain rfl := Option.some.inj H; refine ?L12; rotate_left; rw [if_neg aP] at H; have bN : decide (aB < 8) = false := decide_eq_false aP; clear aP; obtain rfl := Option.some.inj H; refine ?L13
    rotate_right
    rotate_right 2
    rotate_right
    case L9 =>
      go_wp2
      go_ret
      exact ⟨qE, qL HB⟩
    case L10 =>
      (try (have bO : decide (aC = 0 && (aD == 0)) = true := by simpa using aN)); (try (have bP : (aC == 0 && (aD == 0)) = true := by simpa using aN)); clear aN; obtain rfl := Option.some.inj H; obtain ⟨fZ, g0, g1, g2, g3, g4, g5, g6, g7, g8, cU, cV⟩ := cz12 aA.out; obtain ⟨g9, gA, gB, gC, gD, gF, gG, gH, gI, gJ, cW, cX⟩ := fz12 aA.out; go_wp2
      go_ret
      exact ⟨qE, qL HB⟩
    case L11 =>
      (try (have bO : decide (aC = 0 && (aD == 0)) = false := by simpa using aN)); (try (have bP : (aC == 0 && (aD == 0)) = false := by simpa using aN)); (try (have gL : ¬ (aC = 0 && (aD == 0)) := by simpa using aN)); clear aN; obtain rfl := Option.some.inj H; obtain ⟨gM, gN, gO, gP, gQ, gR, gS, gT, gU, gV, cY, cZ⟩ := cz12 aA.out; obtain ⟨gW, gX, gY, gZ, hA, hD, hE, hF, hG, hH, dA, dB⟩ := fz12 aA.out; go_wp2
      go_ret
      exact ⟨qE, qL HB⟩
    case' L12 | L13 =>
      obtain ⟨hI, hJ, hK, hL, hM, hO, hP, hQ, hR, hS, dC, dD⟩ := cz12 aA.out; obtain ⟨hU, hV, hW, hX, hY, hZ, jA, jB, jC, jD, dE, dF⟩ := fz12 aA.out; go_wp2
      go_ret
    case L12 =>
      exact ⟨qE, qL HB⟩
    case L13 =>
      exact ⟨qE, qL HB⟩
      
end Go.Proofs.Ytdngjedhbnoaoaa.PBig
