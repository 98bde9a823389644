/- What these functions compute, each walked once: impl_BodiesOk, impl_Vec_minus, impl_Vec_square, impl_FixClamp, impl_root, impl_VecLen, impl_VecUnit, impl_rounds, impl_Box_meets; for all arguments and worlds, under the conditions that each theorem names. -/
import Derived.Test.YtdngjedhbnoaoaaSq
import Derived.Test.YtdngjedhbnoaoaaPBigx1200
namespace Go.Proofs.Ytdngjedhbnoaoaa.PBig
open Go.RowKit Go.Proofs.YtdngjedhbnoaoaaW.PrintWords Go.Proofs.YtdngjedhbnoaoaaW.PrintLast Go.Proofs.YtdngjedhbnoaoaaW.PrintMore
attribute [local go_sem] max2_int min2_int max_two min_two max_three min_three max_four min_four   -- for this text's walks alone
set_option linter.unusedVariables false
set_option linter.unusedSimpArgs false

/-! ### impl_BodiesOk: function 27 -/
def impl_BodiesOk.l0 : Nat → List (S41) → List (S41) → Int → Int → Option (Bool)
  | 0, _, _, _, _ => none
  | k + 1, x0, x5, x6, x7 => if x7 < x6 then (if 0 ≤ x7 then (if x7 < (x5.length : Int) then ((impl_BodyOk.f k ((rd_T41 x5 x7).f0) ((rd_T41 x5 x7).f1.f0) ((rd_T41 x5 x7).f1.f1) ((rd_T41 x5 x7).f1.f2) ((rd_T41 x5 x7).f2.f0) ((rd_T41 x5 x7).f2.f1) ((rd_T41 x5 x7).f3.f0) ((rd_T41 x5 x7).f3.f1) ((rd_T41 x5 x7).f4) ((rd_T41 x5 x7).f5) ((rd_T41 x5 x7).f6) ((rd_T41 x5 x7).f7)).bind fun bP => (if bP = true then (if x7 > 0 then (if 0 ≤ (wrap64 (x7 - 1)) then (if (wrap64 (x7 - 1)) < (x0.length : Int) then (if ((rd_T41 x5 x7).f0) ≤ ((rd_T41 x0 (wrap64 (x7 - 1))).f0) then (some false) else (impl_BodiesOk.l0 k x0 x5 x6 (wrap64 (x7 + 1)))) else (none)) else (none)) else (impl_BodiesOk.l0 k x0 x5 x6 (wrap64 (x7 + 1)))) else (some false))) else (none)) else (none)) else (some (decide ((x0.length : Int) ≤ 12)))
def impl_BodiesOk.f (k : Nat) (l0 : List (S41)) : Option (Bool) := impl_BodiesOk.l0 k l0 l0 (l0.length : Int) 0
theorem impl_BodiesOk.mono_l : ∀ k, (∀ y0 y1 y2 y3, LeO (impl_BodiesOk.l0 k y0 y1 y2 y3) (impl_BodiesOk.l0 (k + 1) y0 y1 y2 y3))
  | 0 => fun _ _ _ _ r h => by simp [impl_BodiesOk.l0] at h
  | k + 1 => by
    have ih0 := impl_BodiesOk.mono_l k
    · intro y0 y1 y2 y3
      unfold impl_BodiesOk.l0
      repeat' first
      | (with_reducible exact ih0 _ _ _ _)
      | (with_reducible exact impl_BodyOk.mono _ _ _ _ _ _ _ _ _ _ _ _ _)
      | (with_reducible exact LeO.refl _)
      | (with_reducible exact LeO.none _)
      | (with_reducible refine LeO.ite ?_ ?_)
      | (with_reducible refine LeO.bind ?_ (fun _ => ?_))
theorem impl_BodiesOk.mono : ∀ a0 k, LeO (impl_BodiesOk.f k a0) (impl_BodiesOk.f (k + 1) a0) := by
  intro a0 k
  have ih0 := impl_BodiesOk.mono_l k
  unfold impl_BodiesOk.f
  repeat' first
      | (with_reducible exact ih0 _ _ _ _)
      | (with_reducible exact impl_BodyOk.mono _ _ _ _ _ _ _ _ _ _ _ _ _)
      | (with_reducible exact LeO.refl _)
      | (with_reducible exact LeO.none _)
      | (with_reducible refine LeO.ite ?_ ?_)
      | (with_reducible refine LeO.bind ?_ (fun _ => ?_))
def impl_BodiesOk.T4 : Bool × List (List Nat × List Nat) := (true, [([], []), ([0], [0]), ([1], [1]), ([2, 1], [2]), ([3], [3]), ([4, 3], [3, 4]), ([5, 3, 3], [3, 5]), ([6], [6]), ([7, 6], [6, 7]), ([6], [6]), ([6], [6]), ([10, 6], [6, 10]), ([9, 11, 6], [6, 9, 11]), ([12, 6], [6, 12]), ([13, 6], [6, 13]), ([8, 14, 6], [6, 8, 14]), ([6, 15, 3], [3, 6, 15]), ([3, 16], [3, 16])])
def impl_BodiesOk.B4 : List Nat := [0, 1, 3, 7, 15, 31, 63, 127, 255, 127, 127, 1151, 3711, 7807, 15999, 32767, 65535, 131071]
theorem impl_BodiesOk.tab4 : rtab .any (opsOf Try.f27 4) = impl_BodiesOk.T4 := by kernel_rfl
theorem impl_BodiesOk.bits4 : waitsOk impl_BodiesOk.T4.2 impl_BodiesOk.B4 = true := by kernel_rfl
set_option maxHeartbeats 8000000 in
set_option maxRecDepth 100000 in
theorem impl_BodiesOk.calls (k : Nat) (A0 : Option Addr) (c0 : Nat) (l0 : List (S41)) (r : Bool) (w : World) (hr0 : Kd.C k41 w A0 l0.length l0) (hc0 : l0.length ≤ c0) (h : impl_BodiesOk.f k l0 = some r) :
    Calls Try.prog 27 #[.slice A0 l0.length c0] w fun e w' => e = .returned (.bool r) ∧ Below w.heap.size w w' := by
  have hu41 := Try.underlying41; have HR0 := az hr0; have cN := az hc0; clear hr0 hc0; have HB := az (Below.refl w.heap.size w); have H : (impl_BodiesOk.l0 k l0 l0 (l0.length : Int) 0) = some r := h; clear h; have H' := az H; clear H; go_enter Try.func27, Try.ntmps27; go_wp2
  go_loopg [7] k (fun kq v7 w' => ∃ (a1 : Int), v7 = .int .i64 a1 ∧ Aside0 (impl_BodiesOk.l0 kq l0 l0 (l0.length : Int) a1 = some r) ∧ Aside0 (kq ≤ k) ∧ Aside0 (Below w.heap.size w w'))
  case atStart => exact ⟨(0), qG, H', ⟨Nat.le_refl _⟩, ⟨qL HB⟩⟩
  case round =>
    clear H'; obtain ⟨a1, rfl, HA, bG, HB⟩ := hrel
    cases gk with
    | zero => exact absurd HA.out (by simp [impl_BodiesOk.l0])
    | succ k1 => ?_
    have H := HA.out; clear HA; simp only [impl_BodiesOk.l0] at H; by_cases a5 : a1 < (l0.length : Int); rw [if_pos a5] at H; have aQ : decide (a1 < (l0.length : Int)) = true := decide_eq_true a5; clear a5; replace H := qif H; obtain ⟨bH, H⟩ := H; have bX : decide (0 ≤ a1) = true := decide_eq_true bH; clear bH; replace H := qif H; obtain ⟨a5, H⟩ := H; have aQ : decide (a1 < (l0.length : Int)) = true := decide_eq_true a5; clear a5; replace H := qH H; obtain ⟨bM, aK, H⟩ := H
    try dsimp only at H
    by_cases aL : bM = true; subst aL; replace H := qT H; by_cases a8 : a1 > 0; rw [if_pos a8] at H; have bK : decide (0 < a1) = true := decide_eq_true a8; clear a8; obtain ⟨ji8, hji8⟩ : ∃ j_ : Int, (wrap64 (a1 - 1)) = j_ := ⟨_, rfl⟩
    replace H : (if 0 ≤ (ji8) then (if (ji8) < (l0.length : Int) then (if ((rd_T41 l0 a1).f0) ≤ ((rd_T41 l0 (ji8)).f0) then (some false) else (impl_BodiesOk.l0 k1 l0 l0 (l0.length : Int) (wrap64 (a1 + 1)))) else (none)) else (none)) = some r := by first | (rw [hji8] at H; exact H) | (simp only [hji8] at H ⊢; exact H)
    (try rw [hji8] at aK); have hji8w : (IntKind.i64.wrap (a1 - 1)) = ji8 := (i64_w _).trans hji8; replace H := qif H; obtain ⟨bI, H⟩ := H; have bY : decide (0 ≤ (ji8)) = true := decide_eq_true bI; clear bI; replace H := qif H; obtain ⟨bJ, H⟩ := H; have bZ : decide ((ji8) < (l0.length : Int)) = true := decide_eq_true bJ; clear bJ; by_cases a9 : ((rd_T41 l0 a1).f0) ≤ ((rd_T41 l0 (ji8)).f0); rw [if_pos a9] at H; have bL : decide (((rd_T41 l0 a1).f0) ≤ ((rd_T41 l0 (ji8)).f0)) = true := decide_eq_true a9; clear a9; obtain rfl := Option.some.inj H; refine ?L1; rotate_left; rw [if_neg a9] at H; have bL : decide (((rd_T41 l0 a1).f0) ≤ ((rd_T41 l0 (ji8)).f0)) = false := decide_eq_false a9; clear a9; have H' := az H; clear H; refine ?L2
    rotate_right
    rotate_left 2
    rw [if_neg a8] at H; have bK : decide (0 < a1) = false := decide_eq_false a8; clear a8; have H' := az H; clear H; refine ?L3
    rotate_right 2
    rotate_left 3
    replace aL := Bool.eq_false_iff.mpr aL; subst aL; replace H := qU H; obtain rfl := Option.some.inj H; refine ?L4
    rotate_right 3
    rotate_left 4
    rw [if_neg a5] at H; have aQ : decide (a1 < (l0.length : Int)) = false := decide_eq_false a5; clear a5; obtain rfl := Option.some.inj H; refine ?L5
    rotate_right 4
    case' L1 | L2 | L3 | L4 =>
      have bC : 0 ≤ (a1 : Int) := qD; have bD : a1 < (l0.length : Int) := qD; obtain ⟨a4, bQ, aR, aS, aT, aU, aV, aW, aX, aY, aZ, b0, aM, aN⟩ := at_T41 HR0.out a1 bC bD; cases bQ; obtain ⟨aR, aS, aT, aU, aV, aW, aX, aY, aZ, b0, aM, aN⟩ := hB12 HB aR aS aT aU aV aW aX aY aZ b0 aM aN; replace bC := eq_true bC; replace bD := eq_true bD
      try go_wp2_with (first | ((with_reducible refine gate_dst (N := 4) rfl ?_); refine bz12 (N := 4) (t := 41) ?_; intro a3 hg cL hbox hb; have a2 := az hbox; have bN := az ((gE hg (qL HB) : w.heap.size ≤ a3)); have cM := bN; replace HB := bS HB hb; clear hb hbox hg; obtain ⟨c1, c2, c3, c4, c5, c6, c7, c8, c9, cA, bR, bT⟩ := cz12 a2.out; obtain ⟨cB, cC, cD, cE, cF, cG, cH, cI, cJ, cK, bU, bV⟩ := fz12 a2.out))
      obtain ⟨bB, hw_⟩ : ∃ x, x = ((((((((((((cL.setCell ⟨a3, 0, none⟩ (.int .i64 ((rd_T41 l0 a1).f0))).setCell ⟨a3, 1, none⟩ (.int .i64 ((rd_T41 l0 a1).f1.f0))).setCell ⟨a3, 2, none⟩ (.int .i64 ((rd_T41 l0 a1).f1.f1))).setCell ⟨a3, 3, none⟩ (.int .i64 ((rd_T41 l0 a1).f1.f2))).setCell ⟨a3, 4, none⟩ (.int .i64 ((rd_T41 l0 a1).f2.f0))).setCell ⟨a3, 5, none⟩ (.int .i64 ((rd_T41 l0 a1).f2.f1))).setCell ⟨a3, 6, none⟩ (.int .i64 ((rd_T41 l0 a1).f3.f0))).setCell ⟨a3, 7, none⟩ (.int .i64 ((rd_T41 l0 a1).f3.f1))).setCell ⟨a3, 8, none⟩ (.int .i64 ((rd_T41 l0 a1).f4))).setCell ⟨a3, 9, none⟩ (.int .i64 ((rd_T41 l0 a1).f5))).setCell ⟨a3, 10, none⟩ (.int .i64 ((rd_T41 l0 a1).f6))).setCell ⟨a3, 11, none⟩ (.int .i64 ((rd_T41 l0 a1).f7))) := ⟨_, rfl⟩; replace a2 : Aside0 (bB.heap[a3]? = some (.cells #[.int .i64 ((rd_T41 l0 a1).f0), .int .i64 ((rd_T41 l0 a1).f1.f0), .int .i64 ((rd_T41 l0 a1).f1.f1), .int .i64 ((rd_T41 l0 a1).f1.f2), .int .i64 ((rd_T41 l0 a1).f2.f0), .int .i64 ((rd_T41 l0 a1).f2.f1), .int .i64 ((rd_T41 l0 a1).f3.f0), .int .i64 ((rd_T41 l0 a1).f3.f1), .int .i64 ((rd_T41 l0 a1).f4), .int .i64 ((rd_T41 l0 a1).f5), .int .i64 ((rd_T41 l0 a1).f6), .int .i64 ((rd_T41 l0 a1).f7)] 41 (0, 0))) := ⟨by rw [hw_]; exact qP a2⟩; replace HB : Aside0 (Below w.heap.size w bB) := ⟨by rw [hw_]; exact qL HB⟩; rw [← hw_]; clear hw_; replace a2 := az (blk_drew a2.out); replace HB := az (below_drew1 HB.out)
    case' L1 | L2 =>
      have bE : 0 ≤ ((ji8) : Int) := qD; have bF : (ji8) < (l0.length : Int) := qD; obtain ⟨bO, bW, aA, aB, aC, aD, aE, aF, aG, aH, aI, aJ, a6, a7⟩ := at_T41 HR0.out (ji8) bE bF; have aO := a7; have aP := a6; have b1 := aJ; have b2 := aI; have b3 := aH; have b4 := aG; have b5 := aF; have b6 := aE; have b7 := aD; have b8 := aC; have b9 := aB; have bA := aA; obtain rfl : a4 = bO := (by injection bW); obtain ⟨aA, aB, aC, aD, aE, aF, aG, aH, aI, aJ, a6, a7⟩ := hB12 HB aA aB aC aD aE aF aG aH aI aJ a6 a7; replace bE := eq_true bE; replace bF := eq_true bF; refine start_ (n := 18) (S := fun w' => w'.cell? ⟨a3, 0, none⟩ = some (.int .i64 ((rd_T41 l0 a1).f0)) ∧ w'.cell? ⟨a3, 1, none⟩ = some (.int .i64 ((rd_T41 l0 a1).f1.f0)) ∧ w'.cell? ⟨a3, 2, none⟩ = some (.int .i64 ((rd_T41 l0 a1).f1.f1)) ∧ w'.cell? ⟨a3, 3, none⟩ = some (.int .i64 ((rd_T41 l0 a1).f1.f2)) ∧ w'.cell? ⟨a3, 4, none⟩ = some (.int .i64 ((rd_T41 l0 a1).f2.f0)) ∧ w'.cell? ⟨a3, 5, none⟩ = some (.int .i64 ((rd_T41 l0 a1).f2.f1)) ∧ w'.cell? ⟨a3, 6, none⟩ = some (.int .i64 ((rd_T41 l0 a1).f3.f0)) ∧ w'.cell? ⟨a3, 7, none⟩ = some (.int .i64 ((rd_T41 l0 a1).f3.f1)) ∧ w'.cell? ⟨a3, 8, none⟩ = some (.int .i64 ((rd_T41 l0 a1).f4)) ∧ w'.cell? ⟨a3, 9, none⟩ = some (.int .i64 ((rd_T41 l0 a1).f5)) ∧ w'.cell? ⟨a3, 10, none⟩ = some (.int .i64 ((rd_T41 l0 a1).f6)) ∧ w'.cell? ⟨a3, 11, none⟩ = some (.int .i64 ((rd_T41 l0 a1).f7)) ∧ w'.cell? (a4.add (((ji8)).toNat * 12)) = some (.int .i64 ((rd_T41 l0 (ji8)).f0)) ∧ w'.cell? ⟨(a4.add (((ji8)).toNat * 12)).block, (a4.add (((ji8)).toNat * 12)).off + 1, none⟩ = some (.int .i64 ((rd_T41 l0 (ji8)).f1.f0)) ∧ w'.cell? ⟨(a4.add (((ji8)).toNat * 12)).block, (a4.add (((ji8)).toNat * 12)).off + 2, none⟩ = some (.int .i64 ((rd_T41 l0 (ji8)).f1.f1)) ∧ w'.cell? ⟨(a4.add (((ji8)).toNat * 12)).block, (a4.add (((ji8)).toNat * 12)).off + 3, none⟩ = some (.int .i64 ((rd_T41 l0 (ji8)).f1.f2)) ∧ w'.cell? ⟨(a4.add (((ji8)).toNat * 12)).block, (a4.add (((ji8)).toNat * 12)).off + 4, none⟩ = some (.int .i64 ((rd_T41 l0 (ji8)).f2.f0)) ∧ w'.cell? ⟨(a4.add (((ji8)).toNat * 12)).block, (a4.add (((ji8)).toNat * 12)).off + 5, none⟩ = some (.int .i64 ((rd_T41 l0 (ji8)).f2.f1)) ∧ w'.cell? ⟨(a4.add (((ji8)).toNat * 12)).block, (a4.add (((ji8)).toNat * 12)).off + 6, none⟩ = some (.int .i64 ((rd_T41 l0 (ji8)).f3.f0)) ∧ w'.cell? ⟨(a4.add (((ji8)).toNat * 12)).block, (a4.add (((ji8)).toNat * 12)).off + 7, none⟩ = some (.int .i64 ((rd_T41 l0 (ji8)).f3.f1)) ∧ w'.cell? ⟨(a4.add (((ji8)).toNat * 12)).block, (a4.add (((ji8)).toNat * 12)).off + 8, none⟩ = some (.int .i64 ((rd_T41 l0 (ji8)).f4)) ∧ w'.cell? ⟨(a4.add (((ji8)).toNat * 12)).block, (a4.add (((ji8)).toNat * 12)).off + 9, none⟩ = some (.int .i64 ((rd_T41 l0 (ji8)).f5)) ∧ w'.cell? ⟨(a4.add (((ji8)).toNat * 12)).block, (a4.add (((ji8)).toNat * 12)).off + 10, none⟩ = some (.int .i64 ((rd_T41 l0 (ji8)).f6)) ∧ w'.cell? ⟨(a4.add (((ji8)).toNat * 12)).block, (a4.add (((ji8)).toNat * 12)).off + 11, none⟩ = some (.int .i64 ((rd_T41 l0 (ji8)).f7))) (ds := []) #[false, false, false, false, false, false, false, false, false, false, false, false, false, false, false, false, false, false] (by kernel_rfl) rfl rfl ⟨bc a2 0, bc a2 1, bc a2 2, bc a2 3, bc a2 4, bc a2 5, bc a2 6, bc a2 7, bc a2 8, bc a2 9, bc a2 10, bc a2 11, (hB HB bA), (hB HB b9), (hB HB b8), (hB HB b7), (hB HB b6), (hB HB b5), (hB HB b4), (hB HB b3), (hB HB b2), (hB HB b1), (hB HB aP), (hB HB aO)⟩ (fun hHeld => ?_); refine with_tabW impl_BodiesOk.tab4 impl_BodiesOk.bits4 (fun HT_ HW_ => ?_)
      generalize bB.drew = cO at a2 HB aA aB a6 a7 aC aD aE aF aG aH aI aJ hHeld ⊢; refine tk24 0 (some 12) (fl 18 1) HT_ HW_ hHeld ?_; refine on 1 (some 13) (fl 18 3) HT_ (fun K hK => ?_); refine go1 Try.func58 #[.agg #[.int .i64 ((rd_T41 l0 a1).f0), .int .i64 ((rd_T41 l0 a1).f1.f0), .int .i64 ((rd_T41 l0 a1).f1.f1), .int .i64 ((rd_T41 l0 a1).f1.f2), .int .i64 ((rd_T41 l0 a1).f2.f0), .int .i64 ((rd_T41 l0 a1).f2.f1), .int .i64 ((rd_T41 l0 a1).f3.f0), .int .i64 ((rd_T41 l0 a1).f3.f1), .int .i64 ((rd_T41 l0 a1).f4), .int .i64 ((rd_T41 l0 a1).f5), .int .i64 ((rd_T41 l0 a1).f6), .int .i64 ((rd_T41 l0 a1).f7)]] ?_
      with_reducible refine (impl_BodyOk.calls k1 ((rd_T41 l0 a1).f0) ((rd_T41 l0 a1).f1.f0) ((rd_T41 l0 a1).f1.f1) ((rd_T41 l0 a1).f1.f2) ((rd_T41 l0 a1).f2.f0) ((rd_T41 l0 a1).f2.f1) ((rd_T41 l0 a1).f3.f0) ((rd_T41 l0 a1).f3.f1) ((rd_T41 l0 a1).f4) ((rd_T41 l0 a1).f5) ((rd_T41 l0 a1).f6) ((rd_T41 l0 a1).f7) true _ aK.out).mono ?_
      rintro e cP ⟨rfl, hb⟩; refine ⟨_, rfl, ?_⟩; replace a2 := kBB a2 hb; replace HB := bS HB hb; clear hb; refine hK.out _ _ ⟨bc a2 0, bc a2 1, bc a2 2, bc a2 3, bc a2 4, bc a2 5, bc a2 6, bc a2 7, bc a2 8, bc a2 9, bc a2 10, bc a2 11, (hB HB bA), (hB HB b9), (hB HB b8), (hB HB b7), (hB HB b6), (hB HB b5), (hB HB b4), (hB HB b3), (hB HB b2), (hB HB b1), (hB HB aP), (hB HB aO)⟩ (fun hHeld => ?_); clear hK K; refine nm (some 13) ?_; refine pu 2 (some 14) (fl 18 7) HT_ ?_; refine pu 3 (some 15) (fl 18 15) HT_ ?_; refine pu 4 (some 16) (fl 18 31) HT_ ?_; refine pu 5 (some 17) (fl 18 63) HT_ ?_; refine pu 6 (some 18) (fl 18 127) HT_ ?_; refine pu 7 (some 19) (fl 18 255) HT_ ?_; refine pu 9 (some 21) (fl 18 767) HT_ ?_; refine pu 10 (some 22) (fl 18 1791) HT_ ?_; refine pu 11 (some 23) (fl 18 3839) HT_ ?_; refine pu 12 (some 24) (fl 18 7935) HT_ ?_; refine pu 13 (some 25) (fl 18 16127) HT_ ?_; refine tk24 8 (some 20) (fl 18 16383) HT_ HW_ hHeld ?_; refine tk24 14 (some 26) (fl 18 32767) HT_ HW_ hHeld ?_; refine pu 15 (some 27) (fl 18 65535) HT_ ?_; refine pu 16 (some 28) (fl 18 131071) HT_ ?_; refine pu 17 (some 29) (fl 18 262143) HT_ ?_; refine done_ (done_of HT_.out (by kernel_rfl)) ?_
      try go_wp2
    case L1 =>
      go_ret
      exact ⟨by first | rfl | (simp [errW_none, errW_some] <;> rfl) | (simp only [← hji8]; first | rfl | (simp [errW_none, errW_some] <;> rfl)) | (simp [*, errW_none, errW_some] <;> rfl), qL HB⟩
    case L2 =>
      go_roundg k1
      case measure => have := bG.out; omega
      exact ⟨(wrap64 (a1 + 1)), qG, H', ⟨by have := bG.out; omega⟩, ⟨qL HB⟩⟩
    case' L3 | L4 =>
      refine start_ (n := 18) (S := fun w' => w'.cell? ⟨a3, 0, none⟩ = some (.int .i64 ((rd_T41 l0 a1).f0)) ∧ w'.cell? ⟨a3, 1, none⟩ = some (.int .i64 ((rd_T41 l0 a1).f1.f0)) ∧ w'.cell? ⟨a3, 2, none⟩ = some (.int .i64 ((rd_T41 l0 a1).f1.f1)) ∧ w'.cell? ⟨a3, 3, none⟩ = some (.int .i64 ((rd_T41 l0 a1).f1.f2)) ∧ w'.cell? ⟨a3, 4, none⟩ = some (.int .i64 ((rd_T41 l0 a1).f2.f0)) ∧ w'.cell? ⟨a3, 5, none⟩ = some (.int .i64 ((rd_T41 l0 a1).f2.f1)) ∧ w'.cell? ⟨a3, 6, none⟩ = some (.int .i64 ((rd_T41 l0 a1).f3.f0)) ∧ w'.cell? ⟨a3, 7, none⟩ = some (.int .i64 ((rd_T41 l0 a1).f3.f1)) ∧ w'.cell? ⟨a3, 8, none⟩ = some (.int .i64 ((rd_T41 l0 a1).f4)) ∧ w'.cell? ⟨a3, 9, none⟩ = some (.int .i64 ((rd_T41 l0 a1).f5)) ∧ w'.cell? ⟨a3, 10, none⟩ = some (.int .i64 ((rd_T41 l0 a1).f6)) ∧ w'.cell? ⟨a3, 11, none⟩ = some (.int .i64 ((rd_T41 l0 a1).f7))) (ds := []) #[false, false, false, false, false, false, false, false, false, false, false, false, false, false, false, false, false, false] (by kernel_rfl) rfl rfl ⟨bc a2 0, bc a2 1, bc a2 2, bc a2 3, bc a2 4, bc a2 5, bc a2 6, bc a2 7, bc a2 8, bc a2 9, bc a2 10, bc a2 11⟩ (fun hHeld => ?_); refine with_tabW impl_BodiesOk.tab4 impl_BodiesOk.bits4 (fun HT_ HW_ => ?_)
    case L3 =>
      generalize bB.drew = cQ at a2 HB hHeld ⊢; refine tk12 0 (some 12) (fl 18 1) HT_ HW_ hHeld ?_; refine on 1 (some 13) (fl 18 3) HT_ (fun K hK => ?_); refine go1 Try.func58 #[.agg #[.int .i64 ((rd_T41 l0 a1).f0), .int .i64 ((rd_T41 l0 a1).f1.f0), .int .i64 ((rd_T41 l0 a1).f1.f1), .int .i64 ((rd_T41 l0 a1).f1.f2), .int .i64 ((rd_T41 l0 a1).f2.f0), .int .i64 ((rd_T41 l0 a1).f2.f1), .int .i64 ((rd_T41 l0 a1).f3.f0), .int .i64 ((rd_T41 l0 a1).f3.f1), .int .i64 ((rd_T41 l0 a1).f4), .int .i64 ((rd_T41 l0 a1).f5), .int .i64 ((rd_T41 l0 a1).f6), .int .i64 ((rd_T41 l0 a1).f7)]] ?_
      with_reducible refine (impl_BodyOk.calls k1 ((rd_T41 l0 a1).f0) ((rd_T41 l0 a1).f1.f0) ((rd_T41 l0 a1).f1.f1) ((rd_T41 l0 a1).f1.f2) ((rd_T41 l0 a1).f2.f0) ((rd_T41 l0 a1).f2.f1) ((rd_T41 l0 a1).f3.f0) ((rd_T41 l0 a1).f3.f1) ((rd_T41 l0 a1).f4) ((rd_T41 l0 a1).f5) ((rd_T41 l0 a1).f6) ((rd_T41 l0 a1).f7) true _ aK.out).mono ?_
      rintro e cR ⟨rfl, hb⟩; refine ⟨_, rfl, ?_⟩; replace a2 := kBB a2 hb; replace HB := bS HB hb; clear hb; refine hK.out _ _ ⟨bc a2 0, bc a2 1, bc a2 2, bc a2 3, bc a2 4, bc a2 5, bc a2 6, bc a2 7, bc a2 8, bc a2 9, bc a2 10, bc a2 11⟩ (fun hHeld => ?_); clear hK K; refine nm (some 13) ?_; refine pu 2 (some 14) (fl 18 7) HT_ ?_; refine pu 3 (some 15) (fl 18 15) HT_ ?_; refine pu 4 (some 16) (fl 18 31) HT_ ?_; refine pu 5 (some 17) (fl 18 63) HT_ ?_; refine pu 6 (some 18) (fl 18 127) HT_ ?_; refine pv 7 (some 19) (fl 18 255) HT_ ?_; refine pv 8 (some 20) (fl 18 511) HT_ ?_; refine pv 9 (some 21) (fl 18 1023) HT_ ?_; refine pv 10 (some 22) (fl 18 2047) HT_ ?_; refine pv 11 (some 23) (fl 18 4095) HT_ ?_; refine pv 12 (some 24) (fl 18 8191) HT_ ?_; refine pv 13 (some 25) (fl 18 16383) HT_ ?_; refine pv 14 (some 26) (fl 18 32767) HT_ ?_; refine pv 15 (some 27) (fl 18 65535) HT_ ?_; refine pu 16 (some 28) (fl 18 131071) HT_ ?_; refine pu 17 (some 29) (fl 18 262143) HT_ ?_; refine done_ (done_of HT_.out (by kernel_rfl)) ?_
      try go_wp2
      go_roundg k1
      case measure => have := bG.out; omega
      exact ⟨(wrap64 (a1 + 1)), qG, H', ⟨by have := bG.out; omega⟩, ⟨qL HB⟩⟩
    case L4 =>
      generalize bB.drew = cS at a2 HB hHeld ⊢; refine tk12 0 (some 12) (fl 18 1) HT_ HW_ hHeld ?_; refine on 1 (some 13) (fl 18 3) HT_ (fun K hK => ?_); refine go1 Try.func58 #[.agg #[.int .i64 ((rd_T41 l0 a1).f0), .int .i64 ((rd_T41 l0 a1).f1.f0), .int .i64 ((rd_T41 l0 a1).f1.f1), .int .i64 ((rd_T41 l0 a1).f1.f2), .int .i64 ((rd_T41 l0 a1).f2.f0), .int .i64 ((rd_T41 l0 a1).f2.f1), .int .i64 ((rd_T41 l0 a1).f3.f0), .int .i64 ((rd_T41 l0 a1).f3.f1), .int .i64 ((rd_T41 l0 a1).f4), .int .i64 ((rd_T41 l0 a1).f5), .int .i64 ((rd_T41 l0 a1).f6), .int .i64 ((rd_T41 l0 a1).f7)]] ?_
      with_reducible refine (impl_BodyOk.calls k1 ((rd_T41 l0 a1).f0) ((rd_T41 l0 a1).f1.f0) ((rd_T41 l0 a1).f1.f1) ((rd_T41 l0 a1).f1.f2) ((rd_T41 l0 a1).f2.f0) ((rd_T41 l0 a1).f2.f1) ((rd_T41 l0 a1).f3.f0) ((rd_T41 l0 a1).f3.f1) ((rd_T41 l0 a1).f4) ((rd_T41 l0 a1).f5) ((rd_T41 l0 a1).f6) ((rd_T41 l0 a1).f7) false _ aK.out).mono ?_
      rintro e cT ⟨rfl, hb⟩; refine ⟨_, rfl, ?_⟩; replace a2 := kBB a2 hb; replace HB := bS HB hb; clear hb; refine hK.out _ _ ⟨bc a2 0, bc a2 1, bc a2 2, bc a2 3, bc a2 4, bc a2 5, bc a2 6, bc a2 7, bc a2 8, bc a2 9, bc a2 10, bc a2 11⟩ (fun hHeld => ?_); clear hK K; refine nm (some 13) ?_; refine pu 2 (some 14) (fl 18 7) HT_ ?_; refine pu 3 (some 15) (fl 18 15) HT_ ?_; refine pv 4 (some 16) (fl 18 31) HT_ ?_; refine pv 5 (some 17) (fl 18 63) HT_ ?_; refine pv 6 (some 18) (fl 18 127) HT_ ?_; refine pv 7 (some 19) (fl 18 255) HT_ ?_; refine pv 8 (some 20) (fl 18 511) HT_ ?_; refine pv 9 (some 21) (fl 18 1023) HT_ ?_; refine pv 10 (some 22) (fl 18 2047) HT_ ?_; refine pv 11 (some 23) (fl 18 4095) HT_ ?_; refine pv 12 (some 24) (fl 18 8191) HT_ ?_; refine pv 13 (some 25) (fl 18 16383) HT_ ?_; refine pv 14 (some 26) (fl 18 32767) HT_ ?_; refine pv 15 (some 27) (fl 18 65535) HT_ ?_; refine pv 16 (some 28) (fl 18 131071) HT_ ?_; refine pu 17 (some 29) (fl 18 262143) HT_ ?_; refine done_ (done_of HT_.out (by kernel_rfl)) ?_
      try go_wp2
      go_ret
      exact ⟨qE, qL HB⟩
    case L5 =>
      go_wp2
      go_ret
      exact ⟨qE, qL HB⟩
      

/-! ### impl_Vec_minus: function 89 -/
def impl_Vec_minus.f (a2 : Int) (a3 : Int) (a4 : Int) (a5 : Int) : Option (Int × Int) := some (wrap64 (a2 - a4), wrap64 (a3 - a5))
set_option maxHeartbeats 8000000 in
set_option maxRecDepth 100000 in
theorem impl_Vec_minus.calls (a2 : Int) (a3 : Int) (a4 : Int) (a5 : Int) (r1 : Int) (r2 : Int) (w : World) (h : impl_Vec_minus.f a2 a3 a4 a5 = some (r1, r2)) :
    Calls Try.prog 89 #[.agg #[.int .i64 a2, .int .i64 a3], .agg #[.int .i64 a4, .int .i64 a5]] w fun e w' => e = .returned (.agg #[.int .i64 r1, .int .i64 r2]) ∧ Below w.heap.size w w' := by
  have hu33 := Try.underlying33; have HB := az (Below.refl w.heap.size w); have H : (some (wrap64 (a2 - a4), wrap64 (a3 - a5))) = some (r1, r2) := h; clear h; simp only [Option.some.injEq, Prod.mk.injEq] at H; obtain ⟨rfl, rfl⟩ := H; go_enter Try.func89, Try.ntmps89; go_wp2_with (first | ((with_reducible refine gate_dst (N := 2) rfl ?_); refine bx (N := 2) (cs := #[.int .i64 a2, .int .i64 a3]) (t := 33) ?_; intro aE hg w3 hbox hb; have a0 := az hbox; have aF := az ((gE hg (qL HB) : w.heap.size ≤ aE)); have aV := aF; replace HB := bS HB hb; clear hb hbox hg) | ((with_reducible refine gate_dst (N := 3) rfl ?_); refine bx (N := 3) (cs := #[.int .i64 a4, .int .i64 a5]) (t := 33) ?_; intro aG hg w4 hbox hb; have a1 := az hbox; have aH := az ((gE hg (qL HB) : w.heap.size ≤ aG)); have aW := aH; obtain ⟨a7, a8⟩ := nPB a0 hg; replace a0 := kBB a0 hb; replace HB := bS HB hb; clear hb hbox hg) | ((with_reducible refine gate_dst (N := 4) rfl ?_); refine bz2 (N := 4) (t := 33) ?_; intro aD hg w5 hbox hb; have a6 := az hbox; have aI := az ((gE hg (qL HB) : w.heap.size ≤ aD)); have aX := aI; obtain ⟨a9, aA⟩ := nPB a0 hg; obtain ⟨aB, aC⟩ := nPB a1 hg; replace a0 := kBB a0 hb; replace a1 := kBB a1 hb; replace HB := bS HB hb; clear hb hbox hg; have aY := a7.out; have aZ := a8.out; have b0 := a9.out; have b1 := aA.out; obtain ⟨aR, aS⟩ := cz2 a0.out; have aT := blk_frozen a0.out 0; have aU := blk_frozen a0.out 1; have b2 := aB.out; have b3 := aC.out; obtain ⟨aJ, aK⟩ := cz2 a1.out; have aL := blk_frozen a1.out 0; have aM := blk_frozen a1.out 1; obtain ⟨aN, aO⟩ := cz2 a6.out; have aP := blk_frozen a6.out 0; have aQ := blk_frozen a6.out 1)); refine bodyPost_ret (results_cell_row rfl _ _ aD 33 #[.int .i64 (wrap64 (a2 - a4)), .int .i64 (wrap64 (a3 - a5))] (0, 0) _ rfl (qP a6) Try.underlying33 rfl (by kernel_rfl)) rfl ?_; exact ⟨qE, qL HB⟩

/-! ### impl_Vec_square: function 90 -/
def impl_Vec_square.f (a0 : Int) (a1 : Int) : Option (Int) := some (wrap64 ((wrap64 (a0 * a0)) + (wrap64 (a1 * a1))))
set_option maxHeartbeats 8000000 in
set_option maxRecDepth 100000 in
theorem impl_Vec_square.calls (a0 : Int) (a1 : Int) (r : Int) (w : World) (h : impl_Vec_square.f a0 a1 = some r) :
    Calls Try.prog 90 #[.agg #[.int .i64 a0, .int .i64 a1]] w fun e w' => e = .returned (.int .i64 r) ∧ Below w.heap.size w w' := by
  have hu33 := Try.underlying33; have HB := az (Below.refl w.heap.size w); have H : (some (wrap64 ((wrap64 (a0 * a0)) + (wrap64 (a1 * a1))))) = some r := h; clear h; obtain rfl := Option.some.inj H; go_enter Try.func90, Try.ntmps90; go_wp2_with (first | ((with_reducible refine gate_dst (N := 1) rfl ?_); refine bx (N := 1) (cs := #[.int .i64 a0, .int .i64 a1]) (t := 33) ?_; intro a3 hg w2 hbox hb; have a2 := az hbox; have a4 := az ((gE hg (qL HB) : w.heap.size ≤ a3)); have a9 := a4; replace HB := bS HB hb; clear hb hbox hg; obtain ⟨a5, a6⟩ := cz2 a2.out; have a7 := blk_frozen a2.out 0; have a8 := blk_frozen a2.out 1))
  go_ret
  exact ⟨qE, qL HB⟩

/-! ### impl_FixClamp: function 108 -/
def impl_FixClamp.f (a0 : Int) : Option (Int) := (impl_within.f a0 1000000000).bind fun a1 => (some a1)
set_option maxHeartbeats 8000000 in
set_option maxRecDepth 100000 in
theorem impl_FixClamp.calls (a0 : Int) (r : Int) (w : World) (h : impl_FixClamp.f a0 = some r) :
    Calls Try.prog 108 #[.int .i64 a0] w fun e w' => e = .returned (.int .i64 r) ∧ Below w.heap.size w w' := by
  have HB := az (Below.refl w.heap.size w); have H : ((impl_within.f a0 1000000000).bind fun a1 => (some a1)) = some r := h; clear h; replace H := qH H; obtain ⟨a1, A2, H⟩ := H
  try dsimp only at H
  obtain rfl := Option.some.inj H; go_enter Try.func108, Try.ntmps108; go_wp2_with (first | ((with_reducible refine gate_callee (f := 128) rfl ?_); refine gl (some 4) Try.func128 #[.int .i64 a0, .int .i64 1000000000] ?_; (with_reducible refine (impl_within.calls a0 1000000000 a1 _ A2.out).mono ?_); rintro e w3 ⟨rfl, hb⟩; refine ⟨_, rfl, ?_⟩; replace HB := bS HB hb; clear hb))
  go_ret
  exact ⟨qE, qL HB⟩

/-! ### impl_root: function 109 -/
def impl_root.l0 : Nat → Int → Int → Int → Option (Int)
  | 0, _, _, _ => none
  | k + 1, x0, x3, x4 => if (wrap64 (x4 - x3)) > 1 then (if (wrap64 ((wrap64 (Int.tdiv (wrap64 (x3 + x4)) 2)) * (wrap64 (Int.tdiv (wrap64 (x3 + x4)) 2)))) ≤ x0 then (impl_root.l0 k x0 (wrap64 (Int.tdiv (wrap64 (x3 + x4)) 2)) x4) else (impl_root.l0 k x0 x3 (wrap64 (Int.tdiv (wrap64 (x3 + x4)) 2)))) else (some x3)
def impl_root.f (k : Nat) (a0 : Int) : Option (Int) := impl_root.l0 k a0 0 2147483648
theorem impl_root.mono_l : ∀ k, (∀ y0 y1 y2, LeO (impl_root.l0 k y0 y1 y2) (impl_root.l0 (k + 1) y0 y1 y2))
  | 0 => fun _ _ _ r h => by simp [impl_root.l0] at h
  | k + 1 => by
    have ih0 := impl_root.mono_l k
    · intro y0 y1 y2
      unfold impl_root.l0
      repeat' first
      | (with_reducible exact ih0 _ _ _)
      | (with_reducible exact LeO.refl _)
      | (with_reducible exact LeO.none _)
      | (with_reducible refine LeO.ite ?_ ?_)
      | (with_reducible refine LeO.bind ?_ (fun _ => ?_))
theorem impl_root.mono : ∀ a0 k, LeO (impl_root.f k a0) (impl_root.f (k + 1) a0) := by
  intro a0 k
  have ih0 := impl_root.mono_l k
  unfold impl_root.f
  repeat' first
      | (with_reducible exact ih0 _ _ _)
      | (with_reducible exact LeO.refl _)
      | (with_reducible exact LeO.none _)
      | (with_reducible refine LeO.ite ?_ ?_)
      | (with_reducible refine LeO.bind ?_ (fun _ => ?_))
set_option maxHeartbeats 8000000 in
set_option maxRecDepth 100000 in
theorem impl_root.calls (k : Nat) (a0 : Int) (r : Int) (w : World) (h : impl_root.f k a0 = some r) :
    Calls Try.prog 109 #[.int .i64 a0] w fun e w' => e = .returned (.int .i64 r) ∧ Drawn0 w w' := by
  have H : (impl_root.l0 k a0 0 2147483648) = some r := h; clear h; have H' := az H; clear H; go_enter Try.func109, Try.ntmps109; go_wp2
  go_loopg [3, 4] k (fun kq v3 v4 w' => ∃ (a1 : Int) (a2 : Int), v3 = .int .i64 a1 ∧ v4 = .int .i64 a2 ∧ Aside0 (impl_root.l0 kq a0 a1 a2 = some r) ∧ Aside0 (kq ≤ k) ∧ Drawn0 w w')
  case atStart => exact ⟨(0), (2147483648), qG, qG, H', ⟨Nat.le_refl _⟩, by repeat (first | exact Drawn0.refl _ | apply Drawn0.step)⟩
  case round =>
    clear H'
    try clear c1
    obtain ⟨a1, a2, rfl, rfl, HA, a3, ⟨m1, rfl⟩⟩ := hrel
    cases gk with
    | zero => exact absurd HA.out (by simp [impl_root.l0])
    | succ k1 => ?_
    have H := HA.out; clear HA; simp only [impl_root.l0] at H; by_cases c2 : (wrap64 (a2 - a1)) > 1
    · rw [if_pos c2] at H; have a4 : decide (1 < (wrap64 (a2 - a1))) = true := decide_eq_true c2; clear c2; by_cases c3 : (wrap64 ((wrap64 (Int.tdiv (wrap64 (a1 + a2)) 2)) * (wrap64 (Int.tdiv (wrap64 (a1 + a2)) 2)))) ≤ a0
      · rw [if_pos c3] at H; have a5 : decide ((wrap64 ((wrap64 (Int.tdiv (wrap64 (a1 + a2)) 2)) * (wrap64 (Int.tdiv (wrap64 (a1 + a2)) 2)))) ≤ a0) = true := decide_eq_true c3; clear c3; have H' := az H; clear H; go_wp2
        go_roundg k1
        case measure => have := a3.out; omega
        case rel => exact ⟨(wrap64 (Int.tdiv (wrap64 (a1 + a2)) 2)), (a2), qG, qG, H', ⟨by have := a3.out; omega⟩, by repeat (first | exact Drawn0.refl _ | apply Drawn0.step)⟩
      rw [if_neg c3] at H; have a5 : decide ((wrap64 ((wrap64 (Int.tdiv (wrap64 (a1 + a2)) 2)) * (wrap64 (Int.tdiv (wrap64 (a1 + a2)) 2)))) ≤ a0) = false := decide_eq_false c3; clear c3; have H' := az H; clear H; go_wp2
      go_roundg k1
      case measure => have := a3.out; omega
      case rel => exact ⟨(a1), (wrap64 (Int.tdiv (wrap64 (a1 + a2)) 2)), qG, qG, H', ⟨by have := a3.out; omega⟩, by repeat (first | exact Drawn0.refl _ | apply Drawn0.step)⟩
    rw [if_neg c2] at H; have a4 : decide (1 < (wrap64 (a2 - a1))) = false := decide_eq_false c2; clear c2; obtain rfl := Option.some.inj H; go_wp2
    go_ret
    exact ⟨by first | rfl | (simp; done) | (simp [*]; done), by repeat (first | exact Drawn0.refl _ | apply Drawn0.step)⟩

/-! ### impl_VecLen: function 92 -/
def impl_VecLen.f (k : Nat) (a3 : Int) (a4 : Int) : Option (Int) := (impl_Vec_clamped.f a3 a4 1000000000).bind fun bt881 => ((impl_Vec_square.f bt881.1 bt881.2).bind fun a5 => ((impl_root.f k a5).bind fun a6 => ((impl_FixClamp.f a6).bind fun a7 => (some a7))))
theorem impl_VecLen.mono : ∀ a0 a1 k, LeO (impl_VecLen.f k a0 a1) (impl_VecLen.f (k + 1) a0 a1) := by
  intro a0 a1 k
  unfold impl_VecLen.f
  repeat' first
      | (with_reducible exact impl_root.mono _ _)
      | (with_reducible exact LeO.refl _)
      | (with_reducible exact LeO.none _)
      | (with_reducible refine LeO.ite ?_ ?_)
      | (with_reducible refine LeO.bind ?_ (fun _ => ?_))
set_option maxHeartbeats 8000000 in
set_option maxRecDepth 100000 in
theorem impl_VecLen.calls (k : Nat) (a3 : Int) (a4 : Int) (r : Int) (w : World) (h : impl_VecLen.f k a3 a4 = some r) :
    Calls Try.prog 92 #[.agg #[.int .i64 a3, .int .i64 a4]] w fun e w' => e = .returned (.int .i64 r) ∧ Below w.heap.size w w' := by
  have hu33 := Try.underlying33; have HB := az (Below.refl w.heap.size w); have H : ((impl_Vec_clamped.f a3 a4 1000000000).bind fun bt881 => ((impl_Vec_square.f bt881.1 bt881.2).bind fun a5 => ((impl_root.f k a5).bind fun a6 => ((impl_FixClamp.f a6).bind fun a7 => (some a7))))) = some r := h; clear h; replace H := qH H; obtain ⟨⟨a8, a9⟩, A2, H⟩ := H
  try dsimp only at H
  replace H := qH H; obtain ⟨a5, A3, H⟩ := H
  try dsimp only at H
  replace H := qH H; obtain ⟨a6, A4, H⟩ := H
  try dsimp only at H
  replace H := qH H; obtain ⟨a7, A5, H⟩ := H
  try dsimp only at H
  obtain rfl := Option.some.inj H; go_enter Try.func92, Try.ntmps92; go_wp2_with (first | ((with_reducible refine gate_dst (N := 1) rfl ?_); refine bx (N := 1) (cs := #[.int .i64 a3, .int .i64 a4]) (t := 33) ?_; intro aA hg w6 hbox hb; have a2 := az hbox; have aB := az ((gE hg (qL HB) : w.heap.size ≤ aA)); have aG := aB; replace HB := bS HB hb; clear hb hbox hg; obtain ⟨aC, aD⟩ := cz2 a2.out; have aE := blk_frozen a2.out 0; have aF := blk_frozen a2.out 1) | ((with_reducible refine gate_callee (f := 107) rfl ?_); refine gl (some 4) Try.func107 #[.agg #[.int .i64 a3, .int .i64 a4], .int .i64 1000000000] ?_; (with_reducible refine (impl_Vec_clamped.calls a3 a4 1000000000 a8 a9 _ A2.out).mono ?_); rintro e w8 ⟨rfl, hb⟩; refine ⟨_, rfl, ?_⟩; replace a2 := kBB a2 hb; replace HB := bS HB hb; clear hb) | ((with_reducible refine gate_callee (f := 90) rfl ?_); refine gl (some 5) Try.func90 #[.agg #[.int .i64 a8, .int .i64 a9]] ?_; (with_reducible refine (impl_Vec_square.calls a8 a9 a5 _ A3.out).mono ?_); rintro e w9 ⟨rfl, hb⟩; refine ⟨_, rfl, ?_⟩; replace a2 := kBB a2 hb; replace HB := bS HB hb; clear hb) | ((with_reducible refine gate_callee (f := 109) rfl ?_); refine gl (some 6) Try.func109 #[.int .i64 a5] ?_; (with_reducible refine (impl_root.calls k a5 a6 _ A4.out).mono ?_); rintro e w' ⟨rfl, ⟨nd, rfl⟩⟩; refine ⟨_, rfl, ?_⟩) | ((with_reducible refine gate_callee (f := 108) rfl ?_); refine gl (some 7) Try.func108 #[.int .i64 a6] ?_; (with_reducible refine (impl_FixClamp.calls a6 a7 _ A5.out).mono ?_); rintro e aH ⟨rfl, hb⟩; refine ⟨_, rfl, ?_⟩; replace a2 := kBB a2 hb; replace HB := bS HB hb; clear hb))
  go_ret
  exact ⟨qE, qL HB⟩

/-! ### impl_VecUnit: function 91 -/
def impl_VecUnit.f (k : Nat) (a7 : Int) (a8 : Int) : Option (Int × Int) := (impl_Vec_clamped.f a7 a8 1000000000).bind fun bt888 => ((impl_VecLen.f k bt888.1 bt888.2).bind fun a5 => (if a5 = 0 then (some (0, 256)) else (some (wrap64 (Int.tdiv (wrap64 (bt888.1 * 256)) a5), wrap64 (Int.tdiv (wrap64 (bt888.2 * 256)) a5)))))
theorem impl_VecUnit.mono : ∀ a0 a1 k, LeO (impl_VecUnit.f k a0 a1) (impl_VecUnit.f (k + 1) a0 a1) := by
  intro a0 a1 k
  unfold impl_VecUnit.f
  repeat' first
      | (with_reducible exact impl_VecLen.mono _ _ _)
      | (with_reducible exact LeO.refl _)
      | (with_reducible exact LeO.none _)
      | (with_reducible refine LeO.ite ?_ ?_)
      | (with_reducible refine LeO.bind ?_ (fun _ => ?_))
def impl_VecUnit.T5 : Bool × List (List Nat × List Nat) := (true, [([], []), ([0], [0]), ([1], [1]), ([], []), ([2, 3], [2, 3]), ([], []), ([5], [5]), ([6], [6]), ([], []), ([7, 8], [7, 8]), ([4, 9], [4, 9]), ([10, 0, 1, 2, 3, 4, 5, 6, 7, 8, 9, 10], [10])])
def impl_VecUnit.B5 : List Nat := [0, 1, 3, 0, 15, 0, 32, 96, 0, 480, 1023, 2047]
theorem impl_VecUnit.tab5 : rtab .any (opsOf Try.f91 5) = impl_VecUnit.T5 := by kernel_rfl
theorem impl_VecUnit.bits5 : waitsOk impl_VecUnit.T5.2 impl_VecUnit.B5 = true := by kernel_rfl
set_option maxHeartbeats 8000000 in
set_option maxRecDepth 100000 in
theorem impl_VecUnit.calls (k : Nat) (a7 : Int) (a8 : Int) (r1 : Int) (r2 : Int) (w : World) (h : impl_VecUnit.f k a7 a8 = some (r1, r2)) :
    Calls Try.prog 91 #[.agg #[.int .i64 a7, .int .i64 a8]] w fun e w' => e = .returned (.agg #[.int .i64 r1, .int .i64 r2]) ∧ Below w.heap.size w w' := by
  have hu33 := Try.underlying33; have HB := az (Below.refl w.heap.size w); have H : ((impl_Vec_clamped.f a7 a8 1000000000).bind fun bt888 => ((impl_VecLen.f k bt888.1 bt888.2).bind fun a5 => (if a5 = 0 then (some (0, 256)) else (some (wrap64 (Int.tdiv (wrap64 (bt888.1 * 256)) a5), wrap64 (Int.tdiv (wrap64 (bt888.2 * 256)) a5)))))) = some (r1, r2) := h; clear h; replace H := qH H; obtain ⟨⟨a9, aA⟩, A2, H⟩ := H
  try dsimp only at H
  replace H := qH H; obtain ⟨a5, A3, H⟩ := H
  try dsimp only at H
  by_cases c4 : a5 = 0
  · rw [if_pos c4] at H; have aI : (a5 == 0) = true := beq_iff_eq.mpr c4; have aJ : (a5 != 0) = false := bne_eq_false_iff_eq.mpr c4; clear c4; simp only [Option.some.injEq, Prod.mk.injEq] at H; obtain ⟨rfl, rfl⟩ := H; go_enter Try.func91, Try.ntmps91; go_wp2_with (first | ((with_reducible refine gate_dst (N := 1) rfl ?_); refine bx (N := 1) (cs := #[.int .i64 a7, .int .i64 a8]) (t := 33) ?_; intro aC hg w5 hbox hb; have a2 := az hbox; have aD := az ((gE hg (qL HB) : w.heap.size ≤ aC)); have aF := aD; replace HB := bS HB hb; clear hb hbox hg) | ((with_reducible refine gate_dst (N := 2) rfl ?_); refine bz2 (N := 2) (t := 33) ?_; intro aB hg w6 hbox hb; have a3 := az hbox; have aE := az ((gE hg (qL HB) : w.heap.size ≤ aB)); have aG := aE; obtain ⟨a4, a6⟩ := nPB a2 hg; replace a2 := kBB a2 hb; replace HB := bS HB hb; clear hb hbox hg; have bD := a4.out; have bE := a6.out; obtain ⟨b4, b5⟩ := cz2 a2.out; have b6 := blk_frozen a2.out 0; have b7 := blk_frozen a2.out 1) | ((with_reducible refine gate_callee (f := 107) rfl ?_); refine gl (some 5) Try.func107 #[.agg #[.int .i64 a7, .int .i64 a8], .int .i64 1000000000] ?_; (with_reducible refine (impl_Vec_clamped.calls a7 a8 1000000000 a9 aA _ A2.out).mono ?_); rintro e w9 ⟨rfl, hb⟩; refine ⟨_, rfl, ?_⟩; replace a2 := kBB a2 hb; replace a3 := kBB a3 hb; replace HB := bS HB hb; clear hb; obtain ⟨aK, aL⟩ := cz2 a2.out; have aM := blk_frozen a2.out 0; have aN := blk_frozen a2.out 1) | ((with_reducible refine gate_callee (f := 92) rfl ?_); refine gl (some 7) Try.func92 #[.agg #[.int .i64 a9, .int .i64 aA]] ?_; (with_reducible refine (impl_VecLen.calls k a9 aA a5 _ A3.out).mono ?_); rintro e bH ⟨rfl, hb⟩; refine ⟨_, rfl, ?_⟩; replace a2 := kBP (o' := .cells #[.int .i64 a9, .int .i64 aA] 33 (0, 0)) a2 hb; replace a3 := kBF a3 hb; replace HB := bS HB hb; clear hb; obtain ⟨aO, aP⟩ := cz2 a3.out; have aQ := blk_frozen a3.out 0; have aR := blk_frozen a3.out 1)); refine bodyPost_ret (results_cell_row rfl _ _ aB 33 #[.int .i64 0, .int .i64 256] (0, 0) _ rfl (qP a3) Try.underlying33 rfl (by kernel_rfl)) rfl ?_; exact ⟨qE, qL HB⟩
  rw [if_neg c4] at H; have aI : (a5 == 0) = false := beq_eq_false_iff_ne.mpr c4; have aJ : (a5 != 0) = true := bne_iff_ne.mpr c4; simp only [Option.some.injEq, Prod.mk.injEq] at H; obtain ⟨rfl, rfl⟩ := H; go_enter Try.func91, Try.ntmps91
  try go_wp2_with (first | ((with_reducible refine gate_dst (N := 1) rfl ?_); refine bx (N := 1) (cs := #[.int .i64 a7, .int .i64 a8]) (t := 33) ?_; intro aC hg bI hbox hb; have a2 := az hbox; have aD := az ((gE hg (qL HB) : w.heap.size ≤ aC)); have aF := aD; replace HB := bS HB hb; clear hb hbox hg) | ((with_reducible refine gate_dst (N := 2) rfl ?_); refine bz2 (N := 2) (t := 33) ?_; intro aB hg bJ hbox hb; have a3 := az hbox; have aE := az ((gE hg (qL HB) : w.heap.size ≤ aB)); have aG := aE; obtain ⟨a4, a6⟩ := nPB a2 hg; replace a2 := kBB a2 hb; replace HB := bS HB hb; clear hb hbox hg; have b9 := a4.out; have bA := a6.out; obtain ⟨aS, aT⟩ := cz2 a2.out; have aU := blk_frozen a2.out 0; have aV := blk_frozen a2.out 1) | ((with_reducible refine gate_callee (f := 107) rfl ?_); refine gl (some 5) Try.func107 #[.agg #[.int .i64 a7, .int .i64 a8], .int .i64 1000000000] ?_; (with_reducible refine (impl_Vec_clamped.calls a7 a8 1000000000 a9 aA _ A2.out).mono ?_); rintro e bK ⟨rfl, hb⟩; refine ⟨_, rfl, ?_⟩; replace a2 := kBB a2 hb; replace a3 := kBB a3 hb; replace HB := bS HB hb; clear hb; obtain ⟨aW, aX⟩ := cz2 a2.out; have aY := blk_frozen a2.out 0; have aZ := blk_frozen a2.out 1) | ((with_reducible refine gate_callee (f := 92) rfl ?_); refine gl (some 7) Try.func92 #[.agg #[.int .i64 a9, .int .i64 aA]] ?_; (with_reducible refine (impl_VecLen.calls k a9 aA a5 _ A3.out).mono ?_); rintro e b8 ⟨rfl, hb⟩; refine ⟨_, rfl, ?_⟩; replace a2 := kBP (o' := .cells #[.int .i64 a9, .int .i64 aA] 33 (0, 0)) a2 hb; replace a3 := kBF a3 hb; replace HB := bS HB hb; clear hb))
  replace a2 := az (blk_drew a2.out); replace a3 := az (blk_drew a3.out); replace HB := az (below_drew1 HB.out); refine start_ (n := 12) (S := fun w' => w'.cell? ⟨aC, 0, none⟩ = some (.int .i64 a9) ∧ w'.cell? ⟨aC, 1, none⟩ = some (.int .i64 aA)) (ds := []) #[false, false, false, false, false, false, false, false, false, false, false, false] (by kernel_rfl) rfl rfl ⟨bc a2 0, bc a2 1⟩ (fun hHeld => ?_); refine with_tabW impl_VecUnit.tab5 impl_VecUnit.bits5 (fun HT_ HW_ => ?_); generalize b8.drew = aH at a2 a3 HB hHeld ⊢; refine pu 0 (some 11) (fl 12 1) HT_ ?_; refine pu 3 (some 14) (fl 12 9) HT_ ?_; refine pu 5 (some 16) (fl 12 41) HT_ ?_; refine pu 8 (some 19) (fl 12 297) HT_ ?_; refine tk2 1 (some 12) (fl 12 299) HT_ HW_ hHeld ?_; refine pu 2 (some 13) (fl 12 303) HT_ ?_; refine pu 4 (some 15) (fl 12 319) HT_ ?_; refine tk2 6 (some 17) (fl 12 383) HT_ HW_ hHeld ?_; refine pu 7 (some 18) (fl 12 511) HT_ ?_; refine pu 9 (some 20) (fl 12 1023) HT_ ?_; refine pu 10 (some 21) (fl 12 2047) HT_ ?_; refine on 11 (none) (fl 12 4095) HT_ (fun K hK => ?_); have bF : aH.cell? ⟨aB, 0, none⟩ = some (.int .i64 0) := bc a3 0; have bB := blk_frozen a3.out 0; have b0 := a4.out; have b1 := a6.out; have bG : aH.cell? ⟨aB, 1, none⟩ = some (.int .i64 0) := bc a3 1; have bC := blk_frozen a3.out 1; have b2 := a4.out; have b3 := a6.out; refine skip_ (w1 := ?_) ?hw ?hn ?_ ?_; (case hw => unfold Region.wanted; rfl); (case hn => rfl); rotate_left
  · go_simp
    rfl
  refine hK.out _ _ ⟨(cf a4 ((cf a4 (hHeld.1)))), (cf a4 ((cf a4 (hHeld.2))))⟩ (fun hHeld => ?_); clear hK K; refine done_ (done_of HT_.out (by kernel_rfl)) ?_
  try go_wp2
  refine bodyPost_ret (results_cell_row rfl _ _ aB 33 #[.int .i64 (wrap64 (Int.tdiv (wrap64 (a9 * 256)) a5)), .int .i64 (wrap64 (Int.tdiv (wrap64 (aA * 256)) a5))] (0, 0) _ rfl (qP a3) Try.underlying33 rfl (by kernel_rfl)) rfl ?_; exact ⟨qE, qL HB⟩

/-! ### impl_rounds: function 67 -/
def impl_rounds.f (k : Nat) (aI : Int) (aJ : Int) (a1 : Int) (aK : Int) (aL : Int) (a3 : Int) : Option (Int × Int × Int × Bool) := (impl_Vec_minus.f aK aL aI aJ).bind fun bt894 => ((impl_Vec_square.f bt894.1 bt894.2).bind fun aN => (if aN > (wrap64 ((wrap64 (a1 + a3)) * (wrap64 (a1 + a3)))) then (some (0, 0, 0, false)) else ((impl_VecUnit.f k bt894.1 bt894.2).bind fun bt898 => ((impl_VecLen.f k bt894.1 bt894.2).bind fun aV => (some (bt898.1, bt898.2, wrap64 ((wrap64 (a1 + a3)) - aV), true))))))
theorem impl_rounds.mono : ∀ a0 a1 a2 a3 a4 a5 k, LeO (impl_rounds.f k a0 a1 a2 a3 a4 a5) (impl_rounds.f (k + 1) a0 a1 a2 a3 a4 a5) := by
  intro a0 a1 a2 a3 a4 a5 k
  unfold impl_rounds.f
  repeat' first
      | (with_reducible exact impl_VecLen.mono _ _ _)
      | (with_reducible exact impl_VecUnit.mono _ _ _)
      | (with_reducible exact LeO.refl _)
      | (with_reducible exact LeO.none _)
      | (with_reducible refine LeO.ite ?_ ?_)
      | (with_reducible refine LeO.bind ?_ (fun _ => ?_))
def impl_rounds.T4 : Bool × List (List Nat × List Nat) := (true, [([], []), ([0], [0]), ([], []), ([], []), ([3, 1], [3]), ([2, 4], [2, 4]), ([1, 5], [1, 5]), ([6, 4, 0, 1, 2, 3, 4, 5, 6], [6]), ([7, 0, 1, 2, 3, 4, 5, 6, 7], [])])
def impl_rounds.B4 : List Nat := [0, 1, 0, 0, 11, 31, 63, 127, 255]
theorem impl_rounds.tab4 : rtab .any (opsOf Try.f67 4) = impl_rounds.T4 := by kernel_rfl
theorem impl_rounds.bits4 : waitsOk impl_rounds.T4.2 impl_rounds.B4 = true := by kernel_rfl
set_option maxHeartbeats 8000000 in
set_option maxRecDepth 100000 in
theorem impl_rounds.calls (k : Nat) (aI : Int) (aJ : Int) (a1 : Int) (aK : Int) (aL : Int) (a3 : Int) (r1 : Int) (r2 : Int) (r3 : Int) (r4 : Bool) (w : World) (h : impl_rounds.f k aI aJ a1 aK aL a3 = some (r1, r2, r3, r4)) :
    Calls Try.prog 67 #[.agg #[.int .i64 aI, .int .i64 aJ], .int .i64 a1, .agg #[.int .i64 aK, .int .i64 aL], .int .i64 a3] w fun e w' => e = .returned (.tuple #[.agg #[.int .i64 r1, .int .i64 r2, .int .i64 r3], .bool r4]) ∧ Below w.heap.size w w' := by
  have hu33 := Try.underlying33; have hu35 := Try.underlying35; have HB := az (Below.refl w.heap.size w); have H : ((impl_Vec_minus.f aK aL aI aJ).bind fun bt894 => ((impl_Vec_square.f bt894.1 bt894.2).bind fun aN => (if aN > (wrap64 ((wrap64 (a1 + a3)) * (wrap64 (a1 + a3)))) then (some (0, 0, 0, false)) else ((impl_VecUnit.f k bt894.1 bt894.2).bind fun bt898 => ((impl_VecLen.f k bt894.1 bt894.2).bind fun aV => (some (bt898.1, bt898.2, wrap64 ((wrap64 (a1 + a3)) - aV), true))))))) = some (r1, r2, r3, r4) := h; clear h; replace H := qH H; obtain ⟨⟨aG, aH⟩, A5, H⟩ := H
  try dsimp only at H
  replace H := qH H; obtain ⟨aN, A6, H⟩ := H
  try dsimp only at H
  by_cases c7 : aN > (wrap64 ((wrap64 (a1 + a3)) * (wrap64 (a1 + a3))))
  · rw [if_pos c7] at H; have b9 : decide ((wrap64 ((wrap64 (a1 + a3)) * (wrap64 (a1 + a3)))) < aN) = true := decide_eq_true c7; clear c7; simp only [Option.some.injEq, Prod.mk.injEq] at H; obtain ⟨rfl, rfl, rfl, rfl⟩ := H; go_enter Try.func67, Try.ntmps67; go_wp2_with (first | ((with_reducible refine gate_dst (N := 4) rfl ?_); refine bx (N := 4) (cs := #[.int .i64 aI, .int .i64 aJ]) (t := 33) ?_; intro aW hg w8 hbox hb; have a6 := az hbox; have aX := az ((gE hg (qL HB) : w.heap.size ≤ aW)); have b5 := aX; replace HB := bS HB hb; clear hb hbox hg) | ((with_reducible refine gate_dst (N := 6) rfl ?_); refine bx (N := 6) (cs := #[.int .i64 aK, .int .i64 aL]) (t := 33) ?_; intro aY hg w9 hbox hb; have a7 := az hbox; have aZ := az ((gE hg (qL HB) : w.heap.size ≤ aY)); have b6 := aZ; obtain ⟨aO, aP⟩ := nPB a6 hg; replace a6 := kBB a6 hb; replace HB := bS HB hb; clear hb hbox hg) | ((with_reducible refine gate_dst (N := 8) rfl ?_); refine bz3 (N := 8) (t := 35) ?_; intro aM hg dV hbox hb; have a8 := az hbox; have b0 := az ((gE hg (qL HB) : w.heap.size ≤ aM)); have b7 := b0; obtain ⟨aB, aC⟩ := nPB a6 hg; obtain ⟨aD, aE⟩ := nPB a7 hg; replace a6 := kBB a6 hb; replace a7 := kBB a7 hb; replace HB := bS HB hb; clear hb hbox hg; have cR := aP.out; have cS := aO.out; have cT := aD.out; have cU := aE.out; obtain ⟨bA, bB⟩ := cz2 a7.out; have bC := blk_frozen a7.out 0; have bD := blk_frozen a7.out 1; have cV := aB.out; have cW := aC.out; obtain ⟨bE, bF⟩ := cz2 a6.out; have bG := blk_frozen a6.out 0; have bH := blk_frozen a6.out 1) | ((with_reducible refine gate_callee (f := 89) rfl ?_); refine gl (some 14) Try.func89 #[.agg #[.int .i64 aK, .int .i64 aL], .agg #[.int .i64 aI, .int .i64 aJ]] ?_; (with_reducible refine (impl_Vec_minus.calls aK aL aI aJ aG aH _ A5.out).mono ?_); rintro e dW ⟨rfl, hb⟩; refine ⟨_, rfl, ?_⟩; replace a6 := kBB a6 hb; replace a7 := kBB a7 hb; replace a8 := kBB a8 hb; replace HB := bS HB hb; clear hb) | ((with_reducible refine gate_dst (N := 10) rfl ?_); refine bz2 (N := 10) (t := 33) ?_; intro aU hg dX hbox hb; have a9 := az hbox; have b1 := az ((gE hg (qL HB) : w.heap.size ≤ aU)); have b8 := b1; obtain ⟨aQ, aR⟩ := nPB a6 hg; obtain ⟨aS, aT⟩ := nPB a7 hg; obtain ⟨aF, aA⟩ := nPB a8 hg; replace a6 := kBB a6 hb; replace a7 := kBB a7 hb; replace a8 := kBB a8 hb; replace HB := bS HB hb; clear hb hbox hg; have cX := aR.out; have cY := aQ.out; have cZ := aT.out; have dA := aS.out; have dB := aA.out; have dC := aF.out; obtain ⟨bI, bJ⟩ := cz2 a9.out; have bK := blk_frozen a9.out 0; have bL := blk_frozen a9.out 1) | ((with_reducible refine gate_callee (f := 90) rfl ?_); refine gl (some 19) Try.func90 #[.agg #[.int .i64 aG, .int .i64 aH]] ?_; (with_reducible refine (impl_Vec_square.calls aG aH aN _ A6.out).mono ?_); rintro e dY ⟨rfl, hb⟩; refine ⟨_, rfl, ?_⟩; replace a6 := kBF a6 hb; replace a7 := kBF a7 hb; replace a8 := kBF a8 hb; replace a9 := kBP (o' := .cells #[.int .i64 aG, .int .i64 aH] 33 (0, 0)) a9 hb; replace HB := bS HB hb; clear hb; obtain ⟨bM, bN, bO⟩ := cz3 a8.out; obtain ⟨bP, bQ, bR⟩ := fz3 a8.out))
    refine bodyPost_ret (results_ct rfl _ _ aM 35 #[.int .i64 0, .int .i64 0, .int .i64 0] (0, 0) _ rfl (qP a8) Try.underlying35 rfl (by kernel_rfl)) rfl ?_; exact ⟨qE, qL HB⟩
  rw [if_neg c7] at H; have b9 : decide ((wrap64 ((wrap64 (a1 + a3)) * (wrap64 (a1 + a3)))) < aN) = false := decide_eq_false c7; clear c7; replace H := qH H; obtain ⟨⟨b2, b3⟩, cO, H⟩ := H
  try dsimp only at H
  replace H := qH H; obtain ⟨aV, cP, H⟩ := H
  try dsimp only at H
  simp only [Option.some.injEq, Prod.mk.injEq] at H; obtain ⟨rfl, rfl, rfl, rfl⟩ := H; go_enter Try.func67, Try.ntmps67
  try go_wp2_with (first | ((with_reducible refine gate_dst (N := 4) rfl ?_); refine bx (N := 4) (cs := #[.int .i64 aI, .int .i64 aJ]) (t := 33) ?_; intro aW hg dZ hbox hb; have a6 := az hbox; have aX := az ((gE hg (qL HB) : w.heap.size ≤ aW)); have b5 := aX; replace HB := bS HB hb; clear hb hbox hg) | ((with_reducible refine gate_dst (N := 6) rfl ?_); refine bx (N := 6) (cs := #[.int .i64 aK, .int .i64 aL]) (t := 33) ?_; intro aY hg e0 hbox hb; have a7 := az hbox; have aZ := az ((gE hg (qL HB) : w.heap.size ≤ aY)); have b6 := aZ; obtain ⟨aO, aP⟩ := nPB a6 hg; replace a6 := kBB a6 hb; replace HB := bS HB hb; clear hb hbox hg) | ((with_reducible refine gate_dst (N := 8) rfl ?_); refine bz3 (N := 8) (t := 35) ?_; intro aM hg e1 hbox hb; have a8 := az hbox; have b0 := az ((gE hg (qL HB) : w.heap.size ≤ aM)); have b7 := b0; obtain ⟨aB, aC⟩ := nPB a6 hg; obtain ⟨aD, aE⟩ := nPB a7 hg; replace a6 := kBB a6 hb; replace a7 := kBB a7 hb; replace HB := bS HB hb; clear hb hbox hg; have dD := aP.out; have dE := aO.out; have dF := aD.out; have dG := aE.out; obtain ⟨bT, bU⟩ := cz2 a7.out; have bV := blk_frozen a7.out 0; have bW := blk_frozen a7.out 1; have dH := aB.out; have dI := aC.out; obtain ⟨bX, bY⟩ := cz2 a6.out; have bZ := blk_frozen a6.out 0; have c0 := blk_frozen a6.out 1) | ((with_reducible refine gate_callee (f := 89) rfl ?_); refine gl (some 14) Try.func89 #[.agg #[.int .i64 aK, .int .i64 aL], .agg #[.int .i64 aI, .int .i64 aJ]] ?_; (with_reducible refine (impl_Vec_minus.calls aK aL aI aJ aG aH _ A5.out).mono ?_); rintro e e2 ⟨rfl, hb⟩; refine ⟨_, rfl, ?_⟩; replace a6 := kBB a6 hb; replace a7 := kBB a7 hb; replace a8 := kBB a8 hb; replace HB := bS HB hb; clear hb) | ((with_reducible refine gate_dst (N := 10) rfl ?_); refine bz2 (N := 10) (t := 33) ?_; intro aU hg e3 hbox hb; have a9 := az hbox; have b1 := az ((gE hg (qL HB) : w.heap.size ≤ aU)); have b8 := b1; obtain ⟨aQ, aR⟩ := nPB a6 hg; obtain ⟨aS, aT⟩ := nPB a7 hg; obtain ⟨aF, aA⟩ := nPB a8 hg; replace a6 := kBB a6 hb; replace a7 := kBB a7 hb; replace a8 := kBB a8 hb; replace HB := bS HB hb; clear hb hbox hg; have dJ := aR.out; have dK := aQ.out; have dL := aT.out; have dM := aS.out; have dN := aA.out; have dO := aF.out; obtain ⟨c1, c2⟩ := cz2 a9.out; have c3 := blk_frozen a9.out 0; have c4 := blk_frozen a9.out 1) | ((with_reducible refine gate_callee (f := 90) rfl ?_); refine gl (some 19) Try.func90 #[.agg #[.int .i64 aG, .int .i64 aH]] ?_; (with_reducible refine (impl_Vec_square.calls aG aH aN _ A6.out).mono ?_); rintro e cQ ⟨rfl, hb⟩; refine ⟨_, rfl, ?_⟩; replace a6 := kBF a6 hb; replace a7 := kBF a7 hb; replace a8 := kBF a8 hb; replace a9 := kBP (o' := .cells #[.int .i64 aG, .int .i64 aH] 33 (0, 0)) a9 hb; replace HB := bS HB hb; clear hb))
  replace a6 := az (blk_drew a6.out); replace a7 := az (blk_drew a7.out); replace a8 := az (blk_drew a8.out); replace a9 := az (blk_drew a9.out); replace HB := az (below_drew1 HB.out); refine start_ (n := 9) (S := fun w' => w'.cell? ⟨aU, 0, none⟩ = some (.int .i64 aG) ∧ w'.cell? ⟨aU, 1, none⟩ = some (.int .i64 aH)) (ds := []) #[false, false, false, false, false, false, false, false, false] (by kernel_rfl) rfl rfl ⟨bc a9 0, bc a9 1⟩ (fun hHeld => ?_); refine with_tabW impl_rounds.tab4 impl_rounds.bits4 (fun HT_ HW_ => ?_); generalize cQ.drew = e4 at a6 a7 a8 a9 HB hHeld ⊢; refine pu 2 (some 27) (fl 9 4) HT_ ?_; refine tk2 0 (some 25) (fl 9 5) HT_ HW_ hHeld ?_; refine tk2 3 (some 28) (fl 9 13) HT_ HW_ hHeld ?_; refine on 1 (some 26) (fl 9 15) HT_ (fun K hK => ?_); refine go1 Try.func91 #[.agg #[.int .i64 aG, .int .i64 aH]] ?_
  with_reducible refine (impl_VecUnit.calls k aG aH b2 b3 _ cO.out).mono ?_
  rintro e e5 ⟨rfl, hb⟩; refine ⟨_, rfl, ?_⟩; replace a6 := kBB a6 hb; replace a7 := kBB a7 hb; replace a8 := kBB a8 hb; replace a9 := kBB a9 hb; replace HB := bS HB hb; clear hb; refine hK.out _ _ ⟨bc a9 0, bc a9 1⟩ (fun hHeld => ?_); clear hK K; refine nm (some 26) ?_; refine on 4 (some 29) (fl 9 31) HT_ (fun K hK => ?_); refine go1 Try.func92 #[.agg #[.int .i64 aG, .int .i64 aH]] ?_
  with_reducible refine (impl_VecLen.calls k aG aH aV _ cP.out).mono ?_
  rintro e b4 ⟨rfl, hb⟩; refine ⟨_, rfl, ?_⟩; replace a6 := kBB a6 hb; replace a7 := kBB a7 hb; replace a8 := kBB a8 hb; replace a9 := kBB a9 hb; replace HB := bS HB hb; clear hb; refine hK.out _ _ ⟨bc a9 0, bc a9 1⟩ (fun hHeld => ?_); clear hK K; refine nm (some 29) ?_; refine pu 5 (some 30) (fl 9 63) HT_ ?_; refine pu 6 (some 31) (fl 9 127) HT_ ?_; refine on 7 (none) (fl 9 255) HT_ (fun K hK => ?_); have dS : b4.cell? ⟨aM, 0, none⟩ = some (.int .i64 0) := bc a8 0; have dP := blk_frozen a8.out 0; have c5 := aB.out; have c6 := aD.out; have c8 := aA.out; have c9 := aC.out; have cA := aE.out; have cB := aF.out; have dT : b4.cell? ⟨aM, 1, none⟩ = some (.int .i64 0) := bc a8 1; have dQ := blk_frozen a8.out 1; have cC := aB.out; have cD := aD.out; have cE := aA.out; have cF := aC.out; have cG := aE.out; have cH := aF.out; have dU : b4.cell? ⟨aM, 2, none⟩ = some (.int .i64 0) := bc a8 2; have dR := blk_frozen a8.out 2; have cI := aB.out; have cJ := aD.out; have cK := aA.out; have cL := aC.out; have cM := aE.out; have cN := aF.out; refine skip_ (w1 := ?_) ?hw ?hn ?_ ?_; (case hw => unfold Region.wanted; rfl); (case hn => rfl); rotate_left
  · go_simp
    rfl
  refine hK.out _ _ ⟨(cf aA ((cf aA ((cf aA (hHeld.1)))))), (cf aA ((cf aA ((cf aA (hHeld.2))))))⟩ (fun hHeld => ?_); clear hK K; refine pu 8 (some 9) (fl 9 511) HT_ ?_; refine done_ (done_of HT_.out (by kernel_rfl)) ?_
  try go_wp2
  refine bodyPost_ret (results_ct rfl _ _ aM 35 #[.int .i64 b2, .int .i64 b3, .int .i64 (wrap64 ((wrap64 (a1 + a3)) - aV))] (0, 0) _ rfl (qP a8) Try.underlying35 rfl (by kernel_rfl)) rfl ?_; exact ⟨qE, qL HB⟩

/-! ### impl_Box_meets: function 93 -/
def impl_Box_meets.f (a0 : Int) (a1 : Int) (a2 : Int) (aA : Int) (a3 : Int) (aB : Int) (a4 : Int) (a5 : Int) : Option (Bool) := if a0 ≤ a4 then (if a3 ≤ a2 then (if a1 ≤ a5 then (some (decide (aB ≤ aA))) else (some false)) else (some false)) else (some false)
set_option maxHeartbeats 8000000 in
set_option maxRecDepth 100000 in
theorem impl_Box_meets.calls (a0 : Int) (a1 : Int) (a2 : Int) (aA : Int) (a3 : Int) (aB : Int) (a4 : Int) (a5 : Int) (r : Bool) (w : World) (h : impl_Box_meets.f a0 a1 a2 aA a3 aB a4 a5 = some r) :
    Calls Try.prog 93 #[.agg #[.int .i64 a0, .int .i64 a1, .int .i64 a2, .int .i64 aA], .agg #[.int .i64 a3, .int .i64 aB, .int .i64 a4, .int .i64 a5]] w fun e w' => e = .returned (.bool r) ∧ Below w.heap.size w w' := by
  have hu85 := Try.underlying85; have HB := az (Below.refl w.heap.size w); have H : (if a0 ≤ a4 then (if a3 ≤ a2 then (if a1 ≤ a5 then (some (decide (aB ≤ aA))) else (some false)) else (some false)) else (some false)) = some r := h; clear h; by_cases a6 : a0 ≤ a4; rw [if_pos a6] at H; have aF : decide (a0 ≤ a4) = true := decide_eq_true a6; clear a6; by_cases a7 : a3 ≤ a2; rw [if_pos a7] at H; have aG : decide (a3 ≤ a2) = true := decide_eq_true a7; clear a7; by_cases a8 : a1 ≤ a5; rw [if_pos a8] at H; have aH : decide (a1 ≤ a5) = true := decide_eq_true a8; clear a8; obtain rfl := Option.some.inj H; refine ?L1; rotate_left; rw [if_neg a8] at H; have aH : decide (a1 ≤ a5) = false := decide_eq_false a8; clear a8; obtain rfl := Option.some.inj H; refine ?L2
  rotate_right
  rotate_left 2
  rw [if_neg a7] at H; have aG : decide (a3 ≤ a2) = false := decide_eq_false a7; clear a7; obtain rfl := Option.some.inj H; refine ?L3
  rotate_right 2
  rotate_left 3
  rw [if_neg a6] at H; have aF : decide (a0 ≤ a4) = false := decide_eq_false a6; clear a6; obtain rfl := Option.some.inj H; refine ?L4
  rotate_right 3
  case' L1 | L2 | L3 | L4 =>
    go_enter Try.func93, Try.ntmps93; go_wp2_with (first | ((with_reducible refine gate_dst (N := 2) rfl ?_); refine bx (N := 2) (cs := #[.int .i64 a0, .int .i64 a1, .int .i64 a2, .int .i64 aA]) (t := 85) ?_; intro aI hg w6 hbox hb; have a9 := az hbox; have aJ := az ((gE hg (qL HB) : w.heap.size ≤ aI)); have b2 := aJ; replace HB := bS HB hb; clear hb hbox hg) | ((with_reducible refine gate_dst (N := 3) rfl ?_); refine bx (N := 3) (cs := #[.int .i64 a3, .int .i64 aB, .int .i64 a4, .int .i64 a5]) (t := 85) ?_; intro aK hg w7 hbox hb; have aE := az hbox; have aL := az ((gE hg (qL HB) : w.heap.size ≤ aK)); have b3 := aL; obtain ⟨aC, aD⟩ := nPB a9 hg; replace a9 := kBB a9 hb; replace HB := bS HB hb; clear hb hbox hg; have b4 := aC.out; have b5 := aD.out; obtain ⟨aU, aV, aW, aX⟩ := cz4 a9.out; obtain ⟨aY, aZ, b0, b1⟩ := fz4 a9.out; obtain ⟨aM, aN, aO, aP⟩ := cz4 aE.out; obtain ⟨aQ, aR, aS, aT⟩ := fz4 aE.out))
    go_ret
  case' L1 | L2 | L3 =>
    exact ⟨qE, qL HB⟩
  case L4 =>
    exact ⟨qE, qL HB⟩
    
end Go.Proofs.Ytdngjedhbnoaoaa.PBig
