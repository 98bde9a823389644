/- What these functions compute, each walked once: laws_eqBodyS; for all arguments and worlds, under the conditions that each theorem names. -/
import Derived.Test.YtdngjedhbnoaoaaSq
import Derived.Test.YtdngjedhbnoaoaaPBigx1215
namespace Go.Proofs.Ytdngjedhbnoaoaa.PBig
open Go.RowKit Go.Proofs.YtdngjedhbnoaoaaW.PrintWords Go.Proofs.YtdngjedhbnoaoaaW.PrintLast Go.Proofs.YtdngjedhbnoaoaaW.PrintMore
attribute [local go_sem] max2_int min2_int max_two min_two max_three min_three max_four min_four   -- for this text's walks alone
set_option linter.unusedVariables false
set_option linter.unusedSimpArgs false

/-! ### laws_eqBodyS: function 32 -/
def laws_eqBodyS.l0 : Nat → List (S41) → List (S41) → Int → Option (Bool)
  | 0, _, _, _ => none
  | k + 1, x0, x1, x5 => if x5 < (x0.length : Int) then (if 0 ≤ x5 then (if x5 < (x1.length : Int) then ((laws_eqBody.f ((rd_T41 x0 x5).f0) ((rd_T41 x0 x5).f1.f0) ((rd_T41 x0 x5).f1.f1) ((rd_T41 x0 x5).f1.f2) ((rd_T41 x0 x5).f2.f0) ((rd_T41 x0 x5).f2.f1) ((rd_T41 x0 x5).f3.f0) ((rd_T41 x0 x5).f3.f1) ((rd_T41 x0 x5).f4) ((rd_T41 x0 x5).f5) ((rd_T41 x0 x5).f6) ((rd_T41 x0 x5).f7) ((rd_T41 x1 x5).f0) ((rd_T41 x1 x5).f1.f0) ((rd_T41 x1 x5).f1.f1) ((rd_T41 x1 x5).f1.f2) ((rd_T41 x1 x5).f2.f0) ((rd_T41 x1 x5).f2.f1) ((rd_T41 x1 x5).f3.f0) ((rd_T41 x1 x5).f3.f1) ((rd_T41 x1 x5).f4) ((rd_T41 x1 x5).f5) ((rd_T41 x1 x5).f6) ((rd_T41 x1 x5).f7)).bind fun bW => (if bW = true then (laws_eqBodyS.l0 k x0 x1 (wrap64 (x5 + 1))) else (some false))) else (none)) else (none)) else (some true)
def laws_eqBodyS.f (k : Nat) (l0 : List (S41)) (l1 : List (S41)) : Option (Bool) := if (l0.length : Int) = (l1.length : Int) then (laws_eqBodyS.l0 k l0 l1 0) else (some false)
theorem laws_eqBodyS.mono_l : ∀ k, (∀ y0 y1 y2, LeO (laws_eqBodyS.l0 k y0 y1 y2) (laws_eqBodyS.l0 (k + 1) y0 y1 y2))
  | 0 => fun _ _ _ r h => by simp [laws_eqBodyS.l0] at h
  | k + 1 => by
    have ih0 := laws_eqBodyS.mono_l k
    · intro y0 y1 y2
      unfold laws_eqBodyS.l0
      repeat' first
      | (with_reducible exact ih0 _ _ _)
      | (with_reducible exact LeO.refl _)
      | (with_reducible exact LeO.none _)
      | (with_reducible refine LeO.ite ?_ ?_)
      | (with_reducible refine LeO.bind ?_ (fun _ => ?_))
theorem laws_eqBodyS.mono : ∀ a0 a1 k, LeO (laws_eqBodyS.f k a0 a1) (laws_eqBodyS.f (k + 1) a0 a1) := by
  intro a0 a1 k
  have ih0 := laws_eqBodyS.mono_l k
  unfold laws_eqBodyS.f
  repeat' first
      | (with_reducible exact ih0 _ _ _)
      | (with_reducible exact LeO.refl _)
      | (with_reducible exact LeO.none _)
      | (with_reducible refine LeO.ite ?_ ?_)
      | (with_reducible refine LeO.bind ?_ (fun _ => ?_))
def laws_eqBodyS.T6 : Bool × List (List Nat × List Nat) := (true, [([], []), ([], []), ([0, 1], [0, 1]), ([2], [2]), ([], []), ([], []), ([4, 5], [4, 5]), ([6], [6]), ([3, 7], [3, 7]), ([8], [8])])
def laws_eqBodyS.B6 : List Nat := [0, 0, 3, 7, 0, 0, 48, 112, 255, 511]
theorem laws_eqBodyS.tab6 : rtab .any (opsOf Try.f32 6) = laws_eqBodyS.T6 := by kernel_rfl
theorem laws_eqBodyS.bits6 : waitsOk laws_eqBodyS.T6.2 laws_eqBodyS.B6 = true := by kernel_rfl
set_option maxHeartbeats 8000000 in
set_option maxRecDepth 100000 in
theorem laws_eqBodyS.calls (k : Nat) (A0 : Option Addr) (c0 : Nat) (l0 : List (S41)) (A1 : Option Addr) (c1 : Nat) (l1 : List (S41)) (r : Bool) (w : World) (hr0 : Kd.C k41 w A0 l0.length l0) (hc0 : l0.length ≤ c0) (hr1 : Kd.C k41 w A1 l1.length l1) (hc1 : l1.length ≤ c1) (h : laws_eqBodyS.f k l0 l1 = some r) :
    Calls Try.prog 32 #[.slice A0 l0.length c0, .slice A1 l1.length c1] w fun e w' => e = .returned (.bool r) ∧ Below w.heap.size w w' := by
  have hu41 := Try.underlying41; have HR0 := az hr0; have c5 := az hc0; clear hr0 hc0; have HR1 := az hr1; have c6 := az hc1; clear hr1 hc1; have HB := az (Below.refl w.heap.size w); have H : (if (l0.length : Int) = (l1.length : Int) then (laws_eqBodyS.l0 k l0 l1 0) else (some false)) = some r := h; clear h; by_cases a5 : (l0.length : Int) = (l1.length : Int); rw [if_pos a5] at H; have bK : ((l0.length : Int) == (l1.length : Int)) = true := beq_iff_eq.mpr a5; have bL : ((l0.length : Int) != (l1.length : Int)) = false := bne_eq_false_iff_eq.mpr a5
  have bM : (l0.length == l1.length) = true := by first | simpa using a5 | (simp at a5 ⊢; omega)
  clear a5; have H' := az H; clear H; refine ?L4; rotate_left; rw [if_neg a5] at H; have bK : ((l0.length : Int) == (l1.length : Int)) = false := beq_eq_false_iff_ne.mpr a5; have bL : ((l0.length : Int) != (l1.length : Int)) = true := bne_iff_ne.mpr a5
  have bM : (l0.length == l1.length) = false := by first | simpa using a5 | (simp at a5 ⊢; omega)
  obtain rfl := Option.some.inj H; refine ?L5
  rotate_right
  case' L4 | L5 =>
    go_enter Try.func32, Try.ntmps32; go_wp2
  case L4 =>
    go_loopg [5] k (fun kq v5 w' => ∃ (a2 : Int), v5 = .int .i64 a2 ∧ Aside0 (laws_eqBodyS.l0 kq l0 l1 a2 = some r) ∧ Aside0 (kq ≤ k) ∧ Aside0 (Below w.heap.size w w'))
    case atStart => exact ⟨(0), qG, H', ⟨Nat.le_refl _⟩, ⟨qL HB⟩⟩
    case round =>
      clear H'; (try clear c1); (try clear a5); (try clear bK); (try clear bL); (try clear bM); obtain ⟨a2, rfl, HA, c2, HB⟩ := hrel
      cases gk with
      | zero => exact absurd HA.out (by simp [laws_eqBodyS.l0])
      | succ k1 => ?_
      have H := HA.out; clear HA; simp only [laws_eqBodyS.l0] at H; by_cases aY : a2 < (l0.length : Int); rw [if_pos aY] at H; have bV : decide (a2 < (l0.length : Int)) = true := decide_eq_true aY; clear aY; replace H := qif H; obtain ⟨bR, H⟩ := H; have c3 : decide (0 ≤ a2) = true := decide_eq_true bR; clear bR; replace H := qif H; obtain ⟨bT, H⟩ := H; have c4 : decide (a2 < (l1.length : Int)) = true := decide_eq_true bT; clear bT; replace H := qH H; obtain ⟨bX, bU, H⟩ := H
      try dsimp only at H
      by_cases bJ : bX = true; subst bJ; replace H := qT H; have H' := az H; clear H; refine ?L1; rotate_left; replace bJ := Bool.eq_false_iff.mpr bJ; subst bJ; replace H := qU H; obtain rfl := Option.some.inj H; refine ?L2
      rotate_right
      rotate_left 2
      rw [if_neg aY] at H; have bV : decide (a2 < (l0.length : Int)) = false := decide_eq_false aY; clear aY; obtain rfl := Option.some.inj H; refine ?L3
      rotate_right 2
      case' L1 | L2 =>
        try go_wp2
        replace HB := az (below_drew1 HB.out); have bN : 0 ≤ (a2 : Int) := qD; have bO : a2 < (l0.length : Int) := qD; obtain ⟨a3, bY, aA, aB, aC, aD, aE, aF, aG, aH, aI, aJ, a6, a7⟩ := at_T41 HR0.out a2 bN bO; have aU := a7; have aV := a6; have aZ := aJ; have b0 := aI; have b1 := aH; have b2 := aG; have b3 := aF; have b4 := aE; have b5 := aD; have b6 := aC; have b7 := aB; have b8 := aA; cases bY; obtain ⟨aA, aB, aC, aD, aE, aF, aG, aH, aI, aJ, a6, a7⟩ := hB12 HB aA aB aC aD aE aF aG aH aI aJ a6 a7; replace bN := eq_true bN; replace bO := eq_true bO; have bP : 0 ≤ (a2 : Int) := qD; have bQ : a2 < (l1.length : Int) := qD; obtain ⟨a4, bZ, aK, aL, aM, aN, aO, aP, aQ, aR, aS, aT, a8, a9⟩ := at_T41 HR1.out a2 bP bQ; have aW := a9; have aX := a8; have b9 := aT; have bA := aS; have bB := aR; have bC := aQ; have bD := aP; have bE := aO; have bF := aN; have bG := aM; have bH := aL; have bI := aK; cases bZ; obtain ⟨aK, aL, aM, aN, aO, aP, aQ, aR, aS, aT, a8, a9⟩ := hB12 HB aK aL aM aN aO aP aQ aR aS aT a8 a9; replace bP := eq_true bP; replace bQ := eq_true bQ; refine start_ (n := 10) (S := fun w' => w'.cell? (a3.add ((a2).toNat * 12)) = some (.int .i64 ((rd_T41 l0 a2).f0)) ∧ w'.cell? ⟨(a3.add ((a2).toNat * 12)).block, (a3.add ((a2).toNat * 12)).off + 1, none⟩ = some (.int .i64 ((rd_T41 l0 a2).f1.f0)) ∧ w'.cell? ⟨(a3.add ((a2).toNat * 12)).block, (a3.add ((a2).toNat * 12)).off + 2, none⟩ = some (.int .i64 ((rd_T41 l0 a2).f1.f1)) ∧ w'.cell? ⟨(a3.add ((a2).toNat * 12)).block, (a3.add ((a2).toNat * 12)).off + 3, none⟩ = some (.int .i64 ((rd_T41 l0 a2).f1.f2)) ∧ w'.cell? ⟨(a3.add ((a2).toNat * 12)).block, (a3.add ((a2).toNat * 12)).off + 4, none⟩ = some (.int .i64 ((rd_T41 l0 a2).f2.f0)) ∧ w'.cell? ⟨(a3.add ((a2).toNat * 12)).block, (a3.add ((a2).toNat * 12)).off + 5, none⟩ = some (.int .i64 ((rd_T41 l0 a2).f2.f1)) ∧ w'.cell? ⟨(a3.add ((a2).toNat * 12)).block, (a3.add ((a2).toNat * 12)).off + 6, none⟩ = some (.int .i64 ((rd_T41 l0 a2).f3.f0)) ∧ w'.cell? ⟨(a3.add ((a2).toNat * 12)).block, (a3.add ((a2).toNat * 12)).off + 7, none⟩ = some (.int .i64 ((rd_T41 l0 a2).f3.f1)) ∧ w'.cell? ⟨(a3.add ((a2).toNat * 12)).block, (a3.add ((a2).toNat * 12)).off + 8, none⟩ = some (.int .i64 ((rd_T41 l0 a2).f4)) ∧ w'.cell? ⟨(a3.add ((a2).toNat * 12)).block, (a3.add ((a2).toNat * 12)).off + 9, none⟩ = some (.int .i64 ((rd_T41 l0 a2).f5)) ∧ w'.cell? ⟨(a3.add ((a2).toNat * 12)).block, (a3.add ((a2).toNat * 12)).off + 10, none⟩ = some (.int .i64 ((rd_T41 l0 a2).f6)) ∧ w'.cell? ⟨(a3.add ((a2).toNat * 12)).block, (a3.add ((a2).toNat * 12)).off + 11, none⟩ = some (.int .i64 ((rd_T41 l0 a2).f7)) ∧ w'.cell? (a4.add ((a2).toNat * 12)) = some (.int .i64 ((rd_T41 l1 a2).f0)) ∧ w'.cell? ⟨(a4.add ((a2).toNat * 12)).block, (a4.add ((a2).toNat * 12)).off + 1, none⟩ = some (.int .i64 ((rd_T41 l1 a2).f1.f0)) ∧ w'.cell? ⟨(a4.add ((a2).toNat * 12)).block, (a4.add ((a2).toNat * 12)).off + 2, none⟩ = some (.int .i64 ((rd_T41 l1 a2).f1.f1)) ∧ w'.cell? ⟨(a4.add ((a2).toNat * 12)).block, (a4.add ((a2).toNat * 12)).off + 3, none⟩ = some (.int .i64 ((rd_T41 l1 a2).f1.f2)) ∧ w'.cell? ⟨(a4.add ((a2).toNat * 12)).block, (a4.add ((a2).toNat * 12)).off + 4, none⟩ = some (.int .i64 ((rd_T41 l1 a2).f2.f0)) ∧ w'.cell? ⟨(a4.add ((a2).toNat * 12)).block, (a4.add ((a2).toNat * 12)).off + 5, none⟩ = some (.int .i64 ((rd_T41 l1 a2).f2.f1)) ∧ w'.cell? ⟨(a4.add ((a2).toNat * 12)).block, (a4.add ((a2).toNat * 12)).off + 6, none⟩ = some (.int .i64 ((rd_T41 l1 a2).f3.f0)) ∧ w'.cell? ⟨(a4.add ((a2).toNat * 12)).block, (a4.add ((a2).toNat * 12)).off + 7, none⟩ = some (.int .i64 ((rd_T41 l1 a2).f3.f1)) ∧ w'.cell? ⟨(a4.add ((a2).toNat * 12)).block, (a4.add ((a2).toNat * 12)).off + 8, none⟩ = some (.int .i64 ((rd_T41 l1 a2).f4)) ∧ w'.cell? ⟨(a4.add ((a2).toNat * 12)).block, (a4.add ((a2).toNat * 12)).off + 9, none⟩ = some (.int .i64 ((rd_T41 l1 a2).f5)) ∧ w'.cell? ⟨(a4.add ((a2).toNat * 12)).block, (a4.add ((a2).toNat * 12)).off + 10, none⟩ = some (.int .i64 ((rd_T41 l1 a2).f6)) ∧ w'.cell? ⟨(a4.add ((a2).toNat * 12)).block, (a4.add ((a2).toNat * 12)).off + 11, none⟩ = some (.int .i64 ((rd_T41 l1 a2).f7))) (ds := []) #[false, false, false, false, false, false, false, false, false, false] (by kernel_rfl) rfl rfl ⟨(hB HB b8), (hB HB b7), (hB HB b6), (hB HB b5), (hB HB b4), (hB HB b3), (hB HB b2), (hB HB b1), (hB HB b0), (hB HB aZ), (hB HB aV), (hB HB aU), (hB HB bI), (hB HB bH), (hB HB bG), (hB HB bF), (hB HB bE), (hB HB bD), (hB HB bC), (hB HB bB), (hB HB bA), (hB HB b9), (hB HB aX), (hB HB aW)⟩ (fun hHeld => ?_); refine with_tabW laws_eqBodyS.tab6 laws_eqBodyS.bits6 (fun HT_ HW_ => ?_)
        generalize wr.drew = w9 at HB aA aB a6 a7 aC aD aE aF aG aH aI aJ aK aL a8 a9 aM aN aO aP aQ aR aS aT hHeld ⊢; refine pu 0 (some 17) (fl 10 1) HT_ ?_; refine pu 1 (some 18) (fl 10 3) HT_ ?_; refine pu 2 (some 19) (fl 10 7) HT_ ?_; refine pu 4 (some 21) (fl 10 23) HT_ ?_; refine pu 5 (some 22) (fl 10 55) HT_ ?_; refine pu 6 (some 23) (fl 10 119) HT_ ?_; refine tk24 3 (some 20) (fl 10 127) HT_ HW_ hHeld ?_; refine tk24 7 (some 24) (fl 10 255) HT_ HW_ hHeld ?_; refine on 8 (some 25) (fl 10 511) HT_ (fun K hK => ?_); refine go1 Try.func63 #[.agg #[.int .i64 ((rd_T41 l0 a2).f0), .int .i64 ((rd_T41 l0 a2).f1.f0), .int .i64 ((rd_T41 l0 a2).f1.f1), .int .i64 ((rd_T41 l0 a2).f1.f2), .int .i64 ((rd_T41 l0 a2).f2.f0), .int .i64 ((rd_T41 l0 a2).f2.f1), .int .i64 ((rd_T41 l0 a2).f3.f0), .int .i64 ((rd_T41 l0 a2).f3.f1), .int .i64 ((rd_T41 l0 a2).f4), .int .i64 ((rd_T41 l0 a2).f5), .int .i64 ((rd_T41 l0 a2).f6), .int .i64 ((rd_T41 l0 a2).f7)], .agg #[.int .i64 ((rd_T41 l1 a2).f0), .int .i64 ((rd_T41 l1 a2).f1.f0), .int .i64 ((rd_T41 l1 a2).f1.f1), .int .i64 ((rd_T41 l1 a2).f1.f2), .int .i64 ((rd_T41 l1 a2).f2.f0), .int .i64 ((rd_T41 l1 a2).f2.f1), .int .i64 ((rd_T41 l1 a2).f3.f0), .int .i64 ((rd_T41 l1 a2).f3.f1), .int .i64 ((rd_T41 l1 a2).f4), .int .i64 ((rd_T41 l1 a2).f5), .int .i64 ((rd_T41 l1 a2).f6), .int .i64 ((rd_T41 l1 a2).f7)]] ?_
      case L1 =>
        with_reducible refine (laws_eqBody.calls ((rd_T41 l0 a2).f0) ((rd_T41 l0 a2).f1.f0) ((rd_T41 l0 a2).f1.f1) ((rd_T41 l0 a2).f1.f2) ((rd_T41 l0 a2).f2.f0) ((rd_T41 l0 a2).f2.f1) ((rd_T41 l0 a2).f3.f0) ((rd_T41 l0 a2).f3.f1) ((rd_T41 l0 a2).f4) ((rd_T41 l0 a2).f5) ((rd_T41 l0 a2).f6) ((rd_T41 l0 a2).f7) ((rd_T41 l1 a2).f0) ((rd_T41 l1 a2).f1.f0) ((rd_T41 l1 a2).f1.f1) ((rd_T41 l1 a2).f1.f2) ((rd_T41 l1 a2).f2.f0) ((rd_T41 l1 a2).f2.f1) ((rd_T41 l1 a2).f3.f0) ((rd_T41 l1 a2).f3.f1) ((rd_T41 l1 a2).f4) ((rd_T41 l1 a2).f5) ((rd_T41 l1 a2).f6) ((rd_T41 l1 a2).f7) true _ bU.out).mono ?_
        rintro e c7 ⟨rfl, hb⟩; refine ⟨_, rfl, ?_⟩; replace HB := bS HB hb; clear hb; refine hK.out _ _ ⟨(hB HB b8), (hB HB b7), (hB HB b6), (hB HB b5), (hB HB b4), (hB HB b3), (hB HB b2), (hB HB b1), (hB HB b0), (hB HB aZ), (hB HB aV), (hB HB aU), (hB HB bI), (hB HB bH), (hB HB bG), (hB HB bF), (hB HB bE), (hB HB bD), (hB HB bC), (hB HB bB), (hB HB bA), (hB HB b9), (hB HB aX), (hB HB aW)⟩ (fun hHeld => ?_); clear hK K; refine nm (some 25) ?_; refine pu 9 (some 26) (fl 10 1023) HT_ ?_; refine done_ (done_of HT_.out (by kernel_rfl)) ?_
        try go_wp2
        go_roundg k1
        case measure => have := c2.out; omega
        exact ⟨(wrap64 (a2 + 1)), qG, H', ⟨by have := c2.out; omega⟩, ⟨qL HB⟩⟩
      case L2 =>
        with_reducible refine (laws_eqBody.calls ((rd_T41 l0 a2).f0) ((rd_T41 l0 a2).f1.f0) ((rd_T41 l0 a2).f1.f1) ((rd_T41 l0 a2).f1.f2) ((rd_T41 l0 a2).f2.f0) ((rd_T41 l0 a2).f2.f1) ((rd_T41 l0 a2).f3.f0) ((rd_T41 l0 a2).f3.f1) ((rd_T41 l0 a2).f4) ((rd_T41 l0 a2).f5) ((rd_T41 l0 a2).f6) ((rd_T41 l0 a2).f7) ((rd_T41 l1 a2).f0) ((rd_T41 l1 a2).f1.f0) ((rd_T41 l1 a2).f1.f1) ((rd_T41 l1 a2).f1.f2) ((rd_T41 l1 a2).f2.f0) ((rd_T41 l1 a2).f2.f1) ((rd_T41 l1 a2).f3.f0) ((rd_T41 l1 a2).f3.f1) ((rd_T41 l1 a2).f4) ((rd_T41 l1 a2).f5) ((rd_T41 l1 a2).f6) ((rd_T41 l1 a2).f7) false _ bU.out).mono ?_
        rintro e c8 ⟨rfl, hb⟩; refine ⟨_, rfl, ?_⟩; replace HB := bS HB hb; clear hb; refine hK.out _ _ ⟨(hB HB b8), (hB HB b7), (hB HB b6), (hB HB b5), (hB HB b4), (hB HB b3), (hB HB b2), (hB HB b1), (hB HB b0), (hB HB aZ), (hB HB aV), (hB HB aU), (hB HB bI), (hB HB bH), (hB HB bG), (hB HB bF), (hB HB bE), (hB HB bD), (hB HB bC), (hB HB bB), (hB HB bA), (hB HB b9), (hB HB aX), (hB HB aW)⟩ (fun hHeld => ?_); clear hK K; refine nm (some 25) ?_; refine pu 9 (some 26) (fl 10 1023) HT_ ?_; refine done_ (done_of HT_.out (by kernel_rfl)) ?_
        try go_wp2
        go_ret
        exact ⟨qE, qL HB⟩
      case L3 =>
        go_wp2
        go_ret
        exact ⟨qE, qL HB⟩
  case L5 =>
    go_ret
    exact ⟨qE, qL HB⟩
    
end Go.Proofs.Ytdngjedhbnoaoaa.PBig
