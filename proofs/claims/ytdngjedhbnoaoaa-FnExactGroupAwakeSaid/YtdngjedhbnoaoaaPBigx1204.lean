/- What these functions compute, each walked once: impl_Touch, impl_Body_touch; for all arguments and worlds, under the conditions that each theorem names. -/
import Derived.Test.YtdngjedhbnoaoaaSq
import Derived.Test.YtdngjedhbnoaoaaPBigx1200
import Derived.Test.YtdngjedhbnoaoaaPBigx1202
import Derived.Test.YtdngjedhbnoaoaaPBigx1203
namespace Go.Proofs.Ytdngjedhbnoaoaa.PBig
open Go.RowKit Go.Proofs.YtdngjedhbnoaoaaW.PrintWords Go.Proofs.YtdngjedhbnoaoaaW.PrintLast Go.Proofs.YtdngjedhbnoaoaaW.PrintMore
attribute [local go_sem] max2_int min2_int max_two min_two max_three min_three max_four min_four   -- for this text's walks alone
set_option linter.unusedVariables false
set_option linter.unusedSimpArgs false

/-! ### impl_Touch: function 48 -/
mutual
def impl_Touch.j0 : Nat → Bool → Int → Int → Int → Int → Int → Int → Int → Int → Int → Int → Option (Int × Int × Int × Bool)
  | 0, _, _, _, _, _, _, _, _, _, _, _ => none
  | k + 1, mG, bH, bM, bW, bN, bO, bP, bQ, bX, bR, bT => if mG = true then (some (0, 0, 0, false)) else (if bH = 1 then (impl_Touch.j1 k (bP == 1) bH bM bW bN bO bP bQ bX bR bT) else (impl_Touch.j1 k false bH bM bW bN bO bP bQ bX bR bT))
def impl_Touch.j1 : Nat → Bool → Int → Int → Int → Int → Int → Int → Int → Int → Int → Int → Option (Int × Int × Int × Bool)
  | 0, _, _, _, _, _, _, _, _, _, _, _ => none
  | k + 1, mH, bH, bM, bW, bN, bO, bP, bQ, bX, bR, bT => if mH = true then ((impl_rounds.f k bN bO bM bR bT bQ).bind fun bt961 => (some (bt961.1, bt961.2.1, bt961.2.2.1, bt961.2.2.2))) else (if bH = 2 then (impl_Touch.j2 k (bP == 2) bH bM bW bN bO bP bQ bX bR bT) else (impl_Touch.j2 k false bH bM bW bN bO bP bQ bX bR bT))
def impl_Touch.j2 : Nat → Bool → Int → Int → Int → Int → Int → Int → Int → Int → Int → Int → Option (Int × Int × Int × Bool)
  | 0, _, _, _, _, _, _, _, _, _, _, _ => none
  | k + 1, mI, bH, bM, bW, bN, bO, bP, bQ, bX, bR, bT => if mI = true then ((impl_Shape_bounds.f bH bM bW bN bO).bind fun bt965 => ((impl_Shape_bounds.f bP bQ bX bR bT).bind fun bt969 => ((impl_boxes.f k bt965.1 bt965.2.1 bt965.2.2.1 bt965.2.2.2 bt969.1 bt969.2.1 bt969.2.2.1 bt969.2.2.2).bind fun bt973 => (some (bt973.1, bt973.2.1, bt973.2.2.1, bt973.2.2.2))))) else (if bH = 2 then ((impl_Shape_bounds.f bH bM bW bN bO).bind fun bt977 => ((impl_boxRound.f k bt977.1 bt977.2.1 bt977.2.2.1 bt977.2.2.2 bR bT bQ).bind fun bt981 => (some (bt981.1, bt981.2.1, bt981.2.2.1, bt981.2.2.2)))) else ((impl_Shape_bounds.f bP bQ bX bR bT).bind fun bt985 => ((impl_boxRound.f k bt985.1 bt985.2.1 bt985.2.2.1 bt985.2.2.2 bN bO bM).bind fun bt989 => ((impl_Vec_opposite.f bt989.1 bt989.2.1).bind fun bt994 => (some (bt994.1, bt994.2, bt989.2.2.1, bt989.2.2.2))))))
end
def impl_Touch.f (k : Nat) (aJ : Int) (aM : Int) (aV : Int) (aN : Int) (aO : Int) (aU : Int) (aR : Int) (aW : Int) (aS : Int) (aT : Int) : Option (Int × Int × Int × Bool) := (impl_ShapeOk.f aJ aM aV).bind fun cX => (if cX = true then ((impl_ShapeOk.f aU aR aW).bind fun cY => (if cY = true then ((impl_isPlace.f aN aO).bind fun cZ => (if cZ = true then ((impl_isPlace.f aS aT).bind fun dA => (impl_Touch.j0 k (!dA) aJ aM aV aN aO aU aR aW aS aT)) else (impl_Touch.j0 k true aJ aM aV aN aO aU aR aW aS aT))) else (impl_Touch.j0 k true aJ aM aV aN aO aU aR aW aS aT))) else (impl_Touch.j0 k true aJ aM aV aN aO aU aR aW aS aT))
theorem impl_Touch.mono_l : ∀ k, (∀ y0 y1 y2 y3 y4 y5 y6 y7 y8 y9 cD, LeO (impl_Touch.j0 k y0 y1 y2 y3 y4 y5 y6 y7 y8 y9 cD) (impl_Touch.j0 (k + 1) y0 y1 y2 y3 y4 y5 y6 y7 y8 y9 cD)) ∧ (∀ y0 y1 y2 y3 y4 y5 y6 y7 y8 y9 cD, LeO (impl_Touch.j1 k y0 y1 y2 y3 y4 y5 y6 y7 y8 y9 cD) (impl_Touch.j1 (k + 1) y0 y1 y2 y3 y4 y5 y6 y7 y8 y9 cD)) ∧ (∀ y0 y1 y2 y3 y4 y5 y6 y7 y8 y9 cD, LeO (impl_Touch.j2 k y0 y1 y2 y3 y4 y5 y6 y7 y8 y9 cD) (impl_Touch.j2 (k + 1) y0 y1 y2 y3 y4 y5 y6 y7 y8 y9 cD))
  | 0 => ⟨fun _ _ _ _ _ _ _ _ _ _ _ r h => by simp [impl_Touch.j0] at h, fun _ _ _ _ _ _ _ _ _ _ _ r h => by simp [impl_Touch.j1] at h, fun _ _ _ _ _ _ _ _ _ _ _ r h => by simp [impl_Touch.j2] at h⟩
  | k + 1 => by
    obtain ⟨ih0, ih1, ih2⟩ := impl_Touch.mono_l k
    refine ⟨?_, ?_, ?_⟩
    · intro y0 y1 y2 y3 y4 y5 y6 y7 y8 y9 cD
      unfold impl_Touch.j0
      repeat' first
      | (with_reducible exact ih0 _ _ _ _ _ _ _ _ _ _ _)
      | (with_reducible exact ih1 _ _ _ _ _ _ _ _ _ _ _)
      | (with_reducible exact ih2 _ _ _ _ _ _ _ _ _ _ _)
      | (with_reducible exact impl_boxRound.mono _ _ _ _ _ _ _ _)
      | (with_reducible exact impl_boxes.mono _ _ _ _ _ _ _ _ _)
      | (with_reducible exact impl_rounds.mono _ _ _ _ _ _ _)
      | (with_reducible exact LeO.refl _)
      | (with_reducible exact LeO.none _)
      | (with_reducible refine LeO.ite ?_ ?_)
      | (with_reducible refine LeO.bind ?_ (fun _ => ?_))
    · intro y0 y1 y2 y3 y4 y5 y6 y7 y8 y9 cD
      unfold impl_Touch.j1
      repeat' first
      | (with_reducible exact ih0 _ _ _ _ _ _ _ _ _ _ _)
      | (with_reducible exact ih1 _ _ _ _ _ _ _ _ _ _ _)
      | (with_reducible exact ih2 _ _ _ _ _ _ _ _ _ _ _)
      | (with_reducible exact impl_boxRound.mono _ _ _ _ _ _ _ _)
      | (with_reducible exact impl_boxes.mono _ _ _ _ _ _ _ _ _)
      | (with_reducible exact impl_rounds.mono _ _ _ _ _ _ _)
      | (with_reducible exact LeO.refl _)
      | (with_reducible exact LeO.none _)
      | (with_reducible refine LeO.ite ?_ ?_)
      | (with_reducible refine LeO.bind ?_ (fun _ => ?_))
    · intro y0 y1 y2 y3 y4 y5 y6 y7 y8 y9 cD
      unfold impl_Touch.j2
      repeat' first
      | (with_reducible exact ih0 _ _ _ _ _ _ _ _ _ _ _)
      | (with_reducible exact ih1 _ _ _ _ _ _ _ _ _ _ _)
      | (with_reducible exact ih2 _ _ _ _ _ _ _ _ _ _ _)
      | (with_reducible exact impl_boxRound.mono _ _ _ _ _ _ _ _)
      | (with_reducible exact impl_boxes.mono _ _ _ _ _ _ _ _ _)
      | (with_reducible exact impl_rounds.mono _ _ _ _ _ _ _)
      | (with_reducible exact LeO.refl _)
      | (with_reducible exact LeO.none _)
      | (with_reducible refine LeO.ite ?_ ?_)
      | (with_reducible refine LeO.bind ?_ (fun _ => ?_))
theorem impl_Touch.mono : ∀ a0 a1 a2 a3 a4 a5 a6 a7 a8 a9 k, LeO (impl_Touch.f k a0 a1 a2 a3 a4 a5 a6 a7 a8 a9) (impl_Touch.f (k + 1) a0 a1 a2 a3 a4 a5 a6 a7 a8 a9) := by
  intro a0 a1 a2 a3 a4 a5 a6 a7 a8 a9 k
  obtain ⟨ih0, ih1, ih2⟩ := impl_Touch.mono_l k
  unfold impl_Touch.f
  repeat' first
      | (with_reducible exact ih0 _ _ _ _ _ _ _ _ _ _ _)
      | (with_reducible exact ih1 _ _ _ _ _ _ _ _ _ _ _)
      | (with_reducible exact ih2 _ _ _ _ _ _ _ _ _ _ _)
      | (with_reducible exact impl_boxRound.mono _ _ _ _ _ _ _ _)
      | (with_reducible exact impl_boxes.mono _ _ _ _ _ _ _ _ _)
      | (with_reducible exact impl_rounds.mono _ _ _ _ _ _ _)
      | (with_reducible exact LeO.refl _)
      | (with_reducible exact LeO.none _)
      | (with_reducible refine LeO.ite ?_ ?_)
      | (with_reducible refine LeO.bind ?_ (fun _ => ?_))
def impl_Touch.T6 : Bool × List (List Nat × List Nat) := (true, [([], []), ([], []), ([0, 1], [0, 1]), ([], []), ([], []), ([3, 4, 2], [3, 4]), ([2, 5, 5], [2, 5]), ([6], [6]), ([6], [6]), ([7, 6, 0, 1, 2, 3, 4, 5, 6, 7, 8], [7]), ([8, 9, 0, 1, 2, 3, 4, 5, 6, 7, 8, 9], [8])])
def impl_Touch.B6 : List Nat := [0, 0, 3, 0, 0, 31, 63, 127, 127, 511, 1023]
theorem impl_Touch.tab6 : rtab .any (opsOf Try.f48 6) = impl_Touch.T6 := by kernel_rfl
theorem impl_Touch.bits6 : waitsOk impl_Touch.T6.2 impl_Touch.B6 = true := by kernel_rfl
def impl_Touch.T8 : Bool × List (List Nat × List Nat) := (true, [([], []), ([], []), ([0, 1], [0, 1]), ([], []), ([], []), ([4], [4]), ([2, 3, 5, 2], [2, 3, 5]), ([6], [6]), ([6], [6]), ([7, 6, 0, 1, 2, 3, 4, 5, 6, 7, 8], [7]), ([8, 9, 0, 1, 2, 3, 4, 5, 6, 7, 8, 9], [8])])
def impl_Touch.B8 : List Nat := [0, 0, 3, 0, 0, 16, 63, 127, 127, 511, 1023]
theorem impl_Touch.tab8 : rtab .any (opsOf Try.f48 8) = impl_Touch.T8 := by kernel_rfl
theorem impl_Touch.bits8 : waitsOk impl_Touch.T8.2 impl_Touch.B8 = true := by kernel_rfl
def impl_Touch.T9 : Bool × List (List Nat × List Nat) := (true, [([], []), ([], []), ([0, 1], [0, 1]), ([], []), ([], []), ([4], [4]), ([2, 3, 5, 2], [2, 3, 5]), ([6], [6]), ([7], [7]), ([7], [7]), ([], []), ([10, 8, 6, 0, 1, 2, 3, 4, 5, 6, 7, 8, 10], [8, 10]), ([9, 11, 0, 1, 2, 3, 4, 5, 6, 7, 8, 9, 10, 11], [9])])
def impl_Touch.B9 : List Nat := [0, 0, 3, 0, 0, 16, 63, 127, 255, 255, 0, 1535, 4095]
theorem impl_Touch.tab9 : rtab .any (opsOf Try.f48 9) = impl_Touch.T9 := by kernel_rfl
theorem impl_Touch.bits9 : waitsOk impl_Touch.T9.2 impl_Touch.B9 = true := by kernel_rfl
set_option maxHeartbeats 8000000 in
set_option maxRecDepth 100000 in
theorem impl_Touch.calls (k : Nat) (aJ : Int) (aM : Int) (aV : Int) (aN : Int) (aO : Int) (aU : Int) (aR : Int) (aW : Int) (aS : Int) (aT : Int) (r1 : Int) (r2 : Int) (r3 : Int) (r4 : Bool) (w : World) (h : impl_Touch.f k aJ aM aV aN aO aU aR aW aS aT = some (r1, r2, r3, r4)) :
    Calls Try.prog 48 #[.agg #[.int .i64 aJ, .int .i64 aM, .int .i64 aV], .agg #[.int .i64 aN, .int .i64 aO], .agg #[.int .i64 aU, .int .i64 aR, .int .i64 aW], .agg #[.int .i64 aS, .int .i64 aT]] w fun e w' => e = .returned (.tuple #[.agg #[.int .i64 r1, .int .i64 r2, .int .i64 r3], .bool r4]) ∧ Below w.heap.size w w' := by
  have hu39 := Try.underlying39; have hu33 := Try.underlying33; have hu35 := Try.underlying35; have HB := az (Below.refl w.heap.size w); have H : ((impl_ShapeOk.f aJ aM aV).bind fun cX => (if cX = true then ((impl_ShapeOk.f aU aR aW).bind fun cY => (if cY = true then ((impl_isPlace.f aN aO).bind fun cZ => (if cZ = true then ((impl_isPlace.f aS aT).bind fun dA => (impl_Touch.j0 k (!dA) aJ aM aV aN aO aU aR aW aS aT)) else (impl_Touch.j0 k true aJ aM aV aN aO aU aR aW aS aT))) else (impl_Touch.j0 k true aJ aM aV aN aO aU aR aW aS aT))) else (impl_Touch.j0 k true aJ aM aV aN aO aU aR aW aS aT))) = some (r1, r2, r3, r4) := h; clear h; have dP := az H; clear H; go_enter Try.func48, Try.ntmps48
  go_upto_region 1 with (first | ((with_reducible refine gate_dst (N := 4) rfl ?_); refine bx (N := 4) (cs := #[.int .i64 aJ, .int .i64 aM, .int .i64 aV]) (t := 39) ?_; intro b0 hg w6 hbox hb; have aA := az hbox; have dU := az ((gE hg (qL HB) : w.heap.size ≤ b0)); have oE := dU; replace HB := bS HB hb; clear hb hbox hg) | ((with_reducible refine gate_dst (N := 5) rfl ?_); refine bx (N := 5) (cs := #[.int .i64 aN, .int .i64 aO]) (t := 33) ?_; intro bI hg w7 hbox hb; have aC := az hbox; have dV := az ((gE hg (qL HB) : w.heap.size ≤ bI)); have oF := dV; obtain ⟨bZ, c0⟩ := nPB aA hg; replace aA := kBB aA hb; replace HB := bS HB hb; clear hb hbox hg) | ((with_reducible refine gate_dst (N := 6) rfl ?_); refine bx (N := 6) (cs := #[.int .i64 aU, .int .i64 aR, .int .i64 aW]) (t := 39) ?_; intro b1 hg w8 hbox hb; have aB := az hbox; have dW := az ((gE hg (qL HB) : w.heap.size ≤ b1)); have oG := dW; obtain ⟨c1, c2⟩ := nPB aA hg; obtain ⟨c6, c7⟩ := nPB aC hg; replace aA := kBB aA hb; replace aC := kBB aC hb; replace HB := bS HB hb; clear hb hbox hg) | ((with_reducible refine gate_dst (N := 7) rfl ?_); refine bx (N := 7) (cs := #[.int .i64 aS, .int .i64 aT]) (t := 33) ?_; intro bJ hg w9 hbox hb; have aD := az hbox; have dX := az ((gE hg (qL HB) : w.heap.size ≤ bJ)); have oH := dX; obtain ⟨c3, c4⟩ := nPB aA hg; obtain ⟨cO, cP⟩ := nPB aC hg; obtain ⟨c8, c9⟩ := nPB aB hg; replace aA := kBB aA hb; replace aC := kBB aC hb; replace aB := kBB aB hb; replace HB := bS HB hb; clear hb hbox hg) | ((with_reducible refine gate_dst (N := 8) rfl ?_); refine bz3 (N := 8) (t := 35) ?_; intro bA hg rP hbox hb; have aE := az hbox; have dY := az ((gE hg (qL HB) : w.heap.size ≤ bA)); have oI := dY; obtain ⟨aF, aY⟩ := nPB aA hg; obtain ⟨aH, b2⟩ := nPB aC hg; obtain ⟨aG, aZ⟩ := nPB aB hg; obtain ⟨aI, b3⟩ := nPB aD hg; replace aA := kBB aA hb; replace aC := kBB aC hb; replace aB := kBB aB hb; replace aD := kBB aD hb; replace HB := bS HB hb; clear hb hbox hg))
  (try simp only [Act.put, List.setIfInBounds_toArray, List.set_cons_zero, List.set_cons_succ])
  go_cut [29] (fun mJ wc => ∃ (kq : Nat) (cQ : Bool), mJ = .bool cQ ∧ Aside0 (impl_Touch.j0 kq cQ aJ aM aV aN aO aU aR aW aS aT = some (r1, r2, r3, r4)) ∧ Aside0 (kq ≤ k) ∧ Aside0 (wc.heap[b0]? = some (.cells #[.int .i64 aJ, .int .i64 aM, .int .i64 aV] 39 (0, 0))) ∧ Aside0 (wc.heap[bI]? = some (.cells #[.int .i64 aN, .int .i64 aO] 33 (0, 0))) ∧ Aside0 (wc.heap[b1]? = some (.cells #[.int .i64 aU, .int .i64 aR, .int .i64 aW] 39 (0, 0))) ∧ Aside0 (wc.heap[bJ]? = some (.cells #[.int .i64 aS, .int .i64 aT] 33 (0, 0))) ∧ Aside0 (wc.heap[bA]? = some (.cells #[.int .i64 0, .int .i64 0, .int .i64 0] 35 (0, 0))) ∧ Aside0 (Below w.heap.size w wc))
  case first =>
    have H := dP.out; clear dP; replace H := qH H; obtain ⟨dZ, dF, H⟩ := H
    try dsimp only at H
    by_cases cR : dZ = true; subst cR; replace H := qT H; replace H := qH H; obtain ⟨e0, dG, H⟩ := H
    try dsimp only at H
    by_cases cS : e0 = true; subst cS; replace H := qT H; replace H := qH H; obtain ⟨e1, dH, H⟩ := H
    try dsimp only at H
    by_cases cT : e1 = true; subst cT; replace H := qT H; replace H := qH H; obtain ⟨dI, e2, H⟩ := H
    try dsimp only at H
    have H' := az H; clear H; refine ?L1; rotate_left; replace cT := Bool.eq_false_iff.mpr cT; subst cT; replace H := qU H; have H' := az H; clear H; refine ?L2
    rotate_right
    rotate_left 2
    replace cS := Bool.eq_false_iff.mpr cS; subst cS; replace H := qU H; have H' := az H; clear H; refine ?L3
    rotate_right 2
    rotate_left 3
    replace cR := Bool.eq_false_iff.mpr cR; subst cR; replace H := qU H; have H' := az H; clear H; refine ?L4
    rotate_right 3
    case' L1 | L2 | L3 | L4 =>
      have oJ := bZ.out; have oK := c0.out; have oL := c1.out; have oM := c2.out; have oN := c3.out; have oO := c4.out; have oP := aF.out; have oQ := aY.out; obtain ⟨lA, lB, lC⟩ := cz3 aA.out; obtain ⟨lD, lE, lF⟩ := fz3 aA.out
    case' L1 | L2 | L3 =>
      go_wp2_with (first | ((with_reducible refine gate_callee (f := 65) rfl ?_); refine gl (some 13) Try.func65 #[.agg #[.int .i64 aJ, .int .i64 aM, .int .i64 aV]] ?_; (with_reducible refine (impl_ShapeOk.calls aJ aM aV true _ dF.out).mono ?_); rintro e rQ ⟨rfl, hb⟩; refine ⟨_, rfl, ?_⟩; replace aA := kBB aA hb; replace aC := kBB aC hb; replace aB := kBB aB hb; replace aD := kBB aD hb; replace aE := kBB aE hb; replace HB := bS HB hb; clear hb; have oR := c7.out; have oS := c6.out; have oT := c8.out; have oU := c9.out; have oV := aG.out; have oW := aZ.out; obtain ⟨lG, lH, lI⟩ := cz3 aB.out; obtain ⟨lJ, lK, lL⟩ := fz3 aB.out) | (go_at_call 65; (with_reducible refine (impl_ShapeOk.calls aU aR aW true _ dG.out).mono ?_); rintro e rR ⟨rfl, hb⟩; replace aA := kBB aA hb; replace aC := kBB aC hb; replace aB := kBB aB hb; replace aD := kBB aD hb; replace aE := kBB aE hb; replace HB := bS HB hb; clear hb; have oX := cO.out; have oY := cP.out; have oZ := aH.out; have p0 := b2.out; obtain ⟨lM, lN⟩ := cz2 aC.out; have lO := blk_frozen aC.out 0; have lP := blk_frozen aC.out 1) | (go_at_call 66; (with_reducible refine (impl_isPlace.calls aN aO true _ dH.out).mono ?_); rintro e rS ⟨rfl, hb⟩; replace aA := kBB aA hb; replace aC := kBB aC hb; replace aB := kBB aB hb; replace aD := kBB aD hb; replace aE := kBB aE hb; replace HB := bS HB hb; clear hb; have p1 := aI.out; have p2 := b3.out; obtain ⟨lQ, lR⟩ := cz2 aD.out; have lS := blk_frozen aD.out 0; have lT := blk_frozen aD.out 1) | (go_at_call 66; (with_reducible refine (impl_isPlace.calls aS aT dI _ e2.out).mono ?_); rintro e rT ⟨rfl, hb⟩; replace aA := kBB aA hb; replace aC := kBB aC hb; replace aB := kBB aB hb; replace aD := kBB aD hb; replace aE := kBB aE hb; replace HB := bS HB hb; clear hb) | (go_at_call 66; (with_reducible refine (impl_isPlace.calls aN aO false _ dH.out).mono ?_); rintro e rU ⟨rfl, hb⟩; replace aA := kBB aA hb; replace aC := kBB aC hb; replace aB := kBB aB hb; replace aD := kBB aD hb; replace aE := kBB aE hb; replace HB := bS HB hb; clear hb) | (go_at_call 65; (with_reducible refine (impl_ShapeOk.calls aU aR aW false _ dG.out).mono ?_); rintro e rV ⟨rfl, hb⟩; replace aA := kBB aA hb; replace aC := kBB aC hb; replace aB := kBB aB hb; replace aD := kBB aD hb; replace aE := kBB aE hb; replace HB := bS HB hb; clear hb))
      go_meet
    case L1 =>
      exact ⟨_, (!dI), qG, H', ⟨qO⟩, ⟨qF aA⟩, ⟨qF aC⟩, ⟨qF aB⟩, ⟨qF aD⟩, ⟨qF aE⟩, ⟨qL HB⟩⟩
    case' L2 | L3 =>
      exact ⟨_, (true), qG, H', ⟨qO⟩, ⟨qF aA⟩, ⟨qF aC⟩, ⟨qF aB⟩, ⟨qF aD⟩, ⟨qF aE⟩, ⟨qL HB⟩⟩
    case L4 =>
      go_wp2_with (first | ((with_reducible refine gate_callee (f := 65) rfl ?_); refine gl (some 13) Try.func65 #[.agg #[.int .i64 aJ, .int .i64 aM, .int .i64 aV]] ?_; (with_reducible refine (impl_ShapeOk.calls aJ aM aV false _ dF.out).mono ?_); rintro e rW ⟨rfl, hb⟩; refine ⟨_, rfl, ?_⟩; replace aA := kBB aA hb; replace aC := kBB aC hb; replace aB := kBB aB hb; replace aD := kBB aD hb; replace aE := kBB aE hb; replace HB := bS HB hb; clear hb))
      go_meet
      exact ⟨_, (true), qG, H', ⟨qO⟩, ⟨qF aA⟩, ⟨qF aC⟩, ⟨qF aB⟩, ⟨qF aD⟩, ⟨qF aE⟩, ⟨qL HB⟩⟩
  case rest =>
    clear dP; obtain ⟨kq, cQ, rfl, HA, dJ, aA, aC, aB, aD, aE, HB⟩ := hcut
    cases kq with
    | zero => exact absurd HA.out (by simp [impl_Touch.j0])
    | succ mK => ?_
    have H := HA.out; clear HA; simp only [impl_Touch.j0] at H; by_cases cE : cQ = true; subst cE; replace H := qT H; simp only [Option.some.injEq, Prod.mk.injEq] at H; obtain ⟨rfl, rfl, rfl, rfl⟩ := H; refine ?L5; rotate_left; replace cE := Bool.eq_false_iff.mpr cE; subst cE; replace H := qU H; refine ?L15
    rotate_right
    case L5 =>
      have p3 := aY.out; have p4 := aF.out; have p5 := b2.out; have p6 := aH.out; have p7 := aZ.out; have p8 := aG.out; have p9 := b3.out; have pA := aI.out; obtain ⟨lU, lV, lW⟩ := cz3 aE.out; obtain ⟨lX, lY, lZ⟩ := fz3 aE.out; go_wp2; refine bodyPost_ret (results_ct rfl _ _ bA 35 #[.int .i64 0, .int .i64 0, .int .i64 0] (0, 0) _ rfl (qP aE) Try.underlying35 rfl (by kernel_rfl)) rfl ?_; exact ⟨qE, qL HB⟩
    case L15 =>
      have dB := az H; clear H
      go_upto_region 3 with (fail)
      go_cut [31] (fun mL wc => ∃ (kq : Nat) (cI : Bool), mL = .bool cI ∧ Aside0 (impl_Touch.j1 kq cI aJ aM aV aN aO aU aR aW aS aT = some (r1, r2, r3, r4)) ∧ Aside0 (kq ≤ mK) ∧ Aside0 (wc.heap[b0]? = some (.cells #[.int .i64 aJ, .int .i64 aM, .int .i64 aV] 39 (0, 0))) ∧ Aside0 (wc.heap[bI]? = some (.cells #[.int .i64 aN, .int .i64 aO] 33 (0, 0))) ∧ Aside0 (wc.heap[b1]? = some (.cells #[.int .i64 aU, .int .i64 aR, .int .i64 aW] 39 (0, 0))) ∧ Aside0 (wc.heap[bJ]? = some (.cells #[.int .i64 aS, .int .i64 aT] 33 (0, 0))) ∧ Aside0 (wc.heap[bA]? = some (.cells #[.int .i64 0, .int .i64 0, .int .i64 0] 35 (0, 0))) ∧ Aside0 (Below w.heap.size w wc))
      case first =>
        have H := dB.out; clear dB; by_cases cB : aJ = 1; rw [if_pos cB] at H; have cA : (aJ == 1) = true := beq_iff_eq.mpr cB; have dO : (aJ != 1) = false := bne_eq_false_iff_eq.mpr cB; clear cB; (first | rw [cA] | (simp only [i64_w, i32_w]; rw [cA]) | skip); have H' := az H; clear H; refine ?L6; rotate_left; rw [if_neg cB] at H; have cA : (aJ == 1) = false := beq_eq_false_iff_ne.mpr cB; have dO : (aJ != 1) = true := bne_iff_ne.mpr cB; (first | rw [cA] | (simp only [i64_w, i32_w]; rw [cA]) | skip); have H' := az H; clear H; refine ?L7
        rotate_right
        case' L6 | L7 =>
          have pB := bZ.out; have pC := c0.out; have pD := c1.out; have pE := c2.out; have pF := c3.out; have pG := c4.out; have pH := aF.out; have pI := aY.out; obtain ⟨m0, m1, m2⟩ := cz3 aA.out; obtain ⟨m3, m4, m5⟩ := fz3 aA.out
        case L6 =>
          have pJ := c7.out; have pK := c6.out; have pL := c8.out; have pM := c9.out; have pN := aG.out; have pO := aZ.out; obtain ⟨m6, m7, m8⟩ := cz3 aB.out; obtain ⟨m9, mA, mB⟩ := fz3 aB.out; go_wp2
          go_meet
          exact ⟨_, ((aU == 1)), qG, H', ⟨by have := dJ.out; first | omega | exact Nat.le_refl _⟩, ⟨qF aA⟩, ⟨qF aC⟩, ⟨qF aB⟩, ⟨qF aD⟩, ⟨qF aE⟩, ⟨qL HB⟩⟩
        case L7 =>
          go_wp2
          go_meet
          exact ⟨_, (false), qG, H', ⟨by have := dJ.out; first | omega | exact Nat.le_refl _⟩, ⟨qF aA⟩, ⟨qF aC⟩, ⟨qF aB⟩, ⟨qF aD⟩, ⟨qF aE⟩, ⟨qL HB⟩⟩
      case rest =>
        clear dB; (try clear cE); obtain ⟨kq, cI, rfl, HA, dQ, aA, aC, aB, aD, aE, HB⟩ := hcut
        cases kq with
        | zero => exact absurd HA.out (by simp [impl_Touch.j1])
        | succ dR => ?_
        have H := HA.out; clear HA; simp only [impl_Touch.j1] at H; by_cases cJ : cI = true; subst cJ; replace H := qT H; replace H := qH H; obtain ⟨⟨dK, dL, dM, e3⟩, e4, H⟩ := H
        try dsimp only at H
        simp only [Option.some.injEq, Prod.mk.injEq] at H; obtain ⟨rfl, rfl, rfl, rfl⟩ := H; refine ?L8; rotate_left; replace cJ := Bool.eq_false_iff.mpr cJ; subst cJ; replace H := qU H; refine ?L14
        rotate_right
        case L8 =>
          have pP := c0.out; have pQ := bZ.out; have pR := c6.out; have pS := c7.out; have pT := cO.out; have pU := cP.out; have pV := aH.out; have pW := b2.out; obtain ⟨mC, mD⟩ := cz2 aC.out; have mE := blk_frozen aC.out 0; have mF := blk_frozen aC.out 1; have pX := c1.out; have pY := c2.out; have pZ := c3.out; have r0 := c4.out; have r5 := aF.out; have r6 := aY.out; obtain ⟨e6, e7, e8⟩ := cz3 aA.out; obtain ⟨e9, eA, eB⟩ := fz3 aA.out; have mM := c9.out; have mN := c8.out; have mO := aI.out; have mP := b3.out; obtain ⟨eC, eD⟩ := cz2 aD.out; have eE := blk_frozen aD.out 0; have eF := blk_frozen aD.out 1; have mQ := aG.out; have mR := aZ.out; obtain ⟨eG, eH, eI⟩ := cz3 aB.out; obtain ⟨eJ, eK, eL⟩ := fz3 aB.out; go_wp2_with (first | ((with_reducible refine gate_callee (f := 67) rfl ?_); refine gl (some 46) Try.func67 #[.agg #[.int .i64 aN, .int .i64 aO], .int .i64 aM, .agg #[.int .i64 aS, .int .i64 aT], .int .i64 aR] ?_; (with_reducible refine (impl_rounds.calls dR aN aO aM aS aT aR dK dL dM e3 _ e4.out).mono ?_); rintro e rH ⟨rfl, hb⟩; refine ⟨_, rfl, ?_⟩; replace aA := kBB aA hb; replace aC := kBB aC hb; replace aB := kBB aB hb; replace aD := kBB aD hb; replace aE := kBB aE hb; replace HB := bS HB hb; clear hb; obtain ⟨eM, eN, eO⟩ := cz3 aE.out; obtain ⟨eP, eQ, eR⟩ := fz3 aE.out)); refine bodyPost_ret (results_ct rfl _ _ bA 35 #[.int .i64 dK, .int .i64 dL, .int .i64 dM] (0, 0) _ rfl (qP aE) Try.underlying35 rfl (by kernel_rfl)) rfl ?_; exact ⟨qE, qL HB⟩
        case L14 =>
          have cV := az H; clear H
          go_upto_region 5 with (fail)
          go_cut [49] (fun mS wc => ∃ (kq : Nat) (cF : Bool), mS = .bool cF ∧ Aside0 (impl_Touch.j2 kq cF aJ aM aV aN aO aU aR aW aS aT = some (r1, r2, r3, r4)) ∧ Aside0 (kq ≤ dR) ∧ Aside0 (wc.heap[b0]? = some (.cells #[.int .i64 aJ, .int .i64 aM, .int .i64 aV] 39 (0, 0))) ∧ Aside0 (wc.heap[bI]? = some (.cells #[.int .i64 aN, .int .i64 aO] 33 (0, 0))) ∧ Aside0 (wc.heap[b1]? = some (.cells #[.int .i64 aU, .int .i64 aR, .int .i64 aW] 39 (0, 0))) ∧ Aside0 (wc.heap[bJ]? = some (.cells #[.int .i64 aS, .int .i64 aT] 33 (0, 0))) ∧ Aside0 (wc.heap[bA]? = some (.cells #[.int .i64 0, .int .i64 0, .int .i64 0] 35 (0, 0))) ∧ Aside0 (Below w.heap.size w wc))
          case first =>
            have H := cV.out; clear cV; by_cases bK : aJ = 2; rw [if_pos bK] at H; have bY : (aJ == 2) = true := beq_iff_eq.mpr bK; have cN : (aJ != 2) = false := bne_eq_false_iff_eq.mpr bK; clear bK; (first | rw [bY] | (simp only [i64_w, i32_w]; rw [bY]) | skip); have H' := az H; clear H; refine ?L9; rotate_left; rw [if_neg bK] at H; have bY : (aJ == 2) = false := beq_eq_false_iff_ne.mpr bK; have cN : (aJ != 2) = true := bne_iff_ne.mpr bK; (first | rw [bY] | (simp only [i64_w, i32_w]; rw [bY]) | skip); have H' := az H; clear H; refine ?L10
            rotate_right
            case' L9 | L10 =>
              have mT := bZ.out; have mU := c0.out; have mV := c1.out; have mW := c2.out; have mX := c3.out; have mY := c4.out; have mZ := aF.out; have nA := aY.out; obtain ⟨eS, eT, eU⟩ := cz3 aA.out; obtain ⟨eV, eW, eX⟩ := fz3 aA.out
            case L9 =>
              have nB := c7.out; have nC := c6.out; have nD := c8.out; have nE := c9.out; have nF := aG.out; have nG := aZ.out; obtain ⟨eY, eZ, fA⟩ := cz3 aB.out; obtain ⟨fB, fC, fD⟩ := fz3 aB.out; go_wp2
              go_meet
              exact ⟨_, ((aU == 2)), qG, H', ⟨by have := dJ.out; have := dQ.out; first | omega | exact Nat.le_refl _⟩, ⟨qF aA⟩, ⟨qF aC⟩, ⟨qF aB⟩, ⟨qF aD⟩, ⟨qF aE⟩, ⟨qL HB⟩⟩
            case L10 =>
              go_wp2
              go_meet
              exact ⟨_, (false), qG, H', ⟨by have := dJ.out; have := dQ.out; first | omega | exact Nat.le_refl _⟩, ⟨qF aA⟩, ⟨qF aC⟩, ⟨qF aB⟩, ⟨qF aD⟩, ⟨qF aE⟩, ⟨qL HB⟩⟩
          case rest =>
            clear cV; (try clear cE); (try clear cJ); obtain ⟨kq, cF, rfl, HA, r7, aA, aC, aB, aD, aE, HB⟩ := hcut
            cases kq with
            | zero => exact absurd HA.out (by simp [impl_Touch.j2])
            | succ cK => ?_
            have H := HA.out; clear HA; simp only [impl_Touch.j2] at H; by_cases cU : cF = true; subst cU; replace H := qT H; replace H := qH H; obtain ⟨⟨bB, bC, bD, bE⟩, cG, H⟩ := H
            try dsimp only at H
            replace H := qH H; obtain ⟨⟨bF, bG, bL, bU⟩, cC, H⟩ := H
            try dsimp only at H
            replace H := qH H; obtain ⟨⟨cL, cM, dN, e5⟩, cW, H⟩ := H
            try dsimp only at H
            simp only [Option.some.injEq, Prod.mk.injEq] at H; obtain ⟨rfl, rfl, rfl, rfl⟩ := H; refine ?L11; rotate_left; replace cU := Bool.eq_false_iff.mpr cU; subst cU; replace H := qU H; by_cases bK : aJ = 2; rw [if_pos bK] at H; have bY : (aJ == 2) = true := beq_iff_eq.mpr bK; have cN : (aJ != 2) = false := bne_eq_false_iff_eq.mpr bK; clear bK; replace H := qH H; obtain ⟨⟨bB, bC, bD, bE⟩, cG, H⟩ := H
            try dsimp only at H
            replace H := qH H; obtain ⟨⟨bF, bG, bL, bU⟩, cC, H⟩ := H
            try dsimp only at H
            simp only [Option.some.injEq, Prod.mk.injEq] at H; obtain ⟨rfl, rfl, rfl, rfl⟩ := H; refine ?L12; rotate_left; rw [if_neg bK] at H; have bY : (aJ == 2) = false := beq_eq_false_iff_ne.mpr bK; have cN : (aJ != 2) = true := bne_iff_ne.mpr bK; replace H := qH H; obtain ⟨⟨bB, bC, bD, bE⟩, cG, H⟩ := H
            try dsimp only at H
            replace H := qH H; obtain ⟨⟨bF, bG, bL, bU⟩, cC, H⟩ := H
            try dsimp only at H
            replace H := qH H; obtain ⟨⟨cL, cM⟩, cW, H⟩ := H
            try dsimp only at H
            simp only [Option.some.injEq, Prod.mk.injEq] at H; obtain ⟨rfl, rfl, rfl, rfl⟩ := H; refine ?L13
            rotate_right
            rotate_right
            case L11 =>
              try go_wp2
              replace aA := az (blk_drew aA.out); replace aC := az (blk_drew aC.out); replace aB := az (blk_drew aB.out); replace aD := az (blk_drew aD.out); replace aE := az (blk_drew aE.out); replace HB := az (below_drew1 HB.out); refine start_ (n := 11) (S := fun w' => w'.cell? ⟨b0, 0, none⟩ = some (.int .i64 aJ) ∧ w'.cell? ⟨b0, 1, none⟩ = some (.int .i64 aM) ∧ w'.cell? ⟨b0, 2, none⟩ = some (.int .i64 aV) ∧ w'.cell? ⟨bI, 0, none⟩ = some (.int .i64 aN) ∧ w'.cell? ⟨bI, 1, none⟩ = some (.int .i64 aO) ∧ w'.cell? ⟨b1, 0, none⟩ = some (.int .i64 aU) ∧ w'.cell? ⟨b1, 1, none⟩ = some (.int .i64 aR) ∧ w'.cell? ⟨b1, 2, none⟩ = some (.int .i64 aW) ∧ w'.cell? ⟨bJ, 0, none⟩ = some (.int .i64 aS) ∧ w'.cell? ⟨bJ, 1, none⟩ = some (.int .i64 aT)) (ds := []) #[false, false, false, false, false, false, false, false, false, false, false] (by kernel_rfl) rfl rfl ⟨bc aA 0, bc aA 1, bc aA 2, bc aC 0, bc aC 1, bc aB 0, bc aB 1, bc aB 2, bc aD 0, bc aD 1⟩ (fun hHeld => ?_); refine with_tabW impl_Touch.tab6 impl_Touch.bits6 (fun HT_ HW_ => ?_); generalize wc.drew = rI at aA aC aB aD aE HB hHeld ⊢; refine tk10 0 (some 58) (fl 11 1) HT_ HW_ hHeld ?_; refine tk10 1 (some 59) (fl 11 3) HT_ HW_ hHeld ?_; refine tk10 3 (some 61) (fl 11 11) HT_ HW_ hHeld ?_; refine tk10 4 (some 62) (fl 11 27) HT_ HW_ hHeld ?_; refine on 2 (some 60) (fl 11 31) HT_ (fun K hK => ?_); refine go1 Try.func69 #[.agg #[.int .i64 aJ, .int .i64 aM, .int .i64 aV], .agg #[.int .i64 aN, .int .i64 aO]] ?_
              with_reducible refine (impl_Shape_bounds.calls aJ aM aV aN aO bB bC bD bE _ cG.out).mono ?_
              rintro e rJ ⟨rfl, hb⟩; refine ⟨_, rfl, ?_⟩; replace aA := kBB aA hb; replace aC := kBB aC hb; replace aB := kBB aB hb; replace aD := kBB aD hb; replace aE := kBB aE hb; replace HB := bS HB hb; clear hb; refine hK.out _ _ ⟨bc aA 0, bc aA 1, bc aA 2, bc aC 0, bc aC 1, bc aB 0, bc aB 1, bc aB 2, bc aD 0, bc aD 1⟩ (fun hHeld => ?_); clear hK K; refine nm (some 60) ?_; refine on 5 (some 63) (fl 11 63) HT_ (fun K hK => ?_); refine go1 Try.func69 #[.agg #[.int .i64 aU, .int .i64 aR, .int .i64 aW], .agg #[.int .i64 aS, .int .i64 aT]] ?_
              with_reducible refine (impl_Shape_bounds.calls aU aR aW aS aT bF bG bL bU _ cC.out).mono ?_
              rintro e rK ⟨rfl, hb⟩; refine ⟨_, rfl, ?_⟩; replace aA := kBB aA hb; replace aC := kBB aC hb; replace aB := kBB aB hb; replace aD := kBB aD hb; replace aE := kBB aE hb; replace HB := bS HB hb; clear hb; refine hK.out _ _ ⟨bc aA 0, bc aA 1, bc aA 2, bc aC 0, bc aC 1, bc aB 0, bc aB 1, bc aB 2, bc aD 0, bc aD 1⟩ (fun hHeld => ?_); clear hK K; refine nm (some 63) ?_; refine on 6 (some 64) (fl 11 127) HT_ (fun K hK => ?_); refine go1 Try.func68 #[.agg #[.int .i64 bB, .int .i64 bC, .int .i64 bD, .int .i64 bE], .agg #[.int .i64 bF, .int .i64 bG, .int .i64 bL, .int .i64 bU]] ?_
              with_reducible refine (impl_boxes.calls cK bB bC bD bE bF bG bL bU cL cM dN e5 _ cW.out).mono ?_
              rintro e dC ⟨rfl, hb⟩; refine ⟨_, rfl, ?_⟩; replace aA := kBB aA hb; replace aC := kBB aC hb; replace aB := kBB aB hb; replace aD := kBB aD hb; replace aE := kBB aE hb; replace HB := bS HB hb; clear hb; refine hK.out _ _ ⟨bc aA 0, bc aA 1, bc aA 2, bc aC 0, bc aC 1, bc aB 0, bc aB 1, bc aB 2, bc aD 0, bc aD 1⟩ (fun hHeld => ?_); clear hK K; refine nm (some 64) ?_; refine pu 7 (some 65) (fl 11 255) HT_ ?_; refine pu 8 (some 66) (fl 11 511) HT_ ?_; refine on 9 (none) (fl 11 1023) HT_ (fun K hK => ?_); have r8 : dC.cell? ⟨bA, 0, none⟩ = some (.int .i64 0) := bc aE 0; have nH := blk_frozen aE.out 0; have fE := aF.out; have fG := aH.out; have fH := aG.out; have fI := aI.out; have fJ := aY.out; have fK := b2.out; have fL := aZ.out; have fM := b3.out; have r9 : dC.cell? ⟨bA, 1, none⟩ = some (.int .i64 0) := bc aE 1; have nI := blk_frozen aE.out 1; have fN := aF.out; have fO := aH.out; have fP := aG.out; have fQ := aI.out; have fR := aY.out; have fS := b2.out; have fT := aZ.out; have fU := b3.out; have rA : dC.cell? ⟨bA, 2, none⟩ = some (.int .i64 0) := bc aE 2; have nJ := blk_frozen aE.out 2; have fV := aF.out; have fW := aH.out; have fX := aG.out; have fY := aI.out; have fZ := aY.out; have g0 := b2.out; have g1 := aZ.out; have g2 := b3.out; refine skip_ (w1 := ?_) ?hw ?hn ?_ ?_; (case hw => unfold Region.wanted; rfl); (case hn => rfl); rotate_left
              · go_simp
                rfl
              refine hK.out _ _ ⟨(cf aF ((cf aF ((cf aF (hHeld.1)))))), (cf aF ((cf aF ((cf aF (hHeld.2.1)))))), (cf aF ((cf aF ((cf aF (hHeld.2.2.1)))))), (cf aH ((cf aH ((cf aH (hHeld.2.2.2.1)))))), (cf aH ((cf aH ((cf aH (hHeld.2.2.2.2.1)))))), (cf aG ((cf aG ((cf aG (hHeld.2.2.2.2.2.1)))))), (cf aG ((cf aG ((cf aG (hHeld.2.2.2.2.2.2.1)))))), (cf aG ((cf aG ((cf aG (hHeld.2.2.2.2.2.2.2.1)))))), (cf aI ((cf aI ((cf aI (hHeld.2.2.2.2.2.2.2.2.1)))))), (cf aI ((cf aI ((cf aI (hHeld.2.2.2.2.2.2.2.2.2))))))⟩ (fun hHeld => ?_); clear hK K; refine pu 10 (some 9) (fl 11 2047) HT_ ?_; refine done_ (done_of HT_.out (by kernel_rfl)) ?_
              try go_wp2
              refine bodyPost_ret (results_ct rfl _ _ bA 35 #[.int .i64 cL, .int .i64 cM, .int .i64 dN] (0, 0) _ rfl (qP aE) Try.underlying35 rfl (by kernel_rfl)) rfl ?_; exact ⟨qE, qL HB⟩
            case' L12 | L13 =>
              have nK := bZ.out; have nL := c0.out; have nM := c1.out; have nN := c2.out; have nO := c3.out; have nP := c4.out; have nQ := aF.out; have nR := aY.out; obtain ⟨g3, g4, g5⟩ := cz3 aA.out; obtain ⟨g6, g7, g8⟩ := fz3 aA.out
              try go_wp2
              replace aA := az (blk_drew aA.out); replace aC := az (blk_drew aC.out); replace aB := az (blk_drew aB.out); replace aD := az (blk_drew aD.out); replace aE := az (blk_drew aE.out); replace HB := az (below_drew1 HB.out)
            case L12 =>
              refine start_ (n := 11) (S := fun w' => w'.cell? ⟨b0, 0, none⟩ = some (.int .i64 aJ) ∧ w'.cell? ⟨b0, 1, none⟩ = some (.int .i64 aM) ∧ w'.cell? ⟨b0, 2, none⟩ = some (.int .i64 aV) ∧ w'.cell? ⟨bI, 0, none⟩ = some (.int .i64 aN) ∧ w'.cell? ⟨bI, 1, none⟩ = some (.int .i64 aO) ∧ w'.cell? ⟨bJ, 0, none⟩ = some (.int .i64 aS) ∧ w'.cell? ⟨bJ, 1, none⟩ = some (.int .i64 aT) ∧ w'.cell? ⟨b1, 0, none⟩ = some (.int .i64 aU) ∧ w'.cell? ⟨b1, 1, none⟩ = some (.int .i64 aR) ∧ w'.cell? ⟨b1, 2, none⟩ = some (.int .i64 aW)) (ds := []) #[false, false, false, false, false, false, false, false, false, false, false] (by kernel_rfl) rfl rfl ⟨bc aA 0, bc aA 1, bc aA 2, bc aC 0, bc aC 1, bc aD 0, bc aD 1, bc aB 0, bc aB 1, bc aB 2⟩ (fun hHeld => ?_); refine with_tabW impl_Touch.tab8 impl_Touch.bits8 (fun HT_ HW_ => ?_); generalize wc.drew = rL at aA aC aB aD aE HB hHeld ⊢; refine pu 4 (some 75) (fl 11 16) HT_ ?_; refine tk10 0 (some 71) (fl 11 17) HT_ HW_ hHeld ?_; refine tk10 1 (some 72) (fl 11 19) HT_ HW_ hHeld ?_; refine tk10 3 (some 74) (fl 11 27) HT_ HW_ hHeld ?_; refine tk10 5 (some 76) (fl 11 59) HT_ HW_ hHeld ?_; refine on 2 (some 73) (fl 11 63) HT_ (fun K hK => ?_); refine go1 Try.func69 #[.agg #[.int .i64 aJ, .int .i64 aM, .int .i64 aV], .agg #[.int .i64 aN, .int .i64 aO]] ?_
              with_reducible refine (impl_Shape_bounds.calls aJ aM aV aN aO bB bC bD bE _ cG.out).mono ?_
              rintro e rM ⟨rfl, hb⟩; refine ⟨_, rfl, ?_⟩; replace aA := kBB aA hb; replace aC := kBB aC hb; replace aB := kBB aB hb; replace aD := kBB aD hb; replace aE := kBB aE hb; replace HB := bS HB hb; clear hb; refine hK.out _ _ ⟨bc aA 0, bc aA 1, bc aA 2, bc aC 0, bc aC 1, bc aD 0, bc aD 1, bc aB 0, bc aB 1, bc aB 2⟩ (fun hHeld => ?_); clear hK K; refine nm (some 73) ?_; refine on 6 (some 77) (fl 11 127) HT_ (fun K hK => ?_); refine go1 Try.func70 #[.agg #[.int .i64 bB, .int .i64 bC, .int .i64 bD, .int .i64 bE], .agg #[.int .i64 aS, .int .i64 aT], .int .i64 aR] ?_
              with_reducible refine (impl_boxRound.calls cK bB bC bD bE aS aT aR bF bG bL bU _ cC.out).mono ?_
              rintro e dD ⟨rfl, hb⟩; refine ⟨_, rfl, ?_⟩; replace aA := kBB aA hb; replace aC := kBB aC hb; replace aB := kBB aB hb; replace aD := kBB aD hb; replace aE := kBB aE hb; replace HB := bS HB hb; clear hb; refine hK.out _ _ ⟨bc aA 0, bc aA 1, bc aA 2, bc aC 0, bc aC 1, bc aD 0, bc aD 1, bc aB 0, bc aB 1, bc aB 2⟩ (fun hHeld => ?_); clear hK K; refine nm (some 77) ?_; refine pu 7 (some 78) (fl 11 255) HT_ ?_; refine pu 8 (some 79) (fl 11 511) HT_ ?_; refine on 9 (none) (fl 11 1023) HT_ (fun K hK => ?_); have rB : dD.cell? ⟨bA, 0, none⟩ = some (.int .i64 0) := bc aE 0; have nS := blk_frozen aE.out 0; have g9 := aF.out; have gA := aH.out; have gB := aG.out; have gC := aI.out; have gD := aY.out; have gF := b2.out; have gG := aZ.out; have gH := b3.out; have rC : dD.cell? ⟨bA, 1, none⟩ = some (.int .i64 0) := bc aE 1; have nT := blk_frozen aE.out 1; have gI := aF.out; have gJ := aH.out; have gL := aG.out; have gM := aI.out; have gN := aY.out; have gO := b2.out; have gP := aZ.out; have gQ := b3.out; have rD : dD.cell? ⟨bA, 2, none⟩ = some (.int .i64 0) := bc aE 2; have nU := blk_frozen aE.out 2; have gR := aF.out; have gS := aH.out; have gT := aG.out; have gU := aI.out; have gV := aY.out; have gW := b2.out; have gX := aZ.out; have gY := b3.out; refine skip_ (w1 := ?_) ?hw ?hn ?_ ?_; (case hw => unfold Region.wanted; rfl); (case hn => rfl); rotate_left
              · go_simp
                rfl
              refine hK.out _ _ ⟨(cf aF ((cf aF ((cf aF (hHeld.1)))))), (cf aF ((cf aF ((cf aF (hHeld.2.1)))))), (cf aF ((cf aF ((cf aF (hHeld.2.2.1)))))), (cf aH ((cf aH ((cf aH (hHeld.2.2.2.1)))))), (cf aH ((cf aH ((cf aH (hHeld.2.2.2.2.1)))))), (cf aI ((cf aI ((cf aI (hHeld.2.2.2.2.2.1)))))), (cf aI ((cf aI ((cf aI (hHeld.2.2.2.2.2.2.1)))))), (cf aG ((cf aG ((cf aG (hHeld.2.2.2.2.2.2.2.1)))))), (cf aG ((cf aG ((cf aG (hHeld.2.2.2.2.2.2.2.2.1)))))), (cf aG ((cf aG ((cf aG (hHeld.2.2.2.2.2.2.2.2.2))))))⟩ (fun hHeld => ?_); clear hK K; refine pu 10 (some 9) (fl 11 2047) HT_ ?_; refine done_ (done_of HT_.out (by kernel_rfl)) ?_
              try go_wp2
              refine bodyPost_ret (results_ct rfl _ _ bA 35 #[.int .i64 bF, .int .i64 bG, .int .i64 bL] (0, 0) _ rfl (qP aE) Try.underlying35 rfl (by kernel_rfl)) rfl ?_; exact ⟨qE, qL HB⟩
            case L13 =>
              refine start_ (n := 13) (S := fun w' => w'.cell? ⟨b1, 0, none⟩ = some (.int .i64 aU) ∧ w'.cell? ⟨b1, 1, none⟩ = some (.int .i64 aR) ∧ w'.cell? ⟨b1, 2, none⟩ = some (.int .i64 aW) ∧ w'.cell? ⟨bJ, 0, none⟩ = some (.int .i64 aS) ∧ w'.cell? ⟨bJ, 1, none⟩ = some (.int .i64 aT) ∧ w'.cell? ⟨bI, 0, none⟩ = some (.int .i64 aN) ∧ w'.cell? ⟨bI, 1, none⟩ = some (.int .i64 aO) ∧ w'.cell? ⟨b0, 0, none⟩ = some (.int .i64 aJ) ∧ w'.cell? ⟨b0, 1, none⟩ = some (.int .i64 aM) ∧ w'.cell? ⟨b0, 2, none⟩ = some (.int .i64 aV)) (ds := []) #[false, false, false, false, false, false, false, false, false, false, false, false, false] (by kernel_rfl) rfl rfl ⟨bc aB 0, bc aB 1, bc aB 2, bc aD 0, bc aD 1, bc aC 0, bc aC 1, bc aA 0, bc aA 1, bc aA 2⟩ (fun hHeld => ?_); refine with_tabW impl_Touch.tab9 impl_Touch.bits9 (fun HT_ HW_ => ?_); generalize wc.drew = rN at aA aC aB aD aE HB hHeld ⊢; refine pu 4 (some 85) (fl 13 16) HT_ ?_; refine tk10 0 (some 81) (fl 13 17) HT_ HW_ hHeld ?_; refine tk10 1 (some 82) (fl 13 19) HT_ HW_ hHeld ?_; refine tk10 3 (some 84) (fl 13 27) HT_ HW_ hHeld ?_; refine tk10 5 (some 86) (fl 13 59) HT_ HW_ hHeld ?_; refine join_ (σ := Nat) 2 (fl 13 2047) (fun s_ => [(83, .agg #[.int .i64 bB, .int .i64 bC, .int .i64 bD, .int .i64 bE]), (87, .tuple #[.agg #[.int .i64 bF, .int .i64 bG, .int .i64 bL], .bool bU]), (10, .pointer (some ⟨s_, 0, none⟩)), (80, .tuple #[.agg #[.int .i64 bF, .int .i64 bG, .int .i64 bL], .bool bU]), (88, .agg #[.int .i64 bF, .int .i64 bG, .int .i64 bL]), (89, .bool bU)]) (fun s_ w' => (w'.cell? ⟨b1, 0, none⟩ = some (.int .i64 aU) ∧ w'.cell? ⟨b1, 1, none⟩ = some (.int .i64 aR) ∧ w'.cell? ⟨b1, 2, none⟩ = some (.int .i64 aW) ∧ w'.cell? ⟨bJ, 0, none⟩ = some (.int .i64 aS) ∧ w'.cell? ⟨bJ, 1, none⟩ = some (.int .i64 aT) ∧ w'.cell? ⟨bI, 0, none⟩ = some (.int .i64 aN) ∧ w'.cell? ⟨bI, 1, none⟩ = some (.int .i64 aO) ∧ w'.cell? ⟨b0, 0, none⟩ = some (.int .i64 aJ) ∧ w'.cell? ⟨b0, 1, none⟩ = some (.int .i64 aM) ∧ w'.cell? ⟨b0, 2, none⟩ = some (.int .i64 aV)) ∧ (w'.heap[b0]? = some (.cells #[.int .i64 aJ, .int .i64 aM, .int .i64 aV] 39 (0, 0))) ∧ (w'.heap[bI]? = some (.cells #[.int .i64 aN, .int .i64 aO] 33 (0, 0))) ∧ (w'.heap[b1]? = some (.cells #[.int .i64 aU, .int .i64 aR, .int .i64 aW] 39 (0, 0))) ∧ (w'.heap[bJ]? = some (.cells #[.int .i64 aS, .int .i64 aT] 33 (0, 0))) ∧ (w'.heap[bA]? = some (.cells #[.int .i64 0, .int .i64 0, .int .i64 0] 35 (0, 0))) ∧ (w'.heap[s_]? = some (.cells #[.int .i64 0, .int .i64 0, .int .i64 0] 35 (0, 0))) ∧ (w.heap.size ≤ s_) ∧ (w.heap.size ≤ s_) ∧ (b0 ≠ s_) ∧ (s_ ≠ b0) ∧ (bI ≠ s_) ∧ (s_ ≠ bI) ∧ (b1 ≠ s_) ∧ (s_ ≠ b1) ∧ (bJ ≠ s_) ∧ (s_ ≠ bJ) ∧ (bA ≠ s_) ∧ (s_ ≠ bA) ∧ (Below w.heap.size w w')) ?_ ?_; rotate_left
              · intro hCont; refine two_ (i := 2) (j := 10) (Ni := some 83) (Nj := some 10) (fl 13 63) (fl 13 1083) rfl rfl rfl rfl (two_of HT_.out (by kernel_rfl)) (by decide) (by decide) (fun K hK => ?_) (fun K hK => ?_)
                · skip; refine go1 Try.func69 #[.agg #[.int .i64 aU, .int .i64 aR, .int .i64 aW], .agg #[.int .i64 aS, .int .i64 aT]] ?_
                  with_reducible refine (impl_Shape_bounds.calls aU aR aW aS aT bB bC bD bE _ cG.out).mono ?_
                  rintro e gZ ⟨rfl, hb⟩; refine ⟨_, rfl, ?_⟩; replace aA := kBB aA hb; replace aC := kBB aC hb; replace aB := kBB aB hb; replace aD := kBB aD hb; replace aE := kBB aE hb; replace HB := bS HB hb; clear hb; refine hK.out _ _ ⟨bc aB 0, bc aB 1, bc aB 2, bc aD 0, bc aD 1, bc aC 0, bc aC 1, bc aA 0, bc aA 1, bc aA 2⟩ (fun hHeld => ?_); clear hK K; refine nm (some 83) ?_; refine two_ (i := 6) (j := 10) (Ni := some 87) (Nj := some 10) (fl 13 127) (fl 13 1087) rfl rfl rfl rfl (two_of HT_.out (by kernel_rfl)) (by decide) (by decide) (fun K hK => ?_) (fun K hK => ?_)
                  · skip; refine go1 Try.func70 #[.agg #[.int .i64 bB, .int .i64 bC, .int .i64 bD, .int .i64 bE], .agg #[.int .i64 aN, .int .i64 aO], .int .i64 aM] ?_
                    with_reducible refine (impl_boxRound.calls cK bB bC bD bE aN aO aM bF bG bL bU _ cC.out).mono ?_
                    rintro e dS ⟨rfl, hb⟩; refine ⟨_, rfl, ?_⟩; replace aA := kBB aA hb; replace aC := kBB aC hb; replace aB := kBB aB hb; replace aD := kBB aD hb; replace aE := kBB aE hb; replace HB := bS HB hb; clear hb; refine hK.out _ _ ⟨bc aB 0, bc aB 1, bc aB 2, bc aD 0, bc aD 1, bc aC 0, bc aC 1, bc aA 0, bc aA 1, bc aA 2⟩ (fun hHeld => ?_); clear hK K; refine nm (some 87) ?_; refine pu 7 (some 80) (fl 13 255) HT_ ?_; refine pu 8 (some 88) (fl 13 511) HT_ ?_; refine pu 9 (some 89) (fl 13 1023) HT_ ?_; refine on 10 (some 10) (fl 13 2047) HT_ (fun K hK => ?_); refine box_step ?hg (N := 10) ?hd (cs := #[.int .i64 0, .int .i64 0, .int .i64 0]) (t := 35) ?hr ?_; (case hd => rfl); (case hg => rfl); (case hr => first | (go_simp; done) | (go_simp; rfl)); intro bV hg dT hbox hb; have aX := az hbox; have c5 := az ((gE hg (qL HB) : w.heap.size ≤ bV)); have cH := c5; obtain ⟨aK, b4⟩ := nPB aA hg; obtain ⟨aP, b5⟩ := nPB aC hg; obtain ⟨aL, b6⟩ := nPB aB hg; obtain ⟨aQ, b7⟩ := nPB aD hg; obtain ⟨b8, b9⟩ := nPB aE hg; replace aA := kBB aA hb; replace aC := kBB aC hb; replace aB := kBB aB hb; replace aD := kBB aD hb; replace aE := kBB aE hb; replace HB := bS HB hb; clear hb hbox hg; refine hK.out _ _ ⟨bc aB 0, bc aB 1, bc aB 2, bc aD 0, bc aD 1, bc aC 0, bc aC 1, bc aA 0, bc aA 1, bc aA 2⟩ (fun hHeld => ?_); clear hK K; refine nm (some 10) ?_; exact nrm (hCont (bV) _ ⟨hHeld, (qB aA), (qB aC), (qB aB), (qB aD), (qB aE), (qB aX), c5.out, cH.out, aK.out, b4.out, aP.out, b5.out, aL.out, b6.out, aQ.out, b7.out, b8.out, b9.out, (qL HB)⟩)
                  skip; refine box_step ?hg (N := 10) ?hd (cs := #[.int .i64 0, .int .i64 0, .int .i64 0]) (t := 35) ?hr ?_; (case hd => rfl); (case hg => rfl); (case hr => first | (go_simp; done) | (go_simp; rfl)); intro bV hg dS hbox hb; have aX := az hbox; have c5 := az ((gE hg (qL HB) : w.heap.size ≤ bV)); have cH := c5; obtain ⟨aK, b4⟩ := nPB aA hg; obtain ⟨aP, b5⟩ := nPB aC hg; obtain ⟨aL, b6⟩ := nPB aB hg; obtain ⟨aQ, b7⟩ := nPB aD hg; obtain ⟨b8, b9⟩ := nPB aE hg; replace aA := kBB aA hb; replace aC := kBB aC hb; replace aB := kBB aB hb; replace aD := kBB aD hb; replace aE := kBB aE hb; replace HB := bS HB hb; clear hb hbox hg; refine hK.out _ _ ⟨bc aB 0, bc aB 1, bc aB 2, bc aD 0, bc aD 1, bc aC 0, bc aC 1, bc aA 0, bc aA 1, bc aA 2⟩ (fun hHeld => ?_); clear hK K; refine nm (some 10) ?_; refine on 6 (some 87) (fl 13 1151) HT_ (fun K hK => ?_); refine go1 Try.func70 #[.agg #[.int .i64 bB, .int .i64 bC, .int .i64 bD, .int .i64 bE], .agg #[.int .i64 aN, .int .i64 aO], .int .i64 aM] ?_
                  with_reducible refine (impl_boxRound.calls cK bB bC bD bE aN aO aM bF bG bL bU _ cC.out).mono ?_
                  rintro e dT ⟨rfl, hb⟩; refine ⟨_, rfl, ?_⟩; replace aA := kBB aA hb; replace aC := kBB aC hb; replace aB := kBB aB hb; replace aD := kBB aD hb; replace aE := kBB aE hb; replace aX := kBB aX hb; replace HB := bS HB hb; clear hb; refine hK.out _ _ ⟨bc aB 0, bc aB 1, bc aB 2, bc aD 0, bc aD 1, bc aC 0, bc aC 1, bc aA 0, bc aA 1, bc aA 2⟩ (fun hHeld => ?_); clear hK K; refine nm (some 87) ?_; refine pu 7 (some 80) (fl 13 1279) HT_ ?_; refine pu 8 (some 88) (fl 13 1535) HT_ ?_; refine pu 9 (some 89) (fl 13 2047) HT_ ?_; exact nrm (hCont (bV) _ ⟨hHeld, (qB aA), (qB aC), (qB aB), (qB aD), (qB aE), (qB aX), c5.out, cH.out, aK.out, b4.out, aP.out, b5.out, aL.out, b6.out, aQ.out, b7.out, b8.out, b9.out, (qL HB)⟩)
                skip; refine box_step ?hg (N := 10) ?hd (cs := #[.int .i64 0, .int .i64 0, .int .i64 0]) (t := 35) ?hr ?_; (case hd => rfl); (case hg => rfl); (case hr => first | (go_simp; done) | (go_simp; rfl)); intro bV hg gZ hbox hb; have aX := az hbox; have c5 := az ((gE hg (qL HB) : w.heap.size ≤ bV)); have cH := c5; obtain ⟨aK, b4⟩ := nPB aA hg; obtain ⟨aP, b5⟩ := nPB aC hg; obtain ⟨aL, b6⟩ := nPB aB hg; obtain ⟨aQ, b7⟩ := nPB aD hg; obtain ⟨b8, b9⟩ := nPB aE hg; replace aA := kBB aA hb; replace aC := kBB aC hb; replace aB := kBB aB hb; replace aD := kBB aD hb; replace aE := kBB aE hb; replace HB := bS HB hb; clear hb hbox hg; refine hK.out _ _ ⟨bc aB 0, bc aB 1, bc aB 2, bc aD 0, bc aD 1, bc aC 0, bc aC 1, bc aA 0, bc aA 1, bc aA 2⟩ (fun hHeld => ?_); clear hK K; refine nm (some 10) ?_; refine on 2 (some 83) (fl 13 1087) HT_ (fun K hK => ?_); refine go1 Try.func69 #[.agg #[.int .i64 aU, .int .i64 aR, .int .i64 aW], .agg #[.int .i64 aS, .int .i64 aT]] ?_
                with_reducible refine (impl_Shape_bounds.calls aU aR aW aS aT bB bC bD bE _ cG.out).mono ?_
                rintro e dS ⟨rfl, hb⟩; refine ⟨_, rfl, ?_⟩; replace aA := kBB aA hb; replace aC := kBB aC hb; replace aB := kBB aB hb; replace aD := kBB aD hb; replace aE := kBB aE hb; replace aX := kBB aX hb; replace HB := bS HB hb; clear hb; refine hK.out _ _ ⟨bc aB 0, bc aB 1, bc aB 2, bc aD 0, bc aD 1, bc aC 0, bc aC 1, bc aA 0, bc aA 1, bc aA 2⟩ (fun hHeld => ?_); clear hK K; refine nm (some 83) ?_; refine on 6 (some 87) (fl 13 1151) HT_ (fun K hK => ?_); refine go1 Try.func70 #[.agg #[.int .i64 bB, .int .i64 bC, .int .i64 bD, .int .i64 bE], .agg #[.int .i64 aN, .int .i64 aO], .int .i64 aM] ?_
                with_reducible refine (impl_boxRound.calls cK bB bC bD bE aN aO aM bF bG bL bU _ cC.out).mono ?_
                rintro e dT ⟨rfl, hb⟩; refine ⟨_, rfl, ?_⟩; replace aA := kBB aA hb; replace aC := kBB aC hb; replace aB := kBB aB hb; replace aD := kBB aD hb; replace aE := kBB aE hb; replace aX := kBB aX hb; replace HB := bS HB hb; clear hb; refine hK.out _ _ ⟨bc aB 0, bc aB 1, bc aB 2, bc aD 0, bc aD 1, bc aC 0, bc aC 1, bc aA 0, bc aA 1, bc aA 2⟩ (fun hHeld => ?_); clear hK K; refine nm (some 87) ?_; refine pu 7 (some 80) (fl 13 1279) HT_ ?_; refine pu 8 (some 88) (fl 13 1535) HT_ ?_; refine pu 9 (some 89) (fl 13 2047) HT_ ?_; exact nrm (hCont (bV) _ ⟨hHeld, (qB aA), (qB aC), (qB aB), (qB aD), (qB aE), (qB aX), c5.out, cH.out, aK.out, b4.out, aP.out, b5.out, aL.out, b6.out, aQ.out, b7.out, b8.out, b9.out, (qL HB)⟩)
              rintro bV dE ⟨hS_, h0_, h1_, h2_, h3_, h4_, h5_, h6_, h7_, h8_, h9_, h10_, h11_, h12_, h13_, h14_, h15_, h16_, h17_, h18_⟩; have aX := az h5_; have c5 := az h6_; have cH := az h7_; have aK := az h8_; have b4 := az h9_; have aP := az h10_; have b5 := az h11_; have aL := az h12_; have b6 := az h13_; have aQ := az h14_; have b7 := az h15_; have b8 := az h16_; have b9 := az h17_; replace aA := az h0_; replace aC := az h1_; replace aB := az h2_; replace aD := az h3_; replace aE := az h4_; replace HB := az h18_; clear h0_ h1_ h2_ h3_ h4_ h5_ h6_ h7_ h8_ h9_ h10_ h11_ h12_ h13_ h14_ h15_ h16_ h17_ h18_; have hHeld := hS_; refine nmp ?_; refine on 11 (none) (fl 13 4095) HT_ (fun K hK => ?_); have rE : dE.cell? ⟨bV, 0, none⟩ = some (.int .i64 0) := bc aX 0; have nV := blk_frozen aX.out 0; have hA := aK.out; have hD := aP.out; have hE := aL.out; have hF := aQ.out; have hG := b8.out; have hH := b4.out; have hI := b5.out; have hJ := b6.out; have hL := b7.out; have hM := b9.out; have rF : dE.cell? ⟨bV, 1, none⟩ = some (.int .i64 0) := bc aX 1; have nW := blk_frozen aX.out 1; have hO := aK.out; have hP := aP.out; have hQ := aL.out; have hR := aQ.out; have hS := b8.out; have hU := b4.out; have hV := b5.out; have hW := b6.out; have hX := b7.out; have hY := b9.out; have rG : dE.cell? ⟨bV, 2, none⟩ = some (.int .i64 0) := bc aX 2; have nX := blk_frozen aX.out 2; have hZ := aK.out; have jA := aP.out; have jB := aL.out; have jC := aQ.out; have jD := b8.out; have jE := b4.out; have jF := b5.out; have jG := b6.out; have jH := b7.out; have jI := b9.out; refine skip_ (w1 := ?_) ?hw ?hn ?_ ?_; (case hw => unfold Region.wanted; rfl); (case hn => rfl); rotate_left
              · go_simp
                rfl
              refine hK.out _ _ ⟨(cf aL ((cf aL ((cf aL (hHeld.1)))))), (cf aL ((cf aL ((cf aL (hHeld.2.1)))))), (cf aL ((cf aL ((cf aL (hHeld.2.2.1)))))), (cf aQ ((cf aQ ((cf aQ (hHeld.2.2.2.1)))))), (cf aQ ((cf aQ ((cf aQ (hHeld.2.2.2.2.1)))))), (cf aP ((cf aP ((cf aP (hHeld.2.2.2.2.2.1)))))), (cf aP ((cf aP ((cf aP (hHeld.2.2.2.2.2.2.1)))))), (cf aK ((cf aK ((cf aK (hHeld.2.2.2.2.2.2.2.1)))))), (cf aK ((cf aK ((cf aK (hHeld.2.2.2.2.2.2.2.2.1)))))), (cf aK ((cf aK ((cf aK (hHeld.2.2.2.2.2.2.2.2.2))))))⟩ (fun hHeld => ?_); clear hK K; refine pu 12 (some 11) (fl 13 8191) HT_ ?_; refine done_ (done_of HT_.out (by kernel_rfl)) ?_; have nY := b4.out; have nZ := aK.out; have o0 := b5.out; have o1 := aP.out; have o2 := b6.out; have o3 := aL.out; have o4 := b7.out; have o5 := aQ.out; have o6 := b9.out; have o7 := b8.out; obtain ⟨jJ, jK, jL⟩ := cz3 aX.out; obtain ⟨jM, jN, jO⟩ := fz3 aX.out
              try go_wp2_with (first | ((with_reducible refine gate_callee (f := 71) rfl ?_); refine gl (some 92) Try.func71 #[.agg #[.int .i64 bF, .int .i64 bG]] ?_; (with_reducible refine (impl_Vec_opposite.calls bF bG cL cM _ cW.out).mono ?_); rintro e rO ⟨rfl, hb⟩; refine ⟨_, rfl, ?_⟩; replace aA := kBF aA hb; replace aC := kBF aC hb; replace aB := kBF aB hb; replace aD := kBF aD hb; replace aE := kBF aE hb; replace aX := kBP (o' := .cells #[.int .i64 bF, .int .i64 bG, .int .i64 bL] 35 (0, 0)) aX hb; replace HB := bS HB hb; clear hb; obtain ⟨jP, jQ, jR⟩ := cz3 aX.out; obtain ⟨jS, jT, jU⟩ := fz3 aX.out; have o8 := b2.out; have o9 := aH.out; have oA := aZ.out; have oB := aG.out; have oC := b3.out; have oD := aI.out; obtain ⟨jV, jW, jX⟩ := cz3 aE.out; obtain ⟨jY, jZ, l9⟩ := fz3 aE.out))
              refine bodyPost_ret (results_ct rfl _ _ bA 35 #[.int .i64 cL, .int .i64 cM, .int .i64 bL] (0, 0) _ rfl (qP aE) Try.underlying35 rfl (by kernel_rfl)) rfl ?_; exact ⟨qE, qL HB⟩
              

/-! ### impl_Body_touch: function 55 -/
def impl_Body_touch.f (k : Nat) (aR : Int) (aC : Int) (aD : Int) (aE : Int) (aF : Int) (aG : Int) (aS : Int) (aT : Int) (aU : Int) (aV : Int) (aN : Int) (aO : Int) (aW : Int) (aH : Int) (aI : Int) (aJ : Int) (aK : Int) (aL : Int) (aX : Int) (aY : Int) (aZ : Int) (b0 : Int) (aP : Int) (aQ : Int) : Option (Int × Int × Int × Bool) := (impl_Touch.f k aC aD aE aF aG aH aI aJ aK aL).bind fun bt999 => (some (bt999.1, bt999.2.1, bt999.2.2.1, bt999.2.2.2))
theorem impl_Body_touch.mono : ∀ a0 a1 a2 a3 a4 a5 a6 a7 a8 a9 bA bB bC bD bE bF bG bH bI bJ bK bL bM bN k, LeO (impl_Body_touch.f k a0 a1 a2 a3 a4 a5 a6 a7 a8 a9 bA bB bC bD bE bF bG bH bI bJ bK bL bM bN) (impl_Body_touch.f (k + 1) a0 a1 a2 a3 a4 a5 a6 a7 a8 a9 bA bB bC bD bE bF bG bH bI bJ bK bL bM bN) := by
  intro a0 a1 a2 a3 a4 a5 a6 a7 a8 a9 bA bB bC bD bE bF bG bH bI bJ bK bL bM bN k
  unfold impl_Body_touch.f
  repeat' first
      | (with_reducible exact impl_Touch.mono _ _ _ _ _ _ _ _ _ _ _)
      | (with_reducible exact LeO.refl _)
      | (with_reducible exact LeO.none _)
      | (with_reducible refine LeO.ite ?_ ?_)
      | (with_reducible refine LeO.bind ?_ (fun _ => ?_))
set_option maxHeartbeats 8000000 in
set_option maxRecDepth 100000 in
theorem impl_Body_touch.calls (k : Nat) (aR : Int) (aC : Int) (aD : Int) (aE : Int) (aF : Int) (aG : Int) (aS : Int) (aT : Int) (aU : Int) (aV : Int) (aN : Int) (aO : Int) (aW : Int) (aH : Int) (aI : Int) (aJ : Int) (aK : Int) (aL : Int) (aX : Int) (aY : Int) (aZ : Int) (b0 : Int) (aP : Int) (aQ : Int) (r1 : Int) (r2 : Int) (r3 : Int) (r4 : Bool) (w : World) (h : impl_Body_touch.f k aR aC aD aE aF aG aS aT aU aV aN aO aW aH aI aJ aK aL aX aY aZ b0 aP aQ = some (r1, r2, r3, r4)) :
    Calls Try.prog 55 #[.agg #[.int .i64 aR, .int .i64 aC, .int .i64 aD, .int .i64 aE, .int .i64 aF, .int .i64 aG, .int .i64 aS, .int .i64 aT, .int .i64 aU, .int .i64 aV, .int .i64 aN, .int .i64 aO], .agg #[.int .i64 aW, .int .i64 aH, .int .i64 aI, .int .i64 aJ, .int .i64 aK, .int .i64 aL, .int .i64 aX, .int .i64 aY, .int .i64 aZ, .int .i64 b0, .int .i64 aP, .int .i64 aQ]] w fun e w' => e = .returned (.tuple #[.agg #[.int .i64 r1, .int .i64 r2, .int .i64 r3], .bool r4]) ∧ Below w.heap.size w w' := by
  have hu41 := Try.underlying41; have hu35 := Try.underlying35; have hu39 := Try.underlying39; have hu33 := Try.underlying33; have HB := az (Below.refl w.heap.size w); have H : ((impl_Touch.f k aC aD aE aF aG aH aI aJ aK aL).bind fun bt999 => (some (bt999.1, bt999.2.1, bt999.2.2.1, bt999.2.2.2))) = some (r1, r2, r3, r4) := h; clear h; replace H := qH H; obtain ⟨⟨bO, b7, b8, bP⟩, A3, H⟩ := H
  try dsimp only at H
  simp only [Option.some.injEq, Prod.mk.injEq] at H; obtain ⟨rfl, rfl, rfl, rfl⟩ := H; go_enter Try.func55, Try.ntmps55; go_wp2_with (first | ((with_reducible refine gate_dst (N := 2) rfl ?_); refine bx (N := 2) (cs := #[.int .i64 aR, .int .i64 aC, .int .i64 aD, .int .i64 aE, .int .i64 aF, .int .i64 aG, .int .i64 aS, .int .i64 aT, .int .i64 aU, .int .i64 aV, .int .i64 aN, .int .i64 aO]) (t := 41) ?_; intro bQ hg w4 hbox hb; have aA := az hbox; have bR := az ((gE hg (qL HB) : w.heap.size ≤ bQ)); have dO := bR; replace HB := bS HB hb; clear hb hbox hg) | ((with_reducible refine gate_dst (N := 3) rfl ?_); refine bx (N := 3) (cs := #[.int .i64 aW, .int .i64 aH, .int .i64 aI, .int .i64 aJ, .int .i64 aK, .int .i64 aL, .int .i64 aX, .int .i64 aY, .int .i64 aZ, .int .i64 b0, .int .i64 aP, .int .i64 aQ]) (t := 41) ?_; intro bT hg w5 hbox hb; have aB := az hbox; have bU := az ((gE hg (qL HB) : w.heap.size ≤ bT)); have dP := bU; obtain ⟨b1, b2⟩ := nPB aA hg; replace aA := kBB aA hb; replace HB := bS HB hb; clear hb hbox hg) | ((with_reducible refine gate_dst (N := 4) rfl ?_); refine bz3 (N := 4) (t := 35) ?_; intro b9 hg w6 hbox hb; have aM := az hbox; have bV := az ((gE hg (qL HB) : w.heap.size ≤ b9)); have dQ := bV; obtain ⟨b3, b4⟩ := nPB aA hg; obtain ⟨b5, b6⟩ := nPB aB hg; replace aA := kBB aA hb; replace aB := kBB aB hb; replace HB := bS HB hb; clear hb hbox hg; have dT := b1.out; have dU := b2.out; have dV := b3.out; have dW := b4.out; obtain ⟨cU, cV, cW, cX, cY, cZ, dA, dB, dC, dD, c0, c1⟩ := cz12 aA.out; obtain ⟨dE, dF, dG, dH, dI, dJ, dK, dL, dM, dN, c2, c3⟩ := fz12 aA.out; have dR := b5.out; have dS := b6.out; obtain ⟨c4, c5, c6, c7, c8, c9, cA, cB, cC, cD, bW, bX⟩ := cz12 aB.out; obtain ⟨cE, cF, cG, cH, cI, cJ, cK, cL, cM, cN, bY, bZ⟩ := fz12 aB.out) | ((with_reducible refine gate_callee (f := 48) rfl ?_); refine gl (some 14) Try.func48 #[.agg #[.int .i64 aC, .int .i64 aD, .int .i64 aE], .agg #[.int .i64 aF, .int .i64 aG], .agg #[.int .i64 aH, .int .i64 aI, .int .i64 aJ], .agg #[.int .i64 aK, .int .i64 aL]] ?_; (with_reducible refine (impl_Touch.calls k aC aD aE aF aG aH aI aJ aK aL bO b7 b8 bP _ A3.out).mono ?_); rintro e dX ⟨rfl, hb⟩; refine ⟨_, rfl, ?_⟩; replace aA := kBB aA hb; replace aB := kBB aB hb; replace aM := kBB aM hb; replace HB := bS HB hb; clear hb; obtain ⟨cO, cP, cQ⟩ := cz3 aM.out; obtain ⟨cR, cS, cT⟩ := fz3 aM.out)); refine bodyPost_ret (results_ct rfl _ _ b9 35 #[.int .i64 bO, .int .i64 b7, .int .i64 b8] (0, 0) _ rfl (qP aM) Try.underlying35 rfl (by kernel_rfl)) rfl ?_
  exact ⟨qE, qL HB⟩
end Go.Proofs.Ytdngjedhbnoaoaa.PBig
