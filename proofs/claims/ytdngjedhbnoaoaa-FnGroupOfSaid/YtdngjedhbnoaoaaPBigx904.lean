/- What these functions compute, each walked once: spec_l5Rounds, spec_l3Meets, spec_l5Boxes, spec_l3Bounds, spec_l1In, spec_l3Point, spec_l3Near, spec_l5Mixed, spec_l5Turn; for all arguments and worlds, under the conditions that each theorem names. -/
import Derived.Test.YtdngjedhbnoaoaaSq
import Derived.Test.YtdngjedhbnoaoaaPBigx903
namespace Go.Proofs.Ytdngjedhbnoaoaa.PBig
open Go.RowKit Go.Proofs.YtdngjedhbnoaoaaW.PrintWords Go.Proofs.YtdngjedhbnoaoaaW.PrintLast Go.Proofs.YtdngjedhbnoaoaaW.PrintMore
attribute [local go_sem] max2_int min2_int max_two min_two max_three min_three max_four min_four
set_option linter.unusedVariables false
set_option linter.unusedSimpArgs false
set_option maxHeartbeats 8000000
set_option maxRecDepth 100000

/-! ### spec_l5Rounds: function 102 -/
def spec_l5Rounds.f (k : Nat) (aB aC aD aE a2 : Int) : Option (Int × Int × Int × Bool) := (spec_l2Square.f (wrap64 (aD - aB)) (wrap64 (aE - aC))).bind fun aN => (if aN > (wrap64 (a2 * a2)) then (some (0, 0, 0, false)) else ((spec_VecUnit.f k (wrap64 (aD - aB)) (wrap64 (aE - aC))).bind fun bt233 => ((spec_VecLen.f k (wrap64 (aD - aB)) (wrap64 (aE - aC))).bind fun aQ => (some (bt233.1, bt233.2, wrap64 (a2 - aQ), true)))))
def spec_l5Rounds.T4 : TT := (true, [([], []), ([0], [0]), ([], []), ([], []), ([3, 1], [3]), ([2, 4], [2, 4]), ([1, 5], [1, 5]), ([6, 4, 0, 1, 2, 3, 4, 5, 6], [6]), ([7, 0, 1, 2, 3, 4, 5, 6, 7], [])])
def spec_l5Rounds.B4 : List Nat := [0, 1, 0, 0, 11, 31, 63, 127, 255]
theorem spec_l5Rounds.tab4 : rtab .any (opsOf Try.f102 4) = spec_l5Rounds.T4 := by kernel_rfl
theorem spec_l5Rounds.bits4 : waitsOk spec_l5Rounds.T4.2 spec_l5Rounds.B4 = true := by kernel_rfl
theorem spec_l5Rounds.calls {k : Nat} {aB aC aD aE a2 r1 r2 r3 : Int} {r4 : Bool} {w : World} (h : spec_l5Rounds.f k aB aC aD aE a2 = some (r1, r2, r3, r4)) :
  Calls Try.prog 102 #[.agg #[.int .i64 aB, .int .i64 aC], .agg #[.int .i64 aD, .int .i64 aE], .int .i64 a2] w fun e w' => e = .returned (.tuple #[.agg #[.int .i64 r1, .int .i64 r2, .int .i64 r3], .bool r4]) ∧ Below w.heap.size w w' := by
 have hu33 := Try.underlying33; have hu35 := Try.underlying35; have HB := br w
 unfold spec_l5Rounds.f at h
 have H := h; clear h; replace H := qH H; obtain ⟨aN, A4, H⟩ := H
 by_cases c5 : aN > (wrap64 (a2 * a2))
 ·rw [if_pos c5] at H; have aW : decide ((wrap64 (a2 * a2)) < aN) = true := decide_eq_true c5; clear c5; simp only [Option.some.injEq, Prod.mk.injEq] at H; obtain ⟨rfl, rfl, rfl, rfl⟩ := H; go_enter Try.func102, Try.ntmps102; go_wp2_with (first | ((with_reducible refine gd 3 rfl ?_); refine bx 3 #[.int .i64 aB, .int .i64 aC] 33 ?_; intro aO hg w6 a0 hb; have aS := se hg HB; replace HB := bS HB hb; clear hb hg) | ((with_reducible refine gd 4 rfl ?_); refine bx 4 #[.int .i64 aD, .int .i64 aE] 33 ?_; intro aP hg w7 a1 hb; have aT := se hg HB; obtain ⟨aG, aH⟩ := nPB a0 hg; replace a0 := kBB a0 hb; replace HB := bS HB hb; clear hb hg) | ((with_reducible refine gd 6 rfl ?_); refine bz3 6 35 ?_; intro aF hg w8 a3 hb; have aU := se hg HB; obtain ⟨a6, a7⟩ := nPB a0 hg; obtain ⟨a8, a9⟩ := nPB a1 hg; replace a0 := kBB a0 hb; replace a1 := kBB a1 hb; replace HB := bS HB hb; clear hb hg; have cO := aH.out; have cP := aG.out; have bX := a8.out; have bY := a9.out; have hcz11_c := cz2 a1.out; have aZ := blk_frozen a1.out 0; have b0 := blk_frozen a1.out 1; have bZ := a6.out; have c0 := a7.out; have hcz13_c := cz2 a0.out; have b1 := blk_frozen a0.out 0; have b2 := blk_frozen a0.out 1) | ((with_reducible refine gd 8 rfl ?_); refine bz2 8 33 ?_; intro aM hg cT a4 hb; have aV := se hg HB; obtain ⟨aI, aJ⟩ := nPB a0 hg; obtain ⟨aK, aL⟩ := nPB a1 hg; obtain ⟨aA, a5⟩ := nPB a3 hg; replace a0 := kBB a0 hb; replace a1 := kBB a1 hb; replace a3 := kBB a3 hb; replace HB := bS HB hb; clear hb hg; have c1 := aJ.out; have c2 := aI.out; have c3 := aL.out; have c4 := aK.out; have c6 := a5.out; have c7 := aA.out; have hcz18_c := cz2 a4.out; have b3 := blk_frozen a4.out 0; have b4 := blk_frozen a4.out 1) | ((with_reducible refine gc 122 rfl ?_); refine gr 21 Try.func122 (spec_l2Square.calls A4.out) ?_; rintro cU hb; replace a0 := kBF a0 hb; replace a1 := kBF a1 hb; replace a3 := kBF a3 hb; replace a4 := kBP (o' := .cells #[.int .i64 (wrap64 (aD - aB)), .int .i64 (wrap64 (aE - aC))] 33 (0, 0)) a4 hb; replace HB := bS HB hb; clear hb; have hcz20_c := cz3 a3.out; have hfz20_c := fz3 a3.out)); refine rt aF 35 #[.int .i64 0, .int .i64 0, .int .i64 0] (qP a3) Try.underlying35 ?_
  exact ⟨qE, qL HB⟩
 rw [if_neg c5] at H; have aW : decide ((wrap64 (a2 * a2)) < aN) = false := decide_eq_false c5; clear c5; replace H := qH H; obtain ⟨⟨aX, aY⟩, bU, H⟩ := H
 try dsimp only at H
 replace H := qH H; obtain ⟨aQ, bV, H⟩ := H
 simp only [Option.some.injEq, Prod.mk.injEq] at H; obtain ⟨rfl, rfl, rfl, rfl⟩ := H; go_enter Try.func102, Try.ntmps102
 try go_wp2_with (first | ((with_reducible refine gd 3 rfl ?_); refine bx 3 #[.int .i64 aB, .int .i64 aC] 33 ?_; intro aO hg cV a0 hb; have aS := se hg HB; replace HB := bS HB hb; clear hb hg) | ((with_reducible refine gd 4 rfl ?_); refine bx 4 #[.int .i64 aD, .int .i64 aE] 33 ?_; intro aP hg cW a1 hb; have aT := se hg HB; obtain ⟨aG, aH⟩ := nPB a0 hg; replace a0 := kBB a0 hb; replace HB := bS HB hb; clear hb hg) | ((with_reducible refine gd 6 rfl ?_); refine bz3 6 35 ?_; intro aF hg cX a3 hb; have aU := se hg HB; obtain ⟨a6, a7⟩ := nPB a0 hg; obtain ⟨a8, a9⟩ := nPB a1 hg; replace a0 := kBB a0 hb; replace a1 := kBB a1 hb; replace HB := bS HB hb; clear hb hg; have c8 := aH.out; have c9 := aG.out; have cA := a8.out; have cB := a9.out; have hcz28_c := cz2 a1.out; have b5 := blk_frozen a1.out 0; have b6 := blk_frozen a1.out 1; have cC := a6.out; have cD := a7.out; have hcz30_c := cz2 a0.out; have b7 := blk_frozen a0.out 0; have b8 := blk_frozen a0.out 1) | ((with_reducible refine gd 8 rfl ?_); refine bz2 8 33 ?_; intro aM hg cY a4 hb; have aV := se hg HB; obtain ⟨aI, aJ⟩ := nPB a0 hg; obtain ⟨aK, aL⟩ := nPB a1 hg; obtain ⟨aA, a5⟩ := nPB a3 hg; replace a0 := kBB a0 hb; replace a1 := kBB a1 hb; replace a3 := kBB a3 hb; replace HB := bS HB hb; clear hb hg; have cE := aJ.out; have cF := aI.out; have cG := aL.out; have cH := aK.out; have cJ := a5.out; have cK := aA.out; have hcz35_c := cz2 a4.out; have b9 := blk_frozen a4.out 0; have bA := blk_frozen a4.out 1) | ((with_reducible refine gc 122 rfl ?_); refine gr 21 Try.func122 (spec_l2Square.calls A4.out) ?_; rintro bW hb; replace a0 := kBF a0 hb; replace a1 := kBF a1 hb; replace a3 := kBF a3 hb; replace a4 := kBP (o' := .cells #[.int .i64 (wrap64 (aD - aB)), .int .i64 (wrap64 (aE - aC))] 33 (0, 0)) a4 hb; replace HB := bS HB hb; clear hb))
 replace a0 := bd a0; replace a1 := bd a1; replace a3 := bd a3; replace a4 := bd a4; replace HB := ed HB; refine sa 9 (fun w' => ci aM 0 [.int .i64 (wrap64 (aD - aB)), .int .i64 (wrap64 (aE - aC))] w') [] (cI a4) fun Z => ?_; refine with_tabW spec_l5Rounds.tab4 spec_l5Rounds.bits4 fun T Y => ?_; generalize bW.drew = cZ at a0 a1 a3 a4 HB Z ⊢; refine pz 2 29 T ?_; refine tz 0 27 T Y Z ?_; refine tz 3 30 T Y Z ?_; refine oo 9 1 28 15 T fun K hK => ?_; refine ky Try.func123 (spec_VecUnit.calls bU.out) ?_; rintro dA hb; replace a0 := kBB a0 hb; replace a1 := kBB a1 hb; replace a3 := kBB a3 hb; replace a4 := kBB a4 hb; replace HB := bS HB hb; clear hb; refine hz hK (cI a4) fun Z => ?_; clear hK K; refine nn 28 ?_; refine oo 9 4 31 31 T fun K hK => ?_; refine ky Try.func124 (spec_VecLen.calls bV.out) ?_; rintro aR hb; replace a0 := kBB a0 hb; replace a1 := kBB a1 hb; replace a3 := kBB a3 hb; replace a4 := kBB a4 hb; replace HB := bS HB hb; clear hb; refine hz hK (cI a4) fun Z => ?_; clear hK K; refine nn 31 ?_; refine pz 5 32 T ?_; refine pz 6 33 T ?_; refine op 9 7 255 T fun K hK => ?_; have cQ : aR.cell? ⟨aF, 0, none⟩ = some (.int .i64 0) := bc a3 0; have cL := blk_frozen a3.out 0; have bB := a6.out; have bC := a8.out; have bD := a5.out; have bE := a7.out; have bF := a9.out; have bG := aA.out; have cR : aR.cell? ⟨aF, 1, none⟩ = some (.int .i64 0) := bc a3 1; have cM := blk_frozen a3.out 1; have bH := a6.out; have bI := a8.out; have bJ := a5.out; have bK := a7.out; have bL := a9.out; have bM := aA.out; have cS : aR.cell? ⟨aF, 2, none⟩ = some (.int .i64 0) := bc a3 2; have cN := blk_frozen a3.out 2; have bN := a6.out; have bO := a8.out; have bP := a5.out; have bQ := a7.out; have bR := a9.out; have bT := aA.out; refine sq ?_ ?_ ?_; rotate_left
 ·go_simp
  rfl
 refine hz hK ((cif a5 (cif a5 (cif a5 Z)))) fun Z => ?_; clear hK K; refine pz 8 7 T ?_; refine dn T ?_
 try go_wp2
 refine rt aF 35 #[.int .i64 aX, .int .i64 aY, .int .i64 (wrap64 (a2 - aQ))] (qP a3) Try.underlying35 ?_; exact ⟨qE, qL HB⟩

/-! ### spec_l3Meets: function 125 -/
def spec_l3Meets.f (a0 a1 a2 aA a3 aB a4 a5 : Int) : Option (Bool) := if a0 ≤ a4 then (if a3 ≤ a2 then (if a1 ≤ a5 then (some (decide (aB ≤ aA))) else (some false)) else (some false)) else (some false)
theorem spec_l3Meets.calls {a0 a1 a2 aA a3 aB a4 a5 : Int} {r : Bool} {w : World} (h : spec_l3Meets.f a0 a1 a2 aA a3 aB a4 a5 = some r) :
  Calls Try.prog 125 #[.agg #[.int .i64 a0, .int .i64 a1, .int .i64 a2, .int .i64 aA], .agg #[.int .i64 a3, .int .i64 aB, .int .i64 a4, .int .i64 a5]] w fun e w' => e = .returned (.bool r) ∧ Below w.heap.size w w' := by
 have hu85 := Try.underlying85; have HB := br w
 unfold spec_l3Meets.f at h
 have H := h; clear h; replace H := qc H; obtain ⟨aF, H⟩ | ⟨aF, H⟩ := H; replace H := qc H; obtain ⟨aG, H⟩ | ⟨aG, H⟩ := H; replace H := qc H; obtain ⟨aH, H⟩ | ⟨aH, H⟩ := H; obtain rfl := Option.some.inj H; refine ?L1; rotate_left; obtain rfl := Option.some.inj H; refine ?L2
 rotate_right
 rotate_left 2
 obtain rfl := Option.some.inj H; refine ?L3
 rotate_right 2
 rotate_left 3
 obtain rfl := Option.some.inj H; refine ?L4
 rotate_right 3
 case' L1 | L2 | L3 | L4 =>
  go_enter Try.func125, Try.ntmps125; go_wp2_with (first | ((with_reducible refine gd 2 rfl ?_); refine bx 2 #[.int .i64 a0, .int .i64 a1, .int .i64 a2, .int .i64 aA] 85 ?_; intro aI hg w6 a9 hb; have aK := se hg HB; replace HB := bS HB hb; clear hb hg) | ((with_reducible refine gd 3 rfl ?_); refine bx 3 #[.int .i64 a3, .int .i64 aB, .int .i64 a4, .int .i64 a5] 85 ?_; intro aJ hg w7 aE hb; have aL := se hg HB; obtain ⟨aC, aD⟩ := nPB a9 hg; replace a9 := kBB a9 hb; replace HB := bS HB hb; clear hb hg; have aM := aC.out; have aN := aD.out; have hcz9_c := cz4 a9.out; have hfz9_c := fz4 a9.out; have hcz10_c := cz4 aE.out; have hfz10_c := fz4 aE.out))
  go_ret
 case' L1 | L2 | L3 =>
  exact ⟨qE, qL HB⟩
 case L4 =>
  exact ⟨qE, qL HB⟩

theorem rnL_l5B {P : Program} {ops : Array Oper} {Q : Exit → Act → World → Prop} {l : List Oper} {a : Act} {W : World} (K : World → Prop) (f : K W) (h : ∀ w', K w' → wpList P ops Q l a w') : wpList P ops Q l a W := h W f

/-! ### spec_l5Boxes: function 103 -/
def spec_l5Boxes.j0 : Nat → Int → Int → Int → Int → Int → Int → Int → Int → Int → Int → Int → Option (Int × Int × Int × Bool)
  | 0, _, _, _, _, _, _, _, _, _, _, _ => none
  | k + 1, dD, aV, dE, b3, dF, b4, dG, aW, b7, b8, b5 => if (wrap64 (b3 - b4)) < b5 then (if (wrap64 (aW - aV)) < (wrap64 (b3 - b4)) then (some (0, (-256), wrap64 (aW - aV), true)) else (some (0, 256, wrap64 (b3 - b4), true))) else (if (wrap64 (aW - aV)) < b5 then (some (0, (-256), wrap64 (aW - aV), true)) else (some (b7, b8, b5, true)))
def spec_l5Boxes.f (k : Nat) (a9 a4 aA a7 aB a8 aC a5 : Int) : Option (Int × Int × Int × Bool) := (spec_l3Meets.f a9 a4 aA a7 aB a8 aC a5).bind fun dA => (if dA = true then (if (wrap64 (aC - a9)) < (wrap64 (aA - aB)) then (spec_l5Boxes.j0 k a9 a4 aA a7 aB a8 aC a5 (-256) 0 (wrap64 (aC - a9))) else (spec_l5Boxes.j0 k a9 a4 aA a7 aB a8 aC a5 256 0 (wrap64 (aA - aB)))) else (some (0, 0, 0, false)))
theorem spec_l5Boxes.calls {k : Nat} {a9 a4 aA a7 aB a8 aC a5 r1 r2 r3 : Int} {r4 : Bool} {w : World} (h : spec_l5Boxes.f k a9 a4 aA a7 aB a8 aC a5 = some (r1, r2, r3, r4)) :
  Calls Try.prog 103 #[.agg #[.int .i64 a9, .int .i64 a4, .int .i64 aA, .int .i64 a7], .agg #[.int .i64 aB, .int .i64 a8, .int .i64 aC, .int .i64 a5]] w fun e w' => e = .returned (.tuple #[.agg #[.int .i64 r1, .int .i64 r2, .int .i64 r3], .bool r4]) ∧ Below w.heap.size w w' := by
 have hu85 := Try.underlying85; have hu35 := Try.underlying35; have hu33 := Try.underlying33; have HB := br w
 unfold spec_l5Boxes.f at h
 have H := h; clear h; replace H := qH H; obtain ⟨cW, b6, H⟩ := H
 by_cases b2 : cW = true; subst b2; replace H := qT H; refine ?L7; rotate_left; replace b2 := Bool.eq_false_iff.mpr b2; subst b2; replace H := qU H; simp only [Option.some.injEq, Prod.mk.injEq] at H; obtain ⟨rfl, rfl, rfl, rfl⟩ := H; refine ?L8
 rotate_right
 case L7 =>
  have cV := az H; clear H; go_enter Try.func103, Try.ntmps103
  go_upto_if 30 with (first | ((with_reducible refine gd 2 rfl ?_); refine bx 2 #[.int .i64 a9, .int .i64 a4, .int .i64 aA, .int .i64 a7] 85 ?_; intro aK hg w6 a0 hb; have cX := se hg HB; replace HB := bS HB hb; clear hb hg) | ((with_reducible refine gd 3 rfl ?_); refine bx 3 #[.int .i64 aB, .int .i64 a8, .int .i64 aC, .int .i64 a5] 85 ?_; intro aL hg w7 a1 hb; have cY := se hg HB; obtain ⟨aE, aF⟩ := nPB a0 hg; replace a0 := kBB a0 hb; replace HB := bS HB hb; clear hb hg) | ((with_reducible refine gd 4 rfl ?_); refine bz3 4 35 ?_; intro aD hg w8 a2 hb; have cZ := se hg HB; obtain ⟨aG, aH⟩ := nPB a0 hg; obtain ⟨aI, aJ⟩ := nPB a1 hg; replace a0 := kBB a0 hb; replace a1 := kBB a1 hb; replace HB := bS HB hb; clear hb hg; have fJ := aE.out; have fK := aF.out; have e3 := aG.out; have e4 := aH.out; obtain ⟨b9, bA, bB, bC⟩ := cz4 a0.out; obtain ⟨bD, bE, bF, bG⟩ := fz4 a0.out; have e5 := aI.out; have e6 := aJ.out; obtain ⟨bH, bI, bJ, bK⟩ := cz4 a1.out; obtain ⟨bL, bM, bN, bO⟩ := fz4 a1.out) | ((with_reducible refine gc 125 rfl ?_); refine gr 9 Try.func125 (spec_l3Meets.calls (r := true) b6.out) ?_; rintro fL hb; replace a0 := kBB a0 hb; replace a1 := kBB a1 hb; replace a2 := kBB a2 hb; replace HB := bS HB hb; clear hb; obtain ⟨bP, bQ, bR, bT⟩ := cz4 a0.out; obtain ⟨bU, bV, bW, bX⟩ := fz4 a0.out; obtain ⟨bY, bZ, c0, c1⟩ := cz4 a1.out; obtain ⟨c2, c3, c4, c5⟩ := fz4 a1.out) | ((with_reducible refine gd 6 rfl ?_); refine bz3 6 35 ?_; intro aX hg fM a3 hb; have e7 := se hg HB; obtain ⟨aP, aQ⟩ := nPB a0 hg; obtain ⟨aR, aS⟩ := nPB a1 hg; obtain ⟨aT, aU⟩ := nPB a2 hg; replace a0 := kBB a0 hb; replace a1 := kBB a1 hb; replace a2 := kBB a2 hb; replace HB := bS HB hb; clear hb hg; have e8 := aQ.out; have e9 := aP.out; have eA := aS.out; have eB := aR.out; have eC := aU.out; have eD := aT.out; obtain ⟨c6, c7, c8⟩ := cz3 a3.out; obtain ⟨c9, cA, cB⟩ := fz3 a3.out; obtain ⟨cC, cD, cE, cF⟩ := cz4 a1.out; obtain ⟨cG, cH, cI, cJ⟩ := fz4 a1.out; obtain ⟨cK, cL, cM, cN⟩ := cz4 a0.out; obtain ⟨cO, cP, cQ, cR⟩ := fz4 a0.out))
  (try simp only [Act.put, List.setIfInBounds_toArray, List.set_cons_zero, List.set_cons_succ])
  go_cut [] (fun wc => ∃ (kq : Nat) (aM : Int) (aN : Int) (a6 : Int), Aside0 (spec_l5Boxes.j0 kq a9 a4 aA a7 aB a8 aC a5 aM aN a6 = some (r1, r2, r3, r4)) ∧ Aside0 (kq ≤ k) ∧ Aside0 (wc.heap[aK]? = some (.cells #[.int .i64 a9, .int .i64 a4, .int .i64 aA, .int .i64 a7] 85 (0, 0))) ∧ Aside0 (wc.heap[aL]? = some (.cells #[.int .i64 aB, .int .i64 a8, .int .i64 aC, .int .i64 a5] 85 (0, 0))) ∧ Aside0 (wc.heap[aD]? = some (.cells #[.int .i64 0, .int .i64 0, .int .i64 0] 35 (0, 0))) ∧ Aside0 (wc.heap[aX]? = some (.cells #[.int .i64 aM, .int .i64 aN, .int .i64 a6] 35 (0, 0))) ∧ Aside0 (Below w.heap.size w wc))
  case first =>
   have H := cV.out; clear cV; replace H := qc H; obtain ⟨aO, H⟩ | ⟨aO, H⟩ := H; (first | rw [aO] | (simp only [i64_w, i32_w]; rw [aO]) | skip); have H' := az H; clear H; refine ?L1; rotate_left; (first | rw [aO] | (simp only [i64_w, i32_w]; rw [aO]) | skip); have H' := az H; clear H; refine ?L2
   rotate_right
   case L1 =>
    have eE := aF.out; have eF := aE.out; have eG := aI.out; have eH := aJ.out; have eI := aR.out; have eJ := aS.out; obtain ⟨dH, dI, dJ, dK⟩ := cz4 a1.out; obtain ⟨dL, dM, dN, dO⟩ := fz4 a1.out; have eK := aG.out; have eL := aH.out; have eM := aP.out; have eN := aQ.out; obtain ⟨dP, dQ, dR, dS⟩ := cz4 a0.out; obtain ⟨dT, dU, dV, dW⟩ := fz4 a0.out; have eO := aU.out; have eP := aT.out; obtain ⟨dX, dY, dZ⟩ := cz3 a3.out; obtain ⟨e0, e1, e2⟩ := fz3 a3.out; go_wp2
    go_meet
    exact ⟨_, ((-256)), (0), (wrap64 (aC - a9)), H', ⟨qO⟩, ⟨qF a0⟩, ⟨qF a1⟩, ⟨qF a2⟩, ⟨qP a3⟩, ⟨qL HB⟩⟩
   case L2 =>
    go_wp2
    go_meet
    exact ⟨_, (256), (0), (wrap64 (aA - aB)), H', ⟨qO⟩, ⟨qF a0⟩, ⟨qF a1⟩, ⟨qF a2⟩, ⟨qP a3⟩, ⟨qL HB⟩⟩
  case rest =>
   clear cV; obtain ⟨kq, aM, aN, a6, HA, fN, a0, a1, a2, a3, HB⟩ := hcut
   obtain ⟨fO, rfl⟩ := qz kq HA
   have H := HA.out; clear HA; simp only [spec_l5Boxes.j0] at H; replace H := qc H; obtain ⟨cS, H⟩ | ⟨cS, H⟩ := H; replace H := qc H; obtain ⟨cT, H⟩ | ⟨cT, H⟩ := H; simp only [Option.some.injEq, Prod.mk.injEq] at H; obtain ⟨rfl, rfl, rfl, rfl⟩ := H; refine ?L3; rotate_left; simp only [Option.some.injEq, Prod.mk.injEq] at H; obtain ⟨rfl, rfl, rfl, rfl⟩ := H; refine ?L4
   rotate_right
   rotate_left 2
   replace H := qc H; obtain ⟨cU, H⟩ | ⟨cU, H⟩ := H; simp only [Option.some.injEq, Prod.mk.injEq] at H; obtain ⟨rfl, rfl, rfl, rfl⟩ := H; refine ?L5; rotate_left; simp only [Option.some.injEq, Prod.mk.injEq] at H; obtain ⟨rfl, rfl, rfl, rfl⟩ := H; refine ?L6
   rotate_right
   rotate_right 2
   case' L3 | L4 | L5 | L6 =>
    have eQ := aE.out; have eR := aF.out; have eS := aG.out; have eT := aH.out; have eU := aP.out; have eV := aQ.out; have hcz39_c := cz4 a0.out; have hfz39_c := fz4 a0.out; have eW := aI.out; have eX := aJ.out; have eY := aR.out; have eZ := aS.out; have hcz42_c := cz4 a1.out; have hfz42_c := fz4 a1.out; have fA := aU.out; have fB := aT.out; have hcz44_c := cz3 a3.out; have hfz44_c := fz3 a3.out; have hcz45_c := cz3 a2.out; have hfz45_c := fz3 a2.out
   case L3 =>
    repeat (first | ((with_reducible refine gd 59 rfl ?_); refine rnL_l5B (fun w_ => w_.heap[aX]? = some (.cells #[.int .i64 0, .int .i64 256, .int .i64 (wrap64 (a7 - a8))] 35 (0, 0)) ∧ w_.heap[aK]? = some (.cells #[.int .i64 a9, .int .i64 a4, .int .i64 aA, .int .i64 a7] 85 (0, 0)) ∧ w_.heap[aL]? = some (.cells #[.int .i64 aB, .int .i64 a8, .int .i64 aC, .int .i64 a5] 85 (0, 0)) ∧ w_.heap[aD]? = some (.cells #[.int .i64 0, .int .i64 0, .int .i64 0] 35 (0, 0)) ∧ Below w.heap.size w w_) ⟨qP a3, qF a0, qF a1, qF a2, qL HB⟩ ?_; clear a3 a0 a1 a2 HB; rintro dB ⟨n0_, n1_, n2_, n3_, n4_⟩; have a3 := az n0_; have a0 := az n1_; have a1 := az n2_; have a2 := az n3_; have HB := az n4_; clear n0_ n1_ n2_ n3_ n4_; obtain ⟨z59_238_0, z59_238_1, z59_238_2, z59_238_3⟩ := cz4 a0.out; obtain ⟨f59_238_0, f59_238_1, f59_238_2, f59_238_3⟩ := fz4 a0.out; obtain ⟨z59_239_0, z59_239_1, z59_239_2, z59_239_3⟩ := cz4 a1.out; obtain ⟨f59_239_0, f59_239_1, f59_239_2, f59_239_3⟩ := fz4 a1.out; obtain ⟨z59_242_0, z59_242_1, z59_242_2⟩ := cz3 a3.out; obtain ⟨f59_242_0, f59_242_1, f59_242_2⟩ := fz3 a3.out; obtain ⟨z59_240_0, z59_240_1, z59_240_2⟩ := cz3 a2.out; obtain ⟨f59_240_0, f59_240_1, f59_240_2⟩ := fz3 a2.out; go_step) | ((with_reducible refine gd 78 rfl ?_); refine rnL_l5B (fun w_ => w_.heap[aX]? = some (.cells #[.int .i64 0, .int .i64 (-256), .int .i64 (wrap64 (a5 - a4))] 35 (0, 0)) ∧ w_.heap[aK]? = some (.cells #[.int .i64 a9, .int .i64 a4, .int .i64 aA, .int .i64 a7] 85 (0, 0)) ∧ w_.heap[aL]? = some (.cells #[.int .i64 aB, .int .i64 a8, .int .i64 aC, .int .i64 a5] 85 (0, 0)) ∧ w_.heap[aD]? = some (.cells #[.int .i64 0, .int .i64 0, .int .i64 0] 35 (0, 0)) ∧ Below w.heap.size w w_) ⟨qP a3, qF a0, qF a1, qF a2, qL HB⟩ ?_; clear a3 a0 a1 a2 HB; rintro dC ⟨n0_, n1_, n2_, n3_, n4_⟩; have a3 := az n0_; have a0 := az n1_; have a1 := az n2_; have a2 := az n3_; have HB := az n4_; clear n0_ n1_ n2_ n3_ n4_; obtain ⟨z78_242_0, z78_242_1, z78_242_2⟩ := cz3 a3.out; obtain ⟨f78_242_0, f78_242_1, f78_242_2⟩ := fz3 a3.out; obtain ⟨z78_240_0, z78_240_1, z78_240_2⟩ := cz3 a2.out; obtain ⟨f78_240_0, f78_240_1, f78_240_2⟩ := fz3 a2.out; go_step) | go_values | go_skip | go_guarded | go_step | go_upon | go_back)
    refine rt aD 35 #[.int .i64 0, .int .i64 (-256), .int .i64 (wrap64 (a5 - a4))] (qP a2) Try.underlying35 ?_; exact ⟨qE, qL HB⟩
   case L4 =>
    repeat (first | ((with_reducible refine gd 59 rfl ?_); refine rnL_l5B (fun w_ => w_.heap[aX]? = some (.cells #[.int .i64 0, .int .i64 256, .int .i64 (wrap64 (a7 - a8))] 35 (0, 0)) ∧ w_.heap[aK]? = some (.cells #[.int .i64 a9, .int .i64 a4, .int .i64 aA, .int .i64 a7] 85 (0, 0)) ∧ w_.heap[aL]? = some (.cells #[.int .i64 aB, .int .i64 a8, .int .i64 aC, .int .i64 a5] 85 (0, 0)) ∧ w_.heap[aD]? = some (.cells #[.int .i64 0, .int .i64 0, .int .i64 0] 35 (0, 0)) ∧ Below w.heap.size w w_) ⟨qP a3, qF a0, qF a1, qF a2, qL HB⟩ ?_; clear a3 a0 a1 a2 HB; rintro dB ⟨n0_, n1_, n2_, n3_, n4_⟩; have a3 := az n0_; have a0 := az n1_; have a1 := az n2_; have a2 := az n3_; have HB := az n4_; clear n0_ n1_ n2_ n3_ n4_; obtain ⟨z59_238_0, z59_238_1, z59_238_2, z59_238_3⟩ := cz4 a0.out; obtain ⟨f59_238_0, f59_238_1, f59_238_2, f59_238_3⟩ := fz4 a0.out; obtain ⟨z59_239_0, z59_239_1, z59_239_2, z59_239_3⟩ := cz4 a1.out; obtain ⟨f59_239_0, f59_239_1, f59_239_2, f59_239_3⟩ := fz4 a1.out; obtain ⟨z59_242_0, z59_242_1, z59_242_2⟩ := cz3 a3.out; obtain ⟨f59_242_0, f59_242_1, f59_242_2⟩ := fz3 a3.out; obtain ⟨z59_240_0, z59_240_1, z59_240_2⟩ := cz3 a2.out; obtain ⟨f59_240_0, f59_240_1, f59_240_2⟩ := fz3 a2.out; go_step) | go_values | go_skip | go_guarded | go_step | go_upon | go_back)
    refine rt aD 35 #[.int .i64 0, .int .i64 256, .int .i64 (wrap64 (a7 - a8))] (qP a2) Try.underlying35 ?_; exact ⟨qE, qL HB⟩
   case L5 =>
    repeat (first | ((with_reducible refine gd 78 rfl ?_); refine rnL_l5B (fun w_ => w_.heap[aX]? = some (.cells #[.int .i64 0, .int .i64 (-256), .int .i64 (wrap64 (a5 - a4))] 35 (0, 0)) ∧ w_.heap[aK]? = some (.cells #[.int .i64 a9, .int .i64 a4, .int .i64 aA, .int .i64 a7] 85 (0, 0)) ∧ w_.heap[aL]? = some (.cells #[.int .i64 aB, .int .i64 a8, .int .i64 aC, .int .i64 a5] 85 (0, 0)) ∧ w_.heap[aD]? = some (.cells #[.int .i64 0, .int .i64 0, .int .i64 0] 35 (0, 0)) ∧ Below w.heap.size w w_) ⟨qP a3, qF a0, qF a1, qF a2, qL HB⟩ ?_; clear a3 a0 a1 a2 HB; rintro dC ⟨n0_, n1_, n2_, n3_, n4_⟩; have a3 := az n0_; have a0 := az n1_; have a1 := az n2_; have a2 := az n3_; have HB := az n4_; clear n0_ n1_ n2_ n3_ n4_; obtain ⟨z78_242_0, z78_242_1, z78_242_2⟩ := cz3 a3.out; obtain ⟨f78_242_0, f78_242_1, f78_242_2⟩ := fz3 a3.out; obtain ⟨z78_240_0, z78_240_1, z78_240_2⟩ := cz3 a2.out; obtain ⟨f78_240_0, f78_240_1, f78_240_2⟩ := fz3 a2.out; go_step) | go_values | go_skip | go_guarded | go_step | go_upon | go_back)
    refine rt aD 35 #[.int .i64 0, .int .i64 (-256), .int .i64 (wrap64 (a5 - a4))] (qP a2) Try.underlying35 ?_; exact ⟨qE, qL HB⟩
   case L6 =>
    go_wp2; refine rt aD 35 #[.int .i64 aM, .int .i64 aN, .int .i64 a6] (qP a2) Try.underlying35 ?_; exact ⟨qE, qL HB⟩
 case L8 =>
  go_enter Try.func103, Try.ntmps103; go_wp2_with (first | ((with_reducible refine gd 2 rfl ?_); refine bx 2 #[.int .i64 a9, .int .i64 a4, .int .i64 aA, .int .i64 a7] 85 ?_; intro aK hg fP a0 hb; have cX := se hg HB; replace HB := bS HB hb; clear hb hg) | ((with_reducible refine gd 3 rfl ?_); refine bx 3 #[.int .i64 aB, .int .i64 a8, .int .i64 aC, .int .i64 a5] 85 ?_; intro aL hg fQ a1 hb; have cY := se hg HB; obtain ⟨aE, aF⟩ := nPB a0 hg; replace a0 := kBB a0 hb; replace HB := bS HB hb; clear hb hg) | ((with_reducible refine gd 4 rfl ?_); refine bz3 4 35 ?_; intro aD hg fR a2 hb; have cZ := se hg HB; obtain ⟨aG, aH⟩ := nPB a0 hg; obtain ⟨aI, aJ⟩ := nPB a1 hg; replace a0 := kBB a0 hb; replace a1 := kBB a1 hb; replace HB := bS HB hb; clear hb hg; have fC := aE.out; have fD := aF.out; have fE := aG.out; have fG := aH.out; have hcz82_c := cz4 a0.out; have hfz82_c := fz4 a0.out; have fH := aI.out; have fI := aJ.out; have hcz84_c := cz4 a1.out; have hfz84_c := fz4 a1.out) | ((with_reducible refine gc 125 rfl ?_); refine gr 9 Try.func125 (spec_l3Meets.calls (r := false) b6.out) ?_; rintro fS hb; replace a0 := kBB a0 hb; replace a1 := kBB a1 hb; replace a2 := kBB a2 hb; replace HB := bS HB hb; clear hb; have hcz86_c := cz3 a2.out; have hfz86_c := fz3 a2.out)); refine rt aD 35 #[.int .i64 0, .int .i64 0, .int .i64 0] (qP a2) Try.underlying35 ?_; exact ⟨qE, qL HB⟩

/-! ### spec_l3Bounds: function 104 -/
def spec_l3Bounds.f (a4 a0 a6 a1 a2 : Int) : Option (Int × Int × Int × Int) := if a4 = 1 then (some (wrap64 (a1 - a0), wrap64 (a2 - a0), wrap64 (a1 + a0), wrap64 (a2 + a0))) else (some (wrap64 (a1 - a0), wrap64 (a2 - a6), wrap64 (a1 + a0), wrap64 (a2 + a6)))
theorem spec_l3Bounds.calls {a4 a0 a6 a1 a2 r1 r2 r3 r4 : Int} {w : World} (h : spec_l3Bounds.f a4 a0 a6 a1 a2 = some (r1, r2, r3, r4)) :
  Calls Try.prog 104 #[.agg #[.int .i64 a4, .int .i64 a0, .int .i64 a6], .agg #[.int .i64 a1, .int .i64 a2]] w fun e w' => e = .returned (.agg #[.int .i64 r1, .int .i64 r2, .int .i64 r3, .int .i64 r4]) ∧ Below w.heap.size w w' := by
 have hu39 := Try.underlying39; have hu33 := Try.underlying33; have hu85 := Try.underlying85; have HB := br w
 unfold spec_l3Bounds.f at h
 have H := h; clear h; by_cases a5 : a4 = 1; rw [if_pos a5] at H; have aG := ba a5; have aH := bb a5; clear a5; simp only [Option.some.injEq, Prod.mk.injEq] at H; obtain ⟨rfl, rfl, rfl, rfl⟩ := H; refine ?L1; rotate_left; rw [if_neg a5] at H; have aG := be a5; have aH := bf a5; simp only [Option.some.injEq, Prod.mk.injEq] at H; obtain ⟨rfl, rfl, rfl, rfl⟩ := H; refine ?L2
 rotate_right
 case' L1 | L2 =>
  go_enter Try.func104, Try.ntmps104; go_wp2_with (first | ((with_reducible refine gd 2 rfl ?_); refine bx 2 #[.int .i64 a4, .int .i64 a0, .int .i64 a6] 39 ?_; intro aI hg w4 a3 hb; have aM := se hg HB; replace HB := bS HB hb; clear hb hg) | ((with_reducible refine gd 3 rfl ?_); refine bx 3 #[.int .i64 a1, .int .i64 a2] 33 ?_; intro aJ hg w5 a7 hb; have aN := se hg HB; obtain ⟨aA, aB⟩ := nPB a3 hg; replace a3 := kBB a3 hb; replace HB := bS HB hb; clear hb hg) | ((with_reducible refine gd 4 rfl ?_); refine bz4 4 85 ?_; intro a9 hg w6 a8 hb; have aO := se hg HB; obtain ⟨aC, aD⟩ := nPB a3 hg; obtain ⟨aE, aF⟩ := nPB a7 hg; replace a3 := kBB a3 hb; replace a7 := kBB a7 hb; replace HB := bS HB hb; clear hb hg; have aR := aA.out; have aS := aB.out; have aT := aC.out; have aU := aD.out; have hcz9_c := cz3 a3.out; have hfz9_c := fz3 a3.out; have aP := aE.out; have aQ := aF.out; have hcz11_c := cz2 a7.out; have aK := blk_frozen a7.out 0; have aL := blk_frozen a7.out 1; have hcz12_c := cz4 a8.out; have hfz12_c := fz4 a8.out))
 case L1 =>
  refine rz a9 85 #[.int .i64 (wrap64 (a1 - a0)), .int .i64 (wrap64 (a2 - a0)), .int .i64 (wrap64 (a1 + a0)), .int .i64 (wrap64 (a2 + a0))] (qP a8) Try.underlying85 ?_; exact ⟨qE, qL HB⟩
 case L2 =>
  refine rz a9 85 #[.int .i64 (wrap64 (a1 - a0)), .int .i64 (wrap64 (a2 - a6)), .int .i64 (wrap64 (a1 + a0)), .int .i64 (wrap64 (a2 + a6))] (qP a8) Try.underlying85 ?_; exact ⟨qE, qL HB⟩

/-! ### spec_l1In: function 77 -/
def spec_l1In.f (a0 a1 a2 : Int) : Option (Bool) := if a0 ≥ a1 then (some (decide (a0 ≤ a2))) else (some false)
theorem spec_l1In.calls {a0 a1 a2 : Int} {r : Bool} {w : World} (h : spec_l1In.f a0 a1 a2 = some r) :
  Calls Try.prog 77 #[.int .i64 a0, .int .i64 a1, .int .i64 a2] w fun e w' => e = .returned (.bool r) ∧ Drawn0 w w' := by
 have H : (if a0 ≥ a1 then (some (decide (a0 ≤ a2))) else (some false)) = some r := h; clear h; by_cases c4 : a0 ≥ a1
 ·rw [if_pos c4] at H; have a3 : decide (a1 ≤ a0) = true := decide_eq_true c4; clear c4; obtain rfl := Option.some.inj H; go_enter Try.func77, Try.ntmps77; go_wp2
  go_ret
  exact ⟨by first | rfl | (simp; done) | (simp [*]; done), by repeat (first | exact Drawn0.refl _ | apply Drawn0.step)⟩
 rw [if_neg c4] at H; have a3 : decide (a1 ≤ a0) = false := decide_eq_false c4; clear c4; obtain rfl := Option.some.inj H; go_enter Try.func77, Try.ntmps77; go_wp2
 go_ret
 exact ⟨by first | rfl | (simp; done) | (simp [*]; done), by repeat (first | exact Drawn0.refl _ | apply Drawn0.step)⟩

/-! ### spec_l3Point: function 126 -/
def spec_l3Point.f (a2 a3 a4 a5 a6 a7 : Int) : Option (Bool) := (spec_l1In.f a6 a2 a4).bind fun aG => (if aG = true then ((spec_l1In.f a7 a3 a5).bind fun aH => (some aH)) else (some false))
theorem spec_l3Point.calls {a2 a3 a4 a5 a6 a7 : Int} {r : Bool} {w : World} (h : spec_l3Point.f a2 a3 a4 a5 a6 a7 = some r) :
  Calls Try.prog 126 #[.agg #[.int .i64 a2, .int .i64 a3, .int .i64 a4, .int .i64 a5], .agg #[.int .i64 a6, .int .i64 a7]] w fun e w' => e = .returned (.bool r) ∧ Below w.heap.size w w' := by
 have hu85 := Try.underlying85; have hu33 := Try.underlying33; have HB := br w
 unfold spec_l3Point.f at h
 have H := h; clear h; replace H := qH H; obtain ⟨aC, aB, H⟩ := H
 by_cases a1 : aC = true; subst a1; replace H := qT H; replace H := qH H; obtain ⟨aK, aD, H⟩ := H
 obtain rfl := Option.some.inj H; refine ?L1; rotate_left; replace a1 := Bool.eq_false_iff.mpr a1; subst a1; replace H := qU H; obtain rfl := Option.some.inj H; refine ?L2
 rotate_right
 case' L1 | L2 =>
  go_enter Try.func126, Try.ntmps126; go_wp2_with (first | ((with_reducible refine gd 2 rfl ?_); refine bx 2 #[.int .i64 a2, .int .i64 a3, .int .i64 a4, .int .i64 a5] 85 ?_; intro aE hg w6 a0 hb; have aL := se hg HB; replace HB := bS HB hb; clear hb hg) | ((with_reducible refine gd 3 rfl ?_); refine bx 3 #[.int .i64 a6, .int .i64 a7] 33 ?_; intro aF hg w7 a8 hb; have aM := se hg HB; obtain ⟨a9, aA⟩ := nPB a0 hg; replace a0 := kBB a0 hb; replace HB := bS HB hb; clear hb hg; have aN := aA.out; have aO := a9.out; have hcz9_c := cz2 a8.out; have aI := blk_frozen a8.out 0; have aJ := blk_frozen a8.out 1; have hcz10_c := cz4 a0.out; have hfz10_c := fz4 a0.out) | ((with_reducible refine gc 77 rfl ?_); refine gr 13 Try.func77 (spec_l1In.calls (r := true) aB.out) ?_; rintro w' ⟨nd, rfl⟩) | (go_at_call 77; (with_reducible refine (spec_l1In.calls aD.out).mono ?_); rintro e w' ⟨rfl, ⟨nd, rfl⟩⟩) | ((with_reducible refine gc 77 rfl ?_); refine gr 13 Try.func77 (spec_l1In.calls (r := false) aB.out) ?_; rintro w' ⟨nd, rfl⟩))
  go_ret
 case L1 =>
  exact ⟨qE, qL HB⟩
 case L2 =>
  exact ⟨qE, qL HB⟩

/-! ### spec_l3Near: function 127 -/
def spec_l3Near.f (a5 a6 a7 a8 a9 aA : Int) : Option (Int × Int) := (spec_l3More.f a9 a5).bind fun aI => ((spec_l3Less.f aI a7).bind fun aE => ((spec_l3More.f aA a6).bind fun aJ => ((spec_l3Less.f aJ a8).bind fun aF => (some (aE, aF)))))
def spec_l3Near.T1 : TT := (true, [([], []), ([0], [0]), ([], []), ([2], [2]), ([3], [3]), ([1, 4], [1, 4]), ([], []), ([6], [6]), ([7], [7]), ([5, 8, 5], [5, 8]), ([], []), ([10], [10]), ([], []), ([12], [12]), ([13], [13]), ([11, 14, 9], [11, 14]), ([], []), ([16], [16]), ([17], [17]), ([15, 18, 15], [15, 18]), ([9, 19], [9, 19]), ([20, 19, 0, 1, 2, 3, 4, 5, 6, 7, 8, 9, 10, 11, 12, 13, 14, 15, 16, 17, 18, 19, 20], [20])])
def spec_l3Near.B1 : List Nat := [0, 1, 0, 4, 12, 31, 0, 64, 192, 511, 0, 1024, 0, 4096, 12288, 32767, 0, 65536, 196608, 524287, 1048575, 2097151]
theorem spec_l3Near.tab1 : rtab .any (opsOf Try.f127 1) = spec_l3Near.T1 := by kernel_rfl
theorem spec_l3Near.bits1 : waitsOk spec_l3Near.T1.2 spec_l3Near.B1 = true := by kernel_rfl
theorem spec_l3Near.calls {a5 a6 a7 a8 a9 aA r1 r2 : Int} {w : World} (h : spec_l3Near.f a5 a6 a7 a8 a9 aA = some (r1, r2)) :
  Calls Try.prog 127 #[.agg #[.int .i64 a5, .int .i64 a6, .int .i64 a7, .int .i64 a8], .agg #[.int .i64 a9, .int .i64 aA]] w fun e w' => e = .returned (.agg #[.int .i64 r1, .int .i64 r2]) ∧ Below w.heap.size w w' := by
 have hu85 := Try.underlying85; have hu33 := Try.underlying33; have HB := br w
 unfold spec_l3Near.f at h
 have H := h; clear h; replace H := qH H; obtain ⟨aI, A3, H⟩ := H
 replace H := qH H; obtain ⟨aE, A4, H⟩ := H
 replace H := qH H; obtain ⟨aJ, A5, H⟩ := H
 replace H := qH H; obtain ⟨aF, A6, H⟩ := H
 simp only [Option.some.injEq, Prod.mk.injEq] at H; obtain ⟨rfl, rfl⟩ := H; go_enter Try.func127, Try.ntmps127
 try go_wp2_with (first | ((with_reducible refine gd 2 rfl ?_); refine bx 2 #[.int .i64 a5, .int .i64 a6, .int .i64 a7, .int .i64 a8] 85 ?_; intro aG hg w7 a0 hb; have aV := se hg HB; replace HB := bS HB hb; clear hb hg) | ((with_reducible refine gd 3 rfl ?_); refine bx 3 #[.int .i64 a9, .int .i64 aA] 33 ?_; intro aH hg w8 a1 hb; have aW := se hg HB; obtain ⟨aK, aL⟩ := nPB a0 hg; replace a0 := kBB a0 hb; replace HB := bS HB hb; clear hb hg) | ((with_reducible refine gd 4 rfl ?_); refine bz2 4 33 ?_; intro aD hg w9 a2 hb; have aX := se hg HB; obtain ⟨a3, aB⟩ := nPB a0 hg; obtain ⟨a4, aC⟩ := nPB a1 hg; replace a0 := kBB a0 hb; replace a1 := kBB a1 hb; replace HB := bS HB hb; clear hb hg))
 replace a0 := bd a0; replace a1 := bd a1; replace a2 := bd a2; replace HB := ed HB; refine sa 22 (fun w' => ci aH 0 [.int .i64 a9, .int .i64 aA] w' ∧ ci aG 0 [.int .i64 a5, .int .i64 a6, .int .i64 a7, .int .i64 a8] w') [] ⟨cI a1, cI a0⟩ fun Z => ?_; refine with_tabW spec_l3Near.tab1 spec_l3Near.bits1 fun T Y => ?_; generalize w9.drew = aM at a0 a1 a2 HB Z ⊢; refine pz 0 5 T ?_; refine pz 2 7 T ?_; refine pz 3 8 T ?_; refine pz 6 11 T ?_; refine pz 7 12 T ?_; refine pz 10 15 T ?_; refine pz 12 17 T ?_; refine pz 13 18 T ?_; refine pz 16 21 T ?_; refine pz 17 22 T ?_; refine tz 1 6 T Y Z ?_; refine tz 4 9 T Y Z ?_; refine tz 8 13 T Y Z ?_; refine tz 11 16 T Y Z ?_; refine tz 14 19 T Y Z ?_; refine tz 18 23 T Y Z ?_; refine oo 22 5 10 491007 T fun K hK => ?_; refine ky Try.func113 (spec_l3More.calls A3.out) ?_; rintro w' ⟨nd, rfl⟩; refine hz hK ⟨cI a1, cI a0⟩ fun Z => ?_; clear hK K; refine nn 10 ?_; refine oo 22 9 14 491519 T fun K hK => ?_; refine ky Try.func74 (spec_l3Less.calls A4.out) ?_; rintro w' ⟨nd, rfl⟩; refine hz hK ⟨cI a1, cI a0⟩ fun Z => ?_; clear hK K; refine nn 14 ?_; refine oo 22 15 20 524287 T fun K hK => ?_; refine ky Try.func113 (spec_l3More.calls A5.out) ?_; rintro w' ⟨nd, rfl⟩; refine hz hK ⟨cI a1, cI a0⟩ fun Z => ?_
 clear hK K; refine nn 20 ?_; refine oo 22 19 24 1048575 T fun K hK => ?_; refine ky Try.func74 (spec_l3Less.calls A6.out) ?_; rintro w' ⟨nd, rfl⟩; refine hz hK ⟨cI a1, cI a0⟩ fun Z => ?_; clear hK K; refine nn 24 ?_; refine pz 20 25 T ?_; refine op 22 21 4194303 T fun K hK => ?_; have b0 : aM.cell? ⟨aD, 0, none⟩ = some (.int .i64 0) := bc a2 0; have aY := blk_frozen a2.out 0; have aN := a3.out; have aO := a4.out; have aP := aB.out; have aQ := aC.out; have b1 : aM.cell? ⟨aD, 1, none⟩ = some (.int .i64 0) := bc a2 1; have aZ := blk_frozen a2.out 1; have aR := a3.out; have aS := a4.out; have aT := aB.out; have aU := aC.out; refine sq ?_ ?_ ?_; rotate_left
 ·go_simp
  rfl
 refine hz hK ⟨(cif a4 (cif a4 Z.1)), (cif a3 (cif a3 Z.2))⟩ fun Z => ?_; clear hK K; refine dn T ?_
 try go_wp2
 refine rz aD 33 #[.int .i64 aE, .int .i64 aF] (qP a2) Try.underlying33 ?_; exact ⟨qE, qL HB⟩

theorem rnL_spec_l5Mixed {P : Program} {ops : Array Oper} {Q : Exit → Act → World → Prop} {l : List Oper} {a : Act} {W : World} (K : World → Prop) (f : K W) (h : ∀ w', K w' → wpList P ops Q l a w') : wpList P ops Q l a W := h W f

/-! ### spec_l5Mixed: function 105 -/
def spec_l5Mixed.f (k : Nat) (aC aD aE aF a8 a9 a2 : Int) : Option (Int × Int × Int × Bool) := (spec_l3Point.f aC aD aE aF a8 a9).bind fun b2 => (if b2 = true then ((spec_l5Boxes.f k aC aD aE aF a8 a9 a8 a9).bind fun bt261 => (some (bt261.1, bt261.2.1, wrap64 (bt261.2.2.1 + a2), bt261.2.2.2))) else ((spec_l3Near.f aC aD aE aF a8 a9).bind fun bt266 => ((spec_l5Rounds.f k bt266.1 bt266.2 a8 a9 a2).bind fun bt268 => (some (bt268.1, bt268.2.1, bt268.2.2.1, bt268.2.2.2)))))
def spec_l5Mixed.T5 : TT := (true, [([], []), ([], []), ([0, 1], [0, 1]), ([], []), ([], []), ([2, 3, 4, 2], [2, 3, 4]), ([5], [5]), ([5], [5]), ([6, 5, 0, 1, 2, 3, 4, 5, 6, 7], [6]), ([7, 8, 0, 1, 2, 3, 4, 5, 6, 7, 8], [7])])
def spec_l5Mixed.B5 : List Nat := [0, 0, 3, 0, 0, 31, 63, 63, 255, 511]
theorem spec_l5Mixed.tab5 : rtab .any (opsOf Try.f105 5) = spec_l5Mixed.T5 := by kernel_rfl
theorem spec_l5Mixed.bits5 : waitsOk spec_l5Mixed.T5.2 spec_l5Mixed.B5 = true := by kernel_rfl
theorem spec_l5Mixed.calls {k : Nat} {aC aD aE aF a8 a9 a2 r1 r2 r3 : Int} {r4 : Bool} {w : World} (h : spec_l5Mixed.f k aC aD aE aF a8 a9 a2 = some (r1, r2, r3, r4)) :
  Calls Try.prog 105 #[.agg #[.int .i64 aC, .int .i64 aD, .int .i64 aE, .int .i64 aF], .agg #[.int .i64 a8, .int .i64 a9], .int .i64 a2] w fun e w' => e = .returned (.tuple #[.agg #[.int .i64 r1, .int .i64 r2, .int .i64 r3], .bool r4]) ∧ Below w.heap.size w w' := by
 have hu85 := Try.underlying85; have hu33 := Try.underlying33; have hu35 := Try.underlying35; have HB := br w
 unfold spec_l5Mixed.f at h
 have H := h; clear h; replace H := qH H; obtain ⟨aZ, aT, H⟩ := H
 by_cases aG : aZ = true; subst aG; replace H := qT H; replace H := qH H; obtain ⟨⟨aI, aJ, aH, aU⟩, aK, H⟩ := H
 try dsimp only at H
 simp only [Option.some.injEq, Prod.mk.injEq] at H; obtain ⟨rfl, rfl, rfl, rfl⟩ := H; refine ?L1; rotate_left; replace aG := Bool.eq_false_iff.mpr aG; subst aG; replace H := qU H; replace H := qH H; obtain ⟨⟨aI, aJ⟩, aK, H⟩ := H
 try dsimp only at H
 replace H := qH H; obtain ⟨⟨aH, aU, b0, bK⟩, b1, H⟩ := H
 try dsimp only at H
 simp only [Option.some.injEq, Prod.mk.injEq] at H; obtain ⟨rfl, rfl, rfl, rfl⟩ := H; refine ?L2
 rotate_right
 case' L1 | L2 =>
  go_enter Try.func105, Try.ntmps105
  try go_wp2_with (first | ((with_reducible refine gd 26 rfl ?_); refine rnL_spec_l5Mixed (fun w_ => w_.heap[aV]? = some (.cells #[.int .i64 aI, .int .i64 aJ, .int .i64 (wrap64 (aH + a2))] 35 (0, 0)) ∧ w_.heap[aA]? = some (.cells #[.int .i64 0, .int .i64 0, .int .i64 0] 35 (0, 0)) ∧ Below w.heap.size w w_) ⟨qP aB, qF a0, qL HB⟩ ?_; clear aB a0 HB; rintro c5 ⟨n0_, n1_, n2_⟩; have aB := az n0_; have a0 := az n1_; have HB := az n2_; clear n0_ n1_ n2_; obtain ⟨z26_265_0, z26_265_1, z26_265_2⟩ := cz3 aB.out; obtain ⟨f26_265_0, f26_265_1, f26_265_2⟩ := fz3 aB.out; obtain ⟨z26_259_0, z26_259_1, z26_259_2⟩ := cz3 a0.out; obtain ⟨f26_259_0, f26_259_1, f26_259_2⟩ := fz3 a0.out; go_step) | ((with_reducible refine gd 3 rfl ?_); refine bx 3 #[.int .i64 aC, .int .i64 aD, .int .i64 aE, .int .i64 aF] 85 ?_; intro aW hg w7 a1 hb; have bL := se hg HB; replace HB := bS HB hb; clear hb hg) | ((with_reducible refine gd 4 rfl ?_); refine bx 4 #[.int .i64 a8, .int .i64 a9] 33 ?_; intro aX hg w8 a3 hb; have bM := se hg HB; obtain ⟨aL, aM⟩ := nPB a1 hg; replace a1 := kBB a1 hb; replace HB := bS HB hb; clear hb hg) | ((with_reducible refine gd 6 rfl ?_); refine bz3 6 35 ?_; intro aA hg w9 a0 hb; have bN := se hg HB; obtain ⟨a4, a6⟩ := nPB a1 hg; obtain ⟨a5, a7⟩ := nPB a3 hg; replace a1 := kBB a1 hb; replace a3 := kBB a3 hb; replace HB := bS HB hb; clear hb hg; have bO := aL.out; have bP := aM.out; have bQ := a4.out; have bR := a6.out; have hcz12_c := cz4 a1.out; have hfz12_c := fz4 a1.out; have bT := a5.out; have bU := a7.out; have hcz14_c := cz2 a3.out; have b3 := blk_frozen a3.out 0; have b4 := blk_frozen a3.out 1) | ((with_reducible refine gc 126 rfl ?_); refine gr 12 Try.func126 (spec_l3Point.calls (r := true) aT.out) ?_; rintro c9 hb; replace a1 := kBB a1 hb; replace a3 := kBB a3 hb; replace a0 := kBB a0 hb; replace HB := bS HB hb; clear hb; have hcz16_c := cz4 a1.out; have hfz16_c := fz4 a1.out; have hcz17_c := cz2 a3.out; have b5 := blk_frozen a3.out 0; have b6 := blk_frozen a3.out 1) | ((with_reducible refine gc 103 rfl ?_); refine gr 18 Try.func103 (spec_l5Boxes.calls aK.out) ?_; rintro cA hb; replace a1 := kBB a1 hb; replace a3 := kBB a3 hb; replace a0 := kBB a0 hb; replace HB := bS HB hb; clear hb) | ((with_reducible refine gd 8 rfl ?_); refine bz3 8 35 ?_; intro aV hg cB aB hb; have bV := se hg HB; obtain ⟨aN, aO⟩ := nPB a1 hg; obtain ⟨aP, aQ⟩ := nPB a3 hg; obtain ⟨aR, aS⟩ := nPB a0 hg; replace a1 := kBB a1 hb; replace a3 := kBB a3 hb; replace a0 := kBB a0 hb; replace HB := bS HB hb; clear hb hg; have bW := aO.out; have bX := aN.out; have bY := aQ.out; have bZ := aP.out; have c0 := aS.out; have c1 := aR.out; have hcz23_c := cz3 aB.out; have hfz23_c := fz3 aB.out; have hcz24_c := cz3 a0.out; have hfz24_c := fz3 a0.out) | ((with_reducible refine gc 126 rfl ?_); refine gr 12 Try.func126 (spec_l3Point.calls (r := false) aT.out) ?_; rintro bJ hb; replace a1 := kBB a1 hb; replace a3 := kBB a3 hb; replace a0 := kBB a0 hb; replace HB := bS HB hb; clear hb))
 case L1 =>
  refine rt aA 35 #[.int .i64 aI, .int .i64 aJ, .int .i64 (wrap64 (aH + a2))] (qP a0) Try.underlying35 ?_; exact ⟨qE, qL HB⟩
 case L2 =>
  replace a1 := bd a1; replace a3 := bd a3; replace a0 := bd a0; replace HB := ed HB; refine sa 10 (fun w' => ci aW 0 [.int .i64 aC, .int .i64 aD, .int .i64 aE, .int .i64 aF] w' ∧ ci aX 0 [.int .i64 a8, .int .i64 a9] w') [] ⟨cI a1, cI a3⟩ fun Z => ?_; refine with_tabW spec_l5Mixed.tab5 spec_l5Mixed.bits5 fun T Y => ?_; generalize bJ.drew = cC at a1 a3 a0 HB Z ⊢; refine pz 4 32 T ?_; refine tz 0 28 T Y Z ?_; refine tz 1 29 T Y Z ?_; refine tz 3 31 T Y Z ?_; refine oo 10 2 30 31 T fun K hK => ?_; refine ky Try.func127 (spec_l3Near.calls aK.out) ?_; rintro cD hb; replace a1 := kBB a1 hb; replace a3 := kBB a3 hb; replace a0 := kBB a0 hb; replace HB := bS HB hb; clear hb; refine hz hK ⟨cI a1, cI a3⟩ fun Z => ?_; clear hK K; refine nn 30 ?_; refine oo 10 5 33 63 T fun K hK => ?_; refine ky Try.func102 (spec_l5Rounds.calls b1.out) ?_; rintro aY hb; replace a1 := kBB a1 hb; replace a3 := kBB a3 hb; replace a0 := kBB a0 hb; replace HB := bS HB hb; clear hb; refine hz hK ⟨cI a1, cI a3⟩ fun Z => ?_; clear hK K; refine nn 33 ?_; refine pz 6 34 T ?_; refine pz 7 35 T ?_; refine op 10 8 511 T fun K hK => ?_; have c6 : aY.cell? ⟨aA, 0, none⟩ = some (.int .i64 0) := bc a0 0; have c2 := blk_frozen a0.out 0; have b7 := a4.out; have b8 := a5.out; have b9 := a6.out; have bA := a7.out; have c7 : aY.cell? ⟨aA, 1, none⟩ = some (.int .i64 0) := bc a0 1; have c3 := blk_frozen a0.out 1; have bB := a4.out; have bC := a5.out; have bD := a6.out; have bE := a7.out; have c8 : aY.cell? ⟨aA, 2, none⟩ = some (.int .i64 0) := bc a0 2; have c4 := blk_frozen a0.out 2; have bF := a4.out; have bG := a5.out; have bH := a6.out; have bI := a7.out; refine sq ?_ ?_ ?_; rotate_left
  ·go_simp
   rfl
  refine hz hK ⟨(cif a4 (cif a4 (cif a4 Z.1))), (cif a5 (cif a5 (cif a5 Z.2)))⟩ fun Z => ?_; clear hK K; refine pz 9 7 T ?_; refine dn T ?_
  try go_wp2
  refine rt aA 35 #[.int .i64 aH, .int .i64 aU, .int .i64 b0] (qP a0) Try.underlying35 ?_; exact ⟨qE, qL HB⟩

/-! ### spec_l5Turn: function 106 -/
def spec_l5Turn.f (a0 a1 a2 : Int) : Option (Int × Int × Int) := some (wrap64 (-a0), wrap64 (-a1), a2)
theorem spec_l5Turn.calls {a0 a1 a2 r1 r2 r3 : Int} {w : World} (h : spec_l5Turn.f a0 a1 a2 = some (r1, r2, r3)) :
  Calls Try.prog 106 #[.agg #[.int .i64 a0, .int .i64 a1, .int .i64 a2]] w fun e w' => e = .returned (.agg #[.int .i64 r1, .int .i64 r2, .int .i64 r3]) ∧ Below w.heap.size w w' := by
 have hu35 := Try.underlying35; have hu33 := Try.underlying33; have HB := br w; have H : (some (wrap64 (-a0), wrap64 (-a1), a2)) = some (r1, r2, r3) := h; clear h; simp only [Option.some.injEq, Prod.mk.injEq] at H; obtain ⟨rfl, rfl, rfl⟩ := H; go_enter Try.func106, Try.ntmps106; go_wp2_with (first | ((with_reducible refine gd 1 rfl ?_); refine bx 1 #[.int .i64 a0, .int .i64 a1, .int .i64 a2] 35 ?_; intro a8 hg w2 a3 hb; have a9 := se hg HB; replace HB := bS HB hb; clear hb hg) | ((with_reducible refine gd 2 rfl ?_); refine bz3 2 35 ?_; intro a7 hg w3 a4 hb; have aA := se hg HB; obtain ⟨a5, a6⟩ := nPB a3 hg; replace a3 := kBB a3 hb; replace HB := bS HB hb; clear hb hg; have aB := a5.out; have aC := a6.out; have hcz5_c := cz3 a3.out; have hfz5_c := fz3 a3.out; have hcz6_c := cz3 a4.out; have hfz6_c := fz3 a4.out)); refine rz a7 35 #[.int .i64 (wrap64 (-a0)), .int .i64 (wrap64 (-a1)), .int .i64 a2] (qP a4) Try.underlying35 ?_; exact ⟨qE, qL HB⟩
end Go.Proofs.Ytdngjedhbnoaoaa.PBig
