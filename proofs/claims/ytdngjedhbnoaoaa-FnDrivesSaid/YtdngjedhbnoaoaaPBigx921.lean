/- What these functions compute, each walked once: spec_DrawDrives, impl_Drives, spec_Drives, laws_FnDrives; for all arguments and worlds, under the conditions that each theorem names. -/
import Derived.Test.YtdngjedhbnoaoaaSq
import Derived.Test.YtdngjedhbnoaoaaPBigx900
import Derived.Test.YtdngjedhbnoaoaaPBigx912
import Derived.Test.YtdngjedhbnoaoaaPBigx914
namespace Go.Proofs.Ytdngjedhbnoaoaa.PBig
open Go.RowKit Go.Proofs.YtdngjedhbnoaoaaW.PrintWords Go.Proofs.YtdngjedhbnoaoaaW.PrintLast Go.Proofs.YtdngjedhbnoaoaaW.PrintMore
attribute [local go_sem] max2_int min2_int max_two min_two max_three min_three max_four min_four
set_option linter.unusedVariables false
set_option linter.unusedSimpArgs false
set_option maxHeartbeats 8000000
set_option maxRecDepth 100000

/-! ### spec_DrawDrives: function 43 -/
def spec_DrawDrives.f (k : Nat) (l0 : List Int) : Option ((List S41)) := (spec_l1Open.f l0).bind fun bt1459 => ((spec_l11AnyBodies.f k bt1459.1 bt1459.2).bind fun bt1462 => (some bt1462.1))
theorem spec_DrawDrives.calls {k : Nat} {A0 : Option Addr} {c0 : Nat} {l0 : List Int} {r : List S41} {w : World} (hr0 : Kd.C (Kd.int .u8) w A0 l0.length l0) (hc0 : l0.length ≤ c0) (h : spec_DrawDrives.f k l0 = some r) :
  Calls Try.prog 43 #[.slice A0 l0.length c0] w fun e w' => ∃ a3 : Value, e = .returned (a3) ∧ Kd.R k41 41 w' w.heap.size (fun _ => True) a3 r ∧ Below w.heap.size w w' := by
 have HR0 := az hr0; have a5 := az hc0; clear hr0 hc0; have HB := br w; have H : ((spec_l1Open.f l0).bind fun bt1459 => ((spec_l11AnyBodies.f k bt1459.1 bt1459.2).bind fun bt1462 => (some bt1462.1))) = some r := h; clear h; replace H := qH H; obtain ⟨⟨a6, a7⟩, A2, H⟩ := H
 try dsimp only at H
 replace H := qH H; obtain ⟨⟨a8, a9⟩, A3, H⟩ := H
 try dsimp only at H
 obtain rfl := Option.some.inj H; go_enter Try.func43, Try.ntmps43; go_wp2_with (first | ((with_reducible refine gc 50 rfl ?_); refine gx 4 Try.func50 (spec_l1Open.calls (w0 := w) (qL HB) HR0.out a5.out A2.out) ?_; rintro a2 w4 ⟨hi, hb, hb2⟩; have a0 := az hi; replace HB := az hb; clear hb2 hb hi) | ((with_reducible refine gc 49 rfl ?_); refine gx 5 Try.func49 (spec_l11AnyBodies.calls (g := a2) (w0 := w) (qI a0) (qL HB) A3.out) ?_; rintro aA w5 ⟨a4, hi, hb, hk⟩; have a1 := lo a4 HB; replace HB := az hb; replace a0 := az hi; clear hb hk hi))
 go_ret
 exact ⟨_, qE, qR a1, qL HB⟩

/-! ### impl_Drives: function 44 -/
def impl_Drives.l0 : Nat → List S41 → Int → Int → Int → Int → Option (Int × Int)
  | 0, _, _, _, _, _ => none
  | k + 1, aZ, b8, aT, aD, aE => if aT < b8 then (if 0 ≤ aT then (if aT < (aZ.length : Int) then ((impl_Vec_plus.f aD aE ((rd_T41 aZ aT).f3.f0) ((rd_T41 aZ aT).f3.f1)).bind fun bt1471 => (impl_Drives.l0 k aZ b8 (wrap64 (aT + 1)) bt1471.1 bt1471.2)) else none) else none) else (some (aD, aE))
def impl_Drives.f (k : Nat) (l0 : List S41) : Option (Int × Int) := (impl_BodiesOk.f k l0).bind fun aV => (if aV = true then (impl_Drives.l0 k l0 (l0.length : Int) 0 0 0) else (some (0, 0)))
theorem impl_Drives.calls {k : Nat} {A0 : Option Addr} {c0 : Nat} {l0 : List S41} {r1 r2 : Int} {w : World} (hr0 : Kd.C k41 w A0 l0.length l0) (hc0 : l0.length ≤ c0) (h : impl_Drives.f k l0 = some (r1, r2)) :
  Calls Try.prog 44 #[.slice A0 l0.length c0] w fun e w' => e = .returned (.agg #[.int .i64 r1, .int .i64 r2]) ∧ Below w.heap.size w w' := by
 have hu33 := Try.underlying33; have hu41 := Try.underlying41; have HR0 := az hr0; have b9 := az hc0; clear hr0 hc0; have HB := br w; have H : ((impl_BodiesOk.f k l0).bind fun aV => (if aV = true then (impl_Drives.l0 k l0 (l0.length : Int) 0 0 0) else (some (0, 0)))) = some (r1, r2) := h; clear h; replace H := qH H; obtain ⟨b3, b0, H⟩ := H
 by_cases a8 : b3 = true; subst a8; replace H := qT H; have H' := az H; clear H; refine ?L3; rotate_left; replace a8 := Bool.eq_false_iff.mpr a8; subst a8; replace H := qU H; simp only [Option.some.injEq, Prod.mk.injEq] at H; obtain ⟨rfl, rfl⟩ := H; refine ?L4
 rotate_right
 case' L3 | L4 =>
  go_enter Try.func44, Try.ntmps44; go_wp2_with (first | ((with_reducible refine gd 2 rfl ?_); refine bz2 2 33 ?_; intro a9 hg w4 a1 hb; have bO := se hg HB; replace HB := bS HB hb; clear hb hg) | ((with_reducible refine gd 3 rfl ?_); refine bz2 3 33 ?_; intro aY hg w5 a0 hb; have bP := se hg HB; obtain ⟨a6, a7⟩ := nPB a1 hg; replace a1 := kBB a1 hb; replace HB := bS HB hb; clear hb hg) | ((with_reducible refine gc 27 rfl ?_); refine gr 7 Try.func27 (impl_BodiesOk.calls (r := true) (qC (Kd.C_below HR0.out HB.out)) b9.out b0.out) ?_; rintro w6 hb; replace a1 := kBB a1 hb; replace a0 := kBB a0 hb; replace HB := bS HB hb; clear hb) | ((with_reducible refine gc 27 rfl ?_); refine gr 7 Try.func27 (impl_BodiesOk.calls (r := false) (qC (Kd.C_below HR0.out HB.out)) b9.out b0.out) ?_; rintro c4 hb; replace a1 := kBB a1 hb; replace a0 := kBB a0 hb; replace HB := bS HB hb; clear hb; have bT := a7.out; have bU := a6.out; have hcz26_c := cz2 a0.out; have bB := blk_frozen a0.out 0; have bC := blk_frozen a0.out 1; have hcz27_c := cz2 a1.out; have bD := blk_frozen a1.out 0; have bE := blk_frozen a1.out 1))
 case L3 =>
  go_loopg [12] k (fun kq v12 w' => ∃ (a2 : Int) (a3 : Int) (a4 : Int), v12 = .int .i64 a2 ∧ Aside0 (impl_Drives.l0 kq l0 (l0.length : Int) a2 a3 a4 = some (r1, r2)) ∧ Aside0 (kq ≤ k) ∧ Aside0 (w'.heap[a9]? = some (.cells #[.int .i64 0, .int .i64 0] 33 (0, 0))) ∧ Aside0 (w'.heap[aY]? = some (.cells #[.int .i64 a3, .int .i64 a4] 33 (0, 0))) ∧ Aside0 (Below w.heap.size w w'))
  case atStart => exact ⟨(0), (0), (0), qG, H', ⟨Nat.le_refl _⟩, ⟨qF a1⟩, ⟨qF a0⟩, ⟨qL HB⟩⟩
  case round =>
   clear H'; obtain ⟨a2, a3, a4, rfl, HA, bA, a1, a0, HB⟩ := hrel
   obtain ⟨k1, rfl⟩ := qz gk HA
   have H := HA.out; clear HA; simp only [impl_Drives.l0] at H; replace H := qc H; obtain ⟨aU, H⟩ | ⟨aU, H⟩ := H; replace H := qd H; obtain ⟨bF, H⟩ := H; replace H := qd H; obtain ⟨aU, H⟩ := H; replace H := qH H; obtain ⟨⟨b4, b5⟩, b6, H⟩ := H
   try dsimp only at H
   have H' := az H; clear H; refine ?L1; rotate_left; simp only [Option.some.injEq, Prod.mk.injEq] at H; obtain ⟨rfl, rfl⟩ := H; refine ?L2
   rotate_right
   case L1 =>
    obtain ⟨aW, aX, bQ, b7, aF, aG, aH, aI, aJ, aK, aL, aM, aN, aO, aB, aC⟩ := ay41 HR0.out a2; cases b7; obtain ⟨aF, aG, aH, aI, aJ, aK, aL, aM, aN, aO, aB, aC⟩ := hB12 HB aF aG aH aI aJ aK aL aM aN aO aB aC; go_wp2_with (first | ((with_reducible refine gd 5 rfl ?_); refine bz12 5 41 ?_; intro b2 hg c5 aA hb; have bR := se hg HB; obtain ⟨aP, aQ⟩ := nPB a1 hg; obtain ⟨aR, aS⟩ := nPB a0 hg; replace a1 := kBB a1 hb; replace a0 := kBB a0 hb; replace HB := bS HB hb; clear hb hg; have bV := aQ.out; have bW := aP.out; have bX := aS.out; have bY := aR.out; have hcz14_c := cz12 aA.out; have hfz14_c := fz12 aA.out; have bZ := a7.out; have c1 := a6.out; have hcz16_c := cz2 a0.out; have bG := blk_frozen a0.out 0; have bH := blk_frozen a0.out 1) | ((with_reducible refine gc 64 rfl ?_); refine gr 19 Try.func64 (impl_Vec_plus.calls b6.out) ?_; rintro c6 hb; replace a1 := kBF a1 hb; replace a0 := kBF a0 hb; replace aA := kBP (o' := .cells (a41 (rd_T41 l0 a2)) 41 (0, 0)) aA hb; replace HB := bS HB hb; clear hb; have hcz18_c := cz2 a0.out; have bI := blk_frozen a0.out 0; have bJ := blk_frozen a0.out 1))
    go_roundg k1
    case measure => exact ma bA
    exact ⟨(wrap64 (a2 + 1)), (b4), (b5), qG, H', ⟨ma bA⟩, ⟨qF a1⟩, ⟨qP a0⟩, ⟨qL HB⟩⟩
   case L2 =>
    have c2 := a7.out; have c3 := a6.out; have hcz20_c := cz2 a0.out; have bK := blk_frozen a0.out 0; have bL := blk_frozen a0.out 1; have hcz21_c := cz2 a1.out; have bM := blk_frozen a1.out 0; have bN := blk_frozen a1.out 1; go_wp2; refine rz a9 33 #[.int .i64 a3, .int .i64 a4] (qP a1) Try.underlying33 ?_; exact ⟨qE, qL HB⟩
 case L4 =>
  refine rz a9 33 #[.int .i64 0, .int .i64 0] (qP a1) Try.underlying33 ?_; exact ⟨qE, qL HB⟩

/-! ### spec_Drives: function 45 -/
def spec_Drives.l0 : Nat → List S41 → Int → Int → Int → Option (Int × Int)
  | 0, _, _, _, _ => none
  | k + 1, x0, x4, aZ, b0 => if x4 < (x0.length : Int) then (if 0 ≤ x4 then (spec_Drives.l0 k x0 (wrap64 (x4 + 1)) (wrap64 (aZ + ((rd_T41 x0 x4).f3.f0))) (wrap64 (b0 + ((rd_T41 x0 x4).f3.f1)))) else none) else (some (aZ, b0))
def spec_Drives.f (k : Nat) (l0 : List S41) : Option (Int × Int) := (spec_BodiesOk.f k l0).bind fun b2 => (if b2 = true then (spec_Drives.l0 k l0 0 0 0) else (some (0, 0)))
def spec_Drives.T7 : TT := (true, [([], []), ([0], [0]), ([], []), ([], []), ([2, 3], [2, 3]), ([4], [4]), ([5], [5]), ([6], [6]), ([1, 7], [1, 7]), ([0, 1, 2, 3, 4, 5, 6, 7, 8], []), ([9, 8, 0, 1, 2, 3, 4, 5, 6, 7, 8], [8, 9])])
def spec_Drives.B7 : List Nat := [0, 1, 0, 0, 12, 28, 60, 124, 255, 511, 1023]
theorem spec_Drives.tab7 : rtab .any (opsOf Try.f45 7) = spec_Drives.T7 := by kernel_rfl
theorem spec_Drives.bits7 : waitsOk spec_Drives.T7.2 spec_Drives.B7 = true := by kernel_rfl
def spec_Drives.T8 : TT := (true, [([], []), ([0], [0]), ([], []), ([], []), ([2, 3], [2, 3]), ([4], [4]), ([5], [5]), ([6], [6]), ([1, 7], [1, 7]), ([0, 1, 2, 3, 4, 5, 6, 7, 8], []), ([9, 8, 0, 1, 2, 3, 4, 5, 6, 7, 8], [8, 9])])
def spec_Drives.B8 : List Nat := [0, 1, 0, 0, 12, 28, 60, 124, 255, 511, 1023]
theorem spec_Drives.tab8 : rtab .any (opsOf Try.f45 8) = spec_Drives.T8 := by kernel_rfl
theorem spec_Drives.bits8 : waitsOk spec_Drives.T8.2 spec_Drives.B8 = true := by kernel_rfl
theorem spec_Drives.calls {k : Nat} {A0 : Option Addr} {c0 : Nat} {l0 : List S41} {r1 r2 : Int} {w : World} (hr0 : Kd.C k41 w A0 l0.length l0) (hc0 : l0.length ≤ c0) (h : spec_Drives.f k l0 = some (r1, r2)) :
  Calls Try.prog 45 #[.slice A0 l0.length c0] w fun e w' => e = .returned (.agg #[.int .i64 r1, .int .i64 r2]) ∧ Below w.heap.size w w' := by
 have hu33 := Try.underlying33; have HR0 := az hr0; have c5 := az hc0; clear hr0 hc0; have HB := br w; have H : ((spec_BodiesOk.f k l0).bind fun b2 => (if b2 = true then (spec_Drives.l0 k l0 0 0 0) else (some (0, 0)))) = some (r1, r2) := h; clear h; replace H := qH H; obtain ⟨c2, bW, H⟩ := H
 by_cases aY : c2 = true; subst aY; replace H := qT H; have H' := az H; clear H; refine ?L3; rotate_left; replace aY := Bool.eq_false_iff.mpr aY; subst aY; replace H := qU H; simp only [Option.some.injEq, Prod.mk.injEq] at H; obtain ⟨rfl, rfl⟩ := H; refine ?L4
 rotate_right
 case' L3 | L4 =>
  go_enter Try.func45, Try.ntmps45; go_wp2_with (first | ((with_reducible refine gd 2 rfl ?_); refine bz2 2 33 ?_; intro aW hg w4 a2 hb; have cM := se hg HB; replace HB := bS HB hb; clear hb hg) | ((with_reducible refine gd 3 rfl ?_); refine bz2 3 33 ?_; intro a7 hg w5 a0 hb; have cN := se hg HB; obtain ⟨a5, a6⟩ := nPB a2 hg; replace a2 := kBB a2 hb; replace HB := bS HB hb; clear hb hg; have cX := a6.out; have cY := a5.out; obtain ⟨cO, cP⟩ := cz2 a0.out; have cQ := blk_frozen a0.out 0; have cR := blk_frozen a0.out 1) | ((with_reducible refine gc 17 rfl ?_); refine gr 7 Try.func17 (spec_BodiesOk.calls (r := true) (Kd.C_below HR0.out (qL HB)) c5.out bW.out) ?_; rintro w8 hb; replace a2 := kBF a2 hb; replace a0 := kBP (o' := .cells #[.int .i64 0, .int .i64 0] 33 (0, 0)) a0 hb; replace HB := bS HB hb; clear hb) | ((with_reducible refine gc 17 rfl ?_); refine gr 7 Try.func17 (spec_BodiesOk.calls (r := false) (Kd.C_below HR0.out (qL HB)) c5.out bW.out) ?_; rintro dB hb; replace a2 := kBF a2 hb; replace a0 := kBP (o' := .cells #[.int .i64 0, .int .i64 0] 33 (0, 0)) a0 hb; replace HB := bS HB hb; clear hb; have hcz24_c := cz2 a0.out; have c8 := blk_frozen a0.out 0; have c9 := blk_frozen a0.out 1; have hcz25_c := cz2 a2.out; have cA := blk_frozen a2.out 0; have cB := blk_frozen a2.out 1))
 case L3 =>
  go_loopg [4] k (fun kq v4 w' => ∃ (a1 : Int) (a3 : Int) (a4 : Int), v4 = .int .i64 a1 ∧ Aside0 (spec_Drives.l0 kq l0 a1 a3 a4 = some (r1, r2)) ∧ Aside0 (kq ≤ k) ∧ Aside0 (w'.heap[aW]? = some (.cells #[.int .i64 0, .int .i64 0] 33 (0, 0))) ∧ Aside0 (w'.heap[a7]? = some (.cells #[.int .i64 a3, .int .i64 a4] 33 (0, 0))) ∧ Aside0 (Below w.heap.size w w'))
  case atStart => exact ⟨(0), (0), (0), qG, H', ⟨Nat.le_refl _⟩, ⟨qF a2⟩, ⟨qF a0⟩, ⟨qL HB⟩⟩
  case round =>
   clear H'; obtain ⟨a1, a3, a4, rfl, HA, c6, a2, a0, HB⟩ := hrel
   obtain ⟨k1, rfl⟩ := qz gk HA
   have H := HA.out; clear HA; simp only [spec_Drives.l0] at H; replace H := qc H; obtain ⟨bZ, H⟩ | ⟨bZ, H⟩ := H; replace H := qd H; obtain ⟨cC, H⟩ := H; have H' := az H; clear H; refine ?L1; rotate_left; simp only [Option.some.injEq, Prod.mk.injEq] at H; obtain ⟨rfl, rfl⟩ := H; refine ?L2
   rotate_right
   case L1 =>
    try go_wp2
    replace a2 := bd a2; replace a0 := bd a0; replace HB := ed HB; obtain ⟨b3, b4, b1, c3, aC, aD, aE, aF, aG, aH, aI, aJ, aK, aL, a8, a9⟩ := ay41 HR0.out a1; have b7 := a9; have b8 := a8; have bB := aL; have bC := aK; have bD := aJ; have bE := aI; have bF := aH; have bG := aG; have bH := aF; have bI := aE; have bJ := aD; have bK := aC; cases c3; obtain ⟨aC, aD, aE, aF, aG, aH, aI, aJ, aK, aL, a8, a9⟩ := hB12 HB aC aD aE aF aG aH aI aJ aK aL a8 a9; refine sa 11 (fun w' => ci a7 0 [.int .i64 a3, .int .i64 a4] w' ∧ ca (b1.add ((a1).toNat * 12)) (v41 (rd_T41 l0 a1)) w') [10] ⟨cI a0, ⟨hB HB bK, hB HB bJ, hB HB bI, hB HB bH, hB HB bG, hB HB bF, hB HB bE, hB HB bD, hB HB bC, hB HB bB, hB HB b8, hB HB b7, trivial⟩⟩ fun Z => ?_; refine with_tabW spec_Drives.tab7 spec_Drives.bits7 fun T Y => ?_; generalize wr.drew = c7 at a2 a0 HB aC aD a8 a9 aE aF aG aH aI aJ aK aL Z ⊢; refine pz 0 16 T ?_; refine pz 2 18 T ?_; refine pz 3 19 T ?_; refine pz 4 20 T ?_; refine pz 5 21 T ?_; refine pz 6 22 T ?_; refine tz 1 17 T Y Z ?_; refine tz 7 23 T Y Z ?_; refine pz 8 24 T ?_; refine pz 9 25 T ?_; refine last_ (i := 10) (N := none) (fl 11 2047) rfl rfl (one_of T.out (by kernel_rfl)) (by decide) (fun K hK => ?_); have cZ : c7.cell? ⟨a7, 0, none⟩ = some (.int .i64 a3) := bc a0 0; have cT := blk_frozen a0.out 0
    have cD := a5.out; have cE := a6.out; refine sq ?_ ?_ ?_; rotate_left
    ·go_simp
     rfl
    refine hK.out _ _ ?_; clear hK K; refine dn T ?_
    try go_wp2
    obtain ⟨bY, hw_⟩ : ∃ x, x = (c7.setCell ⟨a7, 0, none⟩ (.int .i64 (wrap64 (a3 + ((rd_T41 l0 a1).f3.f0))))) := ⟨_, rfl⟩; replace a2 : Aside0 (bY.heap[aW]? = some (.cells #[.int .i64 0, .int .i64 0] 33 (0, 0))) := ⟨by rw [hw_]; exact qF a2⟩; replace a0 : Aside0 (bY.heap[a7]? = some (.cells #[.int .i64 (wrap64 (a3 + ((rd_T41 l0 a1).f3.f0))), .int .i64 a4] 33 (0, 0))) := ⟨by rw [hw_]; exact qP a0⟩; replace HB : Aside0 (Below w.heap.size w bY) := ⟨by rw [hw_]; exact qL HB⟩; rw [← hw_]; clear hw_; replace a2 := bd a2; replace a0 := bd a0; replace HB := ed HB; obtain ⟨b5, b6, c1, c4, aM, aN, aO, aP, aQ, aR, aS, aT, aU, aV, aA, aB⟩ := ay41 HR0.out a1; have b9 := aB; have bA := aA; have bL := aV; have bM := aU; have bN := aT; have bO := aS; have bP := aR; have bQ := aQ; have bR := aP; have bT := aO; have bU := aN; have bV := aM; obtain rfl : b1 = c1 := (by injection c4); obtain ⟨aM, aN, aO, aP, aQ, aR, aS, aT, aU, aV, aA, aB⟩ := hB12 HB aM aN aO aP aQ aR aS aT aU aV aA aB; refine sa 11 (fun w' => ci a7 0 [.int .i64 (wrap64 (a3 + ((rd_T41 l0 a1).f3.f0))), .int .i64 a4] w' ∧ ca (b1.add ((a1).toNat * 12)) (v41 (rd_T41 l0 a1)) w') [10] ⟨cI a0, ⟨hB HB bV, hB HB bU, hB HB bT, hB HB bR, hB HB bQ, hB HB bP, hB HB bO, hB HB bN, hB HB bM, hB HB bL, hB HB bA, hB HB b9, trivial⟩⟩ fun Z => ?_; refine with_tabW spec_Drives.tab8 spec_Drives.bits8 fun T Y => ?_; generalize bY.drew = cS at a2 a0 HB aM aN aA aB aO aP aQ aR aS aT aU aV Z ⊢; refine pz 0 26 T ?_; refine pz 2 28 T ?_; refine pz 3 29 T ?_; refine pz 4 30 T ?_
    refine pz 5 31 T ?_; refine pz 6 32 T ?_; refine tz 1 27 T Y Z ?_; refine tz 7 33 T Y Z ?_; refine pz 8 34 T ?_; refine pz 9 35 T ?_; refine last_ (i := 10) (N := none) (fl 11 2047) rfl rfl (one_of T.out (by kernel_rfl)) (by decide) (fun K hK => ?_); have dA : cS.cell? ⟨a7, 1, none⟩ = some (.int .i64 a4) := bc a0 1; have cU := blk_frozen a0.out 1; have cF := a5.out; have cG := a6.out; refine sq ?_ ?_ ?_; rotate_left
    ·go_simp
     rfl
    refine hK.out _ _ ?_; clear hK K; refine dn T ?_
    try go_wp2
    go_roundg k1
    case measure => exact ma c6
    exact ⟨(wrap64 (a1 + 1)), (wrap64 (a3 + ((rd_T41 l0 a1).f3.f0))), (wrap64 (a4 + ((rd_T41 l0 a1).f3.f1))), qG, H', ⟨ma c6⟩, ⟨qF a2⟩, ⟨qP a0⟩, ⟨qL HB⟩⟩
   case L2 =>
    have cV := a6.out; have cW := a5.out; have hcz17_c := cz2 a0.out; have cH := blk_frozen a0.out 0; have cJ := blk_frozen a0.out 1; have hcz18_c := cz2 a2.out; have cK := blk_frozen a2.out 0; have cL := blk_frozen a2.out 1; go_wp2; refine rz aW 33 #[.int .i64 a3, .int .i64 a4] (qP a2) Try.underlying33 ?_; exact ⟨qE, qL HB⟩
 case L4 =>
  refine rz aW 33 #[.int .i64 0, .int .i64 0] (qP a2) Try.underlying33 ?_; exact ⟨qE, qL HB⟩

attribute [local go_sem high] eqA33
/-! ### laws_FnDrives: function 10 -/
def laws_FnDrives.j0 : Nat → List S41 → Bool → Int → Int → Option (Bool)
  | 0, _, _, _, _ => none
  | k + 1, x3, dD, bH, bI => if dD = true then ((spec_Drives.f k x3).bind fun bt1489 => (if (bH == bt1489.1 && (bI == bt1489.2)) = true then ((impl_BodiesOk.f k x3).bind fun bV => ((spec_BodiesOk.f k x3).bind fun bW => (some (bV == bW)))) else (some false))) else (if 1 ≤ (x3.length : Int) then ((impl_Drives.f k (x3.drop 1)).bind fun bt1497 => (if 0 < (x3.length : Int) then (if bH = (wrap64 (bt1497.1 + ((rd_T41 x3 0).f3.f0))) then (some (bI == (wrap64 (bt1497.2 + ((rd_T41 x3 0).f3.f1))))) else (some false)) else none)) else none)
def laws_FnDrives.f (k : Nat) (l0 : List Int) : Option (Bool) := if (l0.length : Int) > 1048576 then (some true) else ((spec_DrawDrives.f k l0).bind fun aQ => ((impl_Drives.f k aQ).bind fun bt1481 => ((spec_Drives.f k aQ).bind fun bt1484 => (if (!(bt1481.1 == bt1484.1) || (!(bt1481.2 == bt1484.2))) = true then (laws_FnDrives.j0 k aQ true bt1481.1 bt1481.2) else ((impl_BodiesOk.f k aQ).bind fun cK => ((spec_BodiesOk.f k aQ).bind fun cL => (if (cK != cL) = true then (laws_FnDrives.j0 k aQ true bt1481.1 bt1481.2) else ((spec_BodiesOk.f k aQ).bind fun cM => (if cM = true then (laws_FnDrives.j0 k aQ ((aQ.length : Int) == 0) bt1481.1 bt1481.2) else (laws_FnDrives.j0 k aQ true bt1481.1 bt1481.2))))))))))
def laws_FnDrives.T5 : TT := (true, [([], []), ([], []), ([1], [1]), ([0, 2], [0, 2]), ([3, 2], [3]), ([4], [4]), ([5, 4, 4], [4, 5]), ([4], [4]), ([7, 6, 4], [4, 7]), ([6, 8, 4], [4, 6, 8]), ([4, 9], [4, 9]), ([10, 8], [10]), ([11], [11]), ([12, 11, 11], [11, 12]), ([13, 11], [11, 13]), ([11, 14], [11, 14]), ([15, 13], [15]), ([16], [16]), ([17, 16], [16, 17]), ([18, 16], [16, 18]), ([16, 19], [16, 19])])
def laws_FnDrives.B5 : List Nat := [0, 0, 2, 7, 15, 31, 63, 31, 255, 511, 1023, 2047, 4095, 8191, 16383, 32767, 65535, 131071, 262143, 524287, 1048575]
theorem laws_FnDrives.tab5 : rtab .any (opsOf Try.f10 5) = laws_FnDrives.T5 := by kernel_rfl
theorem laws_FnDrives.bits5 : waitsOk laws_FnDrives.T5.2 laws_FnDrives.B5 = true := by kernel_rfl
def laws_FnDrives.T6 : TT := (true, [([], []), ([], []), ([1], [1]), ([0, 2], [0, 2]), ([3, 2], [3]), ([4], [4]), ([5, 4, 4], [4, 5]), ([4], [4]), ([7, 6, 4], [4, 7]), ([6, 8, 4], [4, 6, 8]), ([4, 9], [4, 9]), ([10, 8, 0, 1, 2, 3, 4, 5, 6, 7, 8, 9, 10], [10])])
def laws_FnDrives.B6 : List Nat := [0, 0, 2, 7, 15, 31, 63, 31, 255, 511, 1023, 2047]
theorem laws_FnDrives.tab6 : rtab .any (opsOf Try.f10 6) = laws_FnDrives.T6 := by kernel_rfl
theorem laws_FnDrives.bits6 : waitsOk laws_FnDrives.T6.2 laws_FnDrives.B6 = true := by kernel_rfl
def laws_FnDrives.T8 : TT := (true, [([], []), ([0], [0]), ([], []), ([2], [2]), ([], []), ([4], [4]), ([5], [5]), ([6], [6]), ([7], [7]), ([3, 8], [3, 8]), ([1, 9], [1, 9]), ([10], [10]), ([11], [11]), ([12, 11], [11, 12]), ([11], [11]), ([14, 11], [11, 14]), ([11], [11]), ([16, 11], [11, 16]), ([17, 11], [11, 17]), ([18, 11], [11, 18]), ([19, 11], [11, 19]), ([15, 20, 11], [11, 15, 20]), ([13, 21, 11], [11, 13, 21]), ([11, 22], [11, 22]), ([23, 11, 0, 1, 2, 3, 4, 5, 6, 7, 8, 9, 10, 11, 12, 13, 14, 15, 16, 17, 18, 19, 20, 21, 22, 23], [23])])
def laws_FnDrives.B8 : List Nat := [0, 1, 0, 4, 0, 16, 48, 112, 240, 508, 1023, 2047, 4095, 8191, 4095, 20479, 4095, 69631, 200703, 462847, 987135, 2084863, 4194303, 8388607, 16777215]
theorem laws_FnDrives.tab8 : rtab .any (opsOf Try.f10 8) = laws_FnDrives.T8 := by kernel_rfl
theorem laws_FnDrives.bits8 : waitsOk laws_FnDrives.T8.2 laws_FnDrives.B8 = true := by kernel_rfl
theorem laws_FnDrives.calls {k : Nat} {A0 : Option Addr} {c0 : Nat} {l0 : List Int} {r : Bool} {w : World} (hr0 : Kd.C (Kd.int .u8) w A0 l0.length l0) (hc0 : l0.length ≤ c0) (h : laws_FnDrives.f k l0 = some r) :
  Calls Try.prog 10 #[.slice A0 l0.length c0] w fun e w' => e = .returned (.bool r) ∧ Below w.heap.size w w' := by
 have hu33 := Try.underlying33; have HR0 := az hr0; have dE := az hc0; clear hr0 hc0; have HB := br w
 unfold laws_FnDrives.f at h
 have H := h; clear h; by_cases b7 : (l0.length : Int) > 1048576; rw [if_pos b7] at H; have c5 : decide (1048576 < (l0.length : Int)) = true := decide_eq_true b7; have c6 : decide (1048576 < l0.length) = true := decide_eq_true (by omega); clear b7; obtain rfl := Option.some.inj H; refine ?L1; rotate_left; rw [if_neg b7] at H; have c5 : decide (1048576 < (l0.length : Int)) = false := decide_eq_false b7; have c6 : decide (1048576 < l0.length) = false := decide_eq_false (by omega); clear b7; replace H := qH H; obtain ⟨a3, cN, H⟩ := H
 replace H := qH H; obtain ⟨⟨a5, a7⟩, cO, H⟩ := H
 try dsimp only at H
 refine ?L10
 rotate_right
 case L1 =>
  go_enter Try.func10, Try.ntmps10; go_wp2
  go_ret
  exact ⟨qE, qL HB⟩
 case L10 =>
  have cF := az H; clear H; go_enter Try.func10, Try.ntmps10
  go_upto_region 5 with (first | ((with_reducible refine gc 43 rfl ?_); refine gx 10 Try.func43 (spec_DrawDrives.calls (qC HR0.out) dE.out cN.out) ?_; rintro dP w6 ⟨cS, hb⟩; have a4 := lo cS HB; replace HB := bS HB hb; clear hb; obtain ⟨bC, bB, dF⟩ := Kd.R_slice a4.out; subst dF) | ((with_reducible refine gc 44 rfl ?_); refine gr 12 Try.func44 (impl_Drives.calls (qC (rr a4)) ((rc a4)) cO.out) ?_; rintro w8 hb; replace a4 := rb a4 hb; replace HB := bS HB hb; clear hb) | ((with_reducible refine gd 4 rfl ?_); (try (refine gate_guard (by rfl) ?_; dsimp only)); refine bz2 4 33 ?_; intro a9 hg w9 a1 hb; have dG := se hg HB; replace a4 := rb a4 hb; replace HB := bS HB hb; clear hb hg; have hcz10_c := cz2 a1.out; have cT := blk_frozen a1.out 0; have cU := blk_frozen a1.out 1))
  (try simp only [Act.put, List.setIfInBounds_toArray, List.set_cons_zero, List.set_cons_succ])
  go_cut [33] (fun dH wc => ∃ (kq : Nat) (bE : Bool), dH = .bool bE ∧ Aside0 (laws_FnDrives.j0 kq a3 bE a5 a7 = some r) ∧ Aside0 (kq ≤ k) ∧ Aside0 (Kd.R k41 41 wc w.heap.size (fun _ => True) (.slice bC a3.length bB) a3) ∧ Aside0 (wc.heap[a9]? = some (.cells #[.int .i64 a5, .int .i64 a7] 33 (0, 0))) ∧ Aside0 (Below w.heap.size w wc))
  case first =>
   have H := cF.out; clear cF; replace H := qH H; obtain ⟨⟨a8, aA⟩, b8, H⟩ := H
   try dsimp only at H
   by_cases bA : (!(a5 == a8) || (!(a7 == aA))) = true; rw [if_pos bA] at H; have b5 : (!(a5 == a8) || (!(a7 == aA))) = true := bA; clear bA; (first | rw [b5] | (simp only [i64_w, i32_w]; rw [b5]) | skip); have H' := az H; clear H; refine ?L2; rotate_left; rw [if_neg bA] at H
   have b5 : (!(a5 == a8) || (!(a7 == aA))) = false := by simpa using bA
   clear bA; (first | rw [b5] | (simp only [i64_w, i32_w]; rw [b5]) | skip); replace H := qH H; obtain ⟨b3, bX, H⟩ := H
   replace H := qH H; obtain ⟨b4, bY, H⟩ := H
   by_cases aO : (b3 != b4) = true; rw [if_pos aO] at H; have c7 : (b3 != b4) = true := aO; refine ?L3; rotate_left; rw [if_neg aO] at H
   have c7 : (b3 != b4) = false := by simpa using aO
   (try (have c8 : decide (b3 = b4) = true := by simpa using aO)); (try (have c9 : (b3 == b4) = true := by simpa using aO)); clear aO; replace H := qH H; obtain ⟨cP, bZ, H⟩ := H
   by_cases bF : cP = true; subst bF; replace H := qT H; have H' := az H; clear H; refine ?L4; rotate_left; replace bF := Bool.eq_false_iff.mpr bF; subst bF; replace H := qU H; have H' := az H; clear H; refine ?L5
   rotate_right 3
   case' L2 | L4 | L5 =>
    try go_wp2
    obtain ⟨c2, hw_⟩ : ∃ x, x = ((w9.setCell ⟨a9, 0, none⟩ (.int .i64 a5)).setCell ⟨a9, 1, none⟩ (.int .i64 a7)) := ⟨_, rfl⟩; replace a4 : Aside0 (Kd.R k41 41 c2 w.heap.size (fun _ => True) (.slice bC a3.length bB) a3) := ⟨by rw [hw_]; (with_reducible repeat (first | apply Kd.R_alloc | apply Kd.R_drewN | apply Kd.R_drew)); exact (qRF a4 a1)⟩; replace a1 : Aside0 (c2.heap[a9]? = some (.cells #[.int .i64 a5, .int .i64 a7] 33 (0, 0))) := ⟨by rw [hw_]; exact qP a1⟩; replace HB : Aside0 (Below w.heap.size w c2) := ⟨by rw [hw_]; exact qL HB⟩; rw [← hw_]; clear hw_; replace a4 := rw_d a4; replace a1 := bd a1; replace HB := ed HB; refine sa 21 (fun w' => ci a9 0 [.int .i64 a5, .int .i64 a7] w') [] (cI a1) fun Z => ?_; refine with_tabW laws_FnDrives.tab5 laws_FnDrives.bits5 fun T Y => ?_; generalize c2.drew = dS at a4 a1 HB Z ⊢; refine pz 1 14 T ?_; refine tz 0 13 T Y Z ?_; refine oo 21 2 15 7 T fun K hK => ?_; refine ky Try.func45 (spec_Drives.calls (qC (rr a4)) ((rc a4)) b8.out) ?_; rintro dT hb; replace a4 := rb a4 hb; replace a1 := kBB a1 hb; replace HB := bS HB hb; clear hb; refine hz hK (cI a1) fun Z => ?_; clear hK K; refine nn 15 ?_; refine pz 3 16 T ?_; refine pz 4 17 T ?_
   case L2 =>
    refine py 5 18 T ?_; refine py 6 19 T ?_; refine py 7 20 T ?_; refine py 8 21 T ?_; refine py 9 22 T ?_; refine pz 10 23 T ?_; refine pz 11 24 T ?_; refine py 12 25 T ?_; refine py 13 26 T ?_; refine py 14 27 T ?_; refine pz 15 28 T ?_; refine pz 16 29 T ?_; refine py 17 30 T ?_; refine py 18 31 T ?_; refine py 19 32 T ?_; refine pz 20 33 T ?_; refine dn T ?_
    try go_wp2
    go_meet
    exact ⟨_, (true), qG, H', ⟨qO⟩, ⟨qR a4⟩, ⟨qF a1⟩, ⟨qL HB⟩⟩
   case' L4 | L5 =>
    refine pz 5 18 T ?_; refine pz 7 20 T ?_; refine oo 21 6 19 255 T fun K hK => ?_; refine ky Try.func27 (impl_BodiesOk.calls (qC (rr a4)) ((rc a4)) bX.out) ?_; rintro dU hb; replace a4 := rb a4 hb; replace a1 := kBB a1 hb; replace HB := bS HB hb; clear hb; refine hz hK (cI a1) fun Z => ?_; clear hK K; refine nn 19 ?_; refine oo 21 8 21 511 T fun K hK => ?_; refine ky Try.func17 (spec_BodiesOk.calls (qC (rr a4)) ((rc a4)) bY.out) ?_; rintro dV hb; replace a4 := rb a4 hb; replace a1 := kBB a1 hb; replace HB := bS HB hb; clear hb; refine hz hK (cI a1) fun Z => ?_; clear hK K; refine nn 21 ?_; refine pz 9 22 T ?_; refine pz 10 23 T ?_; refine pz 11 24 T ?_; refine pz 12 25 T ?_; refine oo 21 13 26 16383 T fun K hK => ?_; refine go1 Try.func17 #[.slice bC a3.length bB] ?_
   case L4 =>
    with_reducible refine (spec_BodiesOk.calls (r := true) (qC (rr a4)) ((rc a4)) bZ.out).mono ?_
    rintro e dW ⟨rfl, hb⟩; refine ⟨_, rfl, ?_⟩; replace a4 := rb a4 hb; replace a1 := kBB a1 hb; replace HB := bS HB hb; clear hb; refine hz hK (cI a1) fun Z => ?_; clear hK K; refine nn 26 ?_; refine pz 14 27 T ?_; refine pz 15 28 T ?_; refine pz 16 29 T ?_; refine pz 17 30 T ?_; refine pz 18 31 T ?_; refine pz 19 32 T ?_; refine pz 20 33 T ?_; refine dn T ?_
    try go_wp2
    go_meet
    exact ⟨_, (((a3.length : Int) == 0)), qG, H', ⟨qO⟩, ⟨qR a4⟩, ⟨qF a1⟩, ⟨qL HB⟩⟩
   case L5 =>
    with_reducible refine (spec_BodiesOk.calls (r := false) (qC (rr a4)) ((rc a4)) bZ.out).mono ?_
    rintro e dX ⟨rfl, hb⟩; refine ⟨_, rfl, ?_⟩; replace a4 := rb a4 hb; replace a1 := kBB a1 hb; replace HB := bS HB hb; clear hb; refine hz hK (cI a1) fun Z => ?_; clear hK K; refine nn 26 ?_; refine pz 14 27 T ?_; refine pz 15 28 T ?_; refine pz 16 29 T ?_; refine py 17 30 T ?_; refine py 18 31 T ?_; refine py 19 32 T ?_; refine pz 20 33 T ?_; refine dn T ?_
    try go_wp2
    go_meet
    exact ⟨_, (true), qG, H', ⟨qO⟩, ⟨qR a4⟩, ⟨qF a1⟩, ⟨qL HB⟩⟩
   case L3 =>
    (try (have c8 : decide (b3 = b4) = false := by simpa using aO)); (try (have c9 : (b3 == b4) = false := by simpa using aO)); (try (have cV : ¬ (b3 = b4) := by simpa using aO)); clear aO; have H' := az H; clear H
    try go_wp2
    obtain ⟨c3, hw_⟩ : ∃ x, x = ((w9.setCell ⟨a9, 0, none⟩ (.int .i64 a5)).setCell ⟨a9, 1, none⟩ (.int .i64 a7)) := ⟨_, rfl⟩; replace a4 : Aside0 (Kd.R k41 41 c3 w.heap.size (fun _ => True) (.slice bC a3.length bB) a3) := ⟨by rw [hw_]; (with_reducible repeat (first | apply Kd.R_alloc | apply Kd.R_drewN | apply Kd.R_drew)); exact (qRF a4 a1)⟩; replace a1 : Aside0 (c3.heap[a9]? = some (.cells #[.int .i64 a5, .int .i64 a7] 33 (0, 0))) := ⟨by rw [hw_]; exact qP a1⟩; replace HB : Aside0 (Below w.heap.size w c3) := ⟨by rw [hw_]; exact qL HB⟩; rw [← hw_]; clear hw_; replace a4 := rw_d a4; replace a1 := bd a1; replace HB := ed HB; refine sa 21 (fun w' => ci a9 0 [.int .i64 a5, .int .i64 a7] w') [] (cI a1) fun Z => ?_; refine with_tabW laws_FnDrives.tab5 laws_FnDrives.bits5 fun T Y => ?_; generalize c3.drew = dY at a4 a1 HB Z ⊢; refine pz 1 14 T ?_; refine tz 0 13 T Y Z ?_; refine oo 21 2 15 7 T fun K hK => ?_; refine ky Try.func45 (spec_Drives.calls (qC (rr a4)) ((rc a4)) b8.out) ?_; rintro dZ hb; replace a4 := rb a4 hb; replace a1 := kBB a1 hb; replace HB := bS HB hb; clear hb; refine hz hK (cI a1) fun Z => ?_; clear hK K; refine nn 15 ?_; refine pz 3 16 T ?_; refine pz 4 17 T ?_; refine pz 5 18 T ?_; refine pz 7 20 T ?_; refine oo 21 6 19 255 T fun K hK => ?_; refine ky Try.func27 (impl_BodiesOk.calls (qC (rr a4)) ((rc a4)) bX.out) ?_; rintro e0 hb; replace a4 := rb a4 hb; replace a1 := kBB a1 hb; replace HB := bS HB hb; clear hb; refine hz hK (cI a1) fun Z => ?_; clear hK K; refine nn 19 ?_; refine oo 21 8 21 511 T fun K hK => ?_; refine ky Try.func17 (spec_BodiesOk.calls (qC (rr a4)) ((rc a4)) bY.out) ?_; rintro e1 hb; replace a4 := rb a4 hb; replace a1 := kBB a1 hb; replace HB := bS HB hb; clear hb
    refine hz hK (cI a1) fun Z => ?_; clear hK K; refine nn 21 ?_; refine pz 9 22 T ?_; refine pz 10 23 T ?_; refine pz 11 24 T ?_; refine py 12 25 T ?_; refine py 13 26 T ?_; refine py 14 27 T ?_; refine pz 15 28 T ?_; refine pz 16 29 T ?_; refine py 17 30 T ?_; refine py 18 31 T ?_; refine py 19 32 T ?_; refine pz 20 33 T ?_; refine dn T ?_
    try go_wp2
    go_meet
    exact ⟨_, (true), qG, H', ⟨qO⟩, ⟨qR a4⟩, ⟨qF a1⟩, ⟨qL HB⟩⟩
  case rest =>
   clear cF; obtain ⟨kq, bE, rfl, HA, e2, a6, a1, HB⟩ := hcut
   obtain ⟨e3, rfl⟩ := qz kq HA
   have H := HA.out; clear HA; simp only [laws_FnDrives.j0] at H; by_cases bG : bE = true; subst bG; replace H := qT H; replace H := qH H; obtain ⟨⟨a8, aA⟩, b8, H⟩ := H
   try dsimp only at H
   by_cases aP : (a5 == a8 && (a7 == aA)) = true; rw [if_pos aP] at H; have cA : (a5 == a8 && (a7 == aA)) = true := aP; refine ?L6; rotate_left; rw [if_neg aP] at H
   have cA : (a5 == a8 && (a7 == aA)) = false := by simpa using aP
   refine ?L7
   rotate_right
   rotate_left 2
   replace bG := Bool.eq_false_iff.mpr bG; subst bG; replace H := qU H; replace H := qif H; obtain ⟨bN, H⟩ := H; have cW := eq_true bN; have cX : decide (1 ≤ (a3.length : Int)) = true := decide_eq_true bN; clear bN; obtain ⟨bD, bJ⟩ : ∃ y_ : List S41, y_ = (a3.drop 1) := ⟨_, rfl⟩; (try replace H := qW H); (try dsimp only at H); (try rw [← bJ] at H); have bU := az bJ; clear bJ; replace H := qH H; obtain ⟨⟨a8, aA⟩, b8, H⟩ := H
   try dsimp only at H
   replace H := qif H; obtain ⟨c4, H⟩ := H; have cY : decide (0 < (a3.length : Int)) = true := decide_eq_true c4; have cZ : decide (0 < a3.length) = true := decide_eq_true (by omega); clear c4; by_cases b9 : a5 = (wrap64 (a8 + ((rd_T41 a3 0).f3.f0))); rw [if_pos b9] at H; have cB := ba b9; have cC := bb b9; clear b9; obtain rfl := Option.some.inj H; refine ?L8; rotate_left; rw [if_neg b9] at H; have cB := be b9; have cC := bf b9; obtain rfl := Option.some.inj H; refine ?L9
   rotate_right
   rotate_right 2
   case L6 =>
    (try (have cD : decide (a5 = a8 && (a7 == aA)) = true := by simpa using aP)); (try (have cE : (a5 == a8 && (a7 == aA)) = true := by simpa using aP)); clear aP; replace H := qH H; obtain ⟨bV, dI, H⟩ := H
    replace H := qH H; obtain ⟨bW, dJ, H⟩ := H
    obtain rfl := Option.some.inj H
    try go_wp2
    replace a6 := rw_d a6; replace a1 := bd a1; replace HB := ed HB; refine sa 12 (fun w' => ci a9 0 [.int .i64 a5, .int .i64 a7] w') [] (cI a1) fun Z => ?_; refine with_tabW laws_FnDrives.tab6 laws_FnDrives.bits6 fun T Y => ?_; generalize wc.drew = e4 at a6 a1 HB Z ⊢; refine pz 1 35 T ?_; refine tz 0 34 T Y Z ?_; refine oo 12 2 36 7 T fun K hK => ?_; refine ky Try.func45 (spec_Drives.calls (qC (rr a6)) ((rc a6)) b8.out) ?_; rintro e5 hb; replace a6 := rb a6 hb; replace a1 := kBB a1 hb; replace HB := bS HB hb; clear hb; refine hz hK (cI a1) fun Z => ?_; clear hK K; refine nn 36 ?_; refine pz 3 37 T ?_; refine pz 4 38 T ?_; refine pz 5 39 T ?_; refine pz 7 41 T ?_; refine oo 12 6 40 255 T fun K hK => ?_; refine ky Try.func27 (impl_BodiesOk.calls (qC (rr a6)) ((rc a6)) dI.out) ?_; rintro e6 hb; replace a6 := rb a6 hb; replace a1 := kBB a1 hb; replace HB := bS HB hb; clear hb; refine hz hK (cI a1) fun Z => ?_; clear hK K; refine nn 40 ?_; refine oo 12 8 42 511 T fun K hK => ?_; refine ky Try.func17 (spec_BodiesOk.calls (qC (rr a6)) ((rc a6)) dJ.out) ?_; rintro e7 hb; replace a6 := rb a6 hb; replace a1 := kBB a1 hb; replace HB := bS HB hb; clear hb; refine hz hK (cI a1) fun Z => ?_; clear hK K; refine nn 42 ?_; refine pz 9 43 T ?_; refine pz 10 44 T ?_; refine pz 11 2 T ?_; refine dn T ?_
    try go_wp2
    go_ret
    exact ⟨qE, qL HB⟩
   case L7 =>
    (try (have cD : decide (a5 = a8 && (a7 == aA)) = false := by simpa using aP)); (try (have cE : (a5 == a8 && (a7 == aA)) = false := by simpa using aP)); (try (have dA : ¬ (a5 = a8 && (a7 == aA)) := by simpa using aP)); clear aP; obtain rfl := Option.some.inj H
    try go_wp2
    replace a6 := rw_d a6; replace a1 := bd a1; replace HB := ed HB; refine sa 12 (fun w' => ci a9 0 [.int .i64 a5, .int .i64 a7] w') [] (cI a1) fun Z => ?_; refine with_tabW laws_FnDrives.tab6 laws_FnDrives.bits6 fun T Y => ?_; generalize wc.drew = e8 at a6 a1 HB Z ⊢; refine pz 1 35 T ?_; refine tz 0 34 T Y Z ?_; refine oo 12 2 36 7 T fun K hK => ?_; refine ky Try.func45 (spec_Drives.calls (qC (rr a6)) ((rc a6)) b8.out) ?_; rintro e9 hb; replace a6 := rb a6 hb; replace a1 := kBB a1 hb; replace HB := bS HB hb; clear hb; refine hz hK (cI a1) fun Z => ?_; clear hK K; refine nn 36 ?_; refine pz 3 37 T ?_; refine pz 4 38 T ?_; refine py 5 39 T ?_; refine py 6 40 T ?_; refine py 7 41 T ?_; refine py 8 42 T ?_; refine py 9 43 T ?_; refine pz 10 44 T ?_; refine pz 11 2 T ?_; refine dn T ?_
    try go_wp2
    go_ret
    exact ⟨qE, qL HB⟩
   case' L8 | L9 =>
    have cG : (1 : Int) ≤ ((a3.length : Int) : Int) := qD; obtain ⟨i053, hi053, _, hsz53, _⟩ := info_parts info41; have hroom53 : a3.length ≤ bB := (rc a6); have hC53 : Kd.C k41 _ bC a3.length a3 := (rr a6); have hcut53 := cut_from (P := Try.prog) 23 41 .i64 Try.underlying23 hi053 12 hsz53 bC a3.length bB 1 (by omega) cG; have hr53 := Kd.C_drop (m := (1 : Int).toNat) (c := bB) hC53 (by omega) hroom53; obtain ⟨dK, hA53⟩ : ∃ A1, A1 = (if bB = (1 : Int).toNat then bC else (bC : Option Addr).map (·.add ((1 : Int).toNat * 12))) := ⟨_, rfl⟩; obtain ⟨dL, hc53⟩ : ∃ c1, c1 = bB - (1 : Int).toNat := ⟨_, rfl⟩; have bO : bD.length = a3.length - (1 : Int).toNat := (by rw [bU.out, List.length_drop] <;> omega); rw [show (a3).drop (1 : Int).toNat = bD from bU.out.symm] at hr53
    replace hr53 : Kd.C k41 _ dK bD.length bD := (by rw [hA53]; exact hr53)
    rw [← bO, ← hA53, ← hc53] at hcut53; have HR1496 := az hr53; have cH := az (show bD.length ≤ dL from by rw [bO, hc53]; exact Nat.sub_le_sub_right hroom53 _); clear hr53 hC53 hroom53 hi053 hsz53 hc53; have KY53 := az bO; have KA53 := az hA53; clear bO hA53; have KL53 := az (show 1 ≤ a3.length from by omega); replace cG := eq_true cG
    try go_wp2_with (first | ((with_reducible refine gc 44 rfl ?_); refine gr 47 Try.func44 (impl_Drives.calls (qC (by repeat (first | (with_reducible exact HR1496.out) | (with_reducible refine Kd.C_alloc ?_ _) | (with_reducible refine Kd.C_drewN ?_ _) | (with_reducible refine Kd.C_drew ?_) | exact HR1496.out))) cH.out b8.out) ?_; rintro eA hb; replace a6 := rb a6 hb; replace a1 := kBB a1 hb; replace HR1496 := az (Kd.C_below (by repeat (first | (with_reducible exact HR1496.out) | (with_reducible refine Kd.C_alloc ?_ _) | (with_reducible refine Kd.C_drewN ?_ _) | (with_reducible refine Kd.C_drew ?_) | exact HR1496.out)) hb); replace HB := bS HB hb; clear hb) | ((with_reducible refine gd 5 rfl ?_); (try (refine gate_guard (by rfl) ?_; dsimp only)); refine bz2 5 33 ?_; intro b6 hg dM aB hb; have dN := se hg HB; obtain ⟨bK, bL⟩ := nPB a1 hg; replace a6 := rb a6 hb; replace a1 := kBB a1 hb; replace HR1496 := az (Kd.C_below (by repeat (first | (with_reducible exact HR1496.out) | (with_reducible refine Kd.C_alloc ?_ _) | (with_reducible refine Kd.C_drewN ?_ _) | (with_reducible refine Kd.C_drew ?_) | exact HR1496.out)) hb); replace HB := bS HB hb; clear hb hg; have dQ := bL.out; have dR := bK.out; have hcz57_c := cz2 aB.out; have dB := blk_frozen aB.out 0; have dC := blk_frozen aB.out 1))
    obtain ⟨bM, hw_⟩ : ∃ x, x = ((dM.setCell ⟨b6, 0, none⟩ (.int .i64 a8)).setCell ⟨b6, 1, none⟩ (.int .i64 aA)) := ⟨_, rfl⟩; replace a6 : Aside0 (Kd.R k41 41 bM w.heap.size (fun _ => True) (.slice bC a3.length bB) a3) := ⟨by rw [hw_]; (with_reducible repeat (first | apply Kd.R_alloc | apply Kd.R_drewN | apply Kd.R_drew)); exact (qRF a6 aB)⟩; replace a1 : Aside0 (bM.heap[a9]? = some (.cells #[.int .i64 a5, .int .i64 a7] 33 (0, 0))) := ⟨by rw [hw_]; exact qF a1⟩; replace aB : Aside0 (bM.heap[b6]? = some (.cells #[.int .i64 a8, .int .i64 aA] 33 (0, 0))) := ⟨by rw [hw_]; exact qP aB⟩; replace HB : Aside0 (Below w.heap.size w bM) := ⟨by rw [hw_]; exact qL HB⟩; rw [← hw_]; clear hw_; replace a6 := rw_d a6; replace a1 := bd a1; replace aB := bd aB; replace HB := ed HB; have bP : 0 ≤ (0 : Int) := (by omega); have bQ : 0 < (a3.length : Int) := qD; obtain ⟨a2, cQ, aE, aF, aG, aH, aI, aJ, aK, aL, aM, aN, aC, aD⟩ := at_T41 (rr a6) 0 bP bQ; cases cQ; have qi1500 : (0 < a3.length) = True := eq_true (by omega); (try rw [show ((0 : Int)).toNat = 0 from rfl] at aE); (try rw [show 0 * 12 = 0 from rfl] at aE); (try rw [Addr.add_zero'] at aE); (try rw [show ((0 : Int)).toNat = 0 from rfl] at aF); (try rw [show 0 * 12 = 0 from rfl] at aF); (try rw [Addr.add_zero'] at aF); (try rw [show ((0 : Int)).toNat = 0 from rfl] at aG); (try rw [show 0 * 12 = 0 from rfl] at aG); (try rw [Addr.add_zero'] at aG); (try rw [show ((0 : Int)).toNat = 0 from rfl] at aH); (try rw [show 0 * 12 = 0 from rfl] at aH); (try rw [Addr.add_zero'] at aH); (try rw [show ((0 : Int)).toNat = 0 from rfl] at aI); (try rw [show 0 * 12 = 0 from rfl] at aI); (try rw [Addr.add_zero'] at aI); (try rw [show ((0 : Int)).toNat = 0 from rfl] at aJ); (try rw [show 0 * 12 = 0 from rfl] at aJ); (try rw [Addr.add_zero'] at aJ); (try rw [show ((0 : Int)).toNat = 0 from rfl] at aK); (try rw [show 0 * 12 = 0 from rfl] at aK); (try rw [Addr.add_zero'] at aK); (try rw [show ((0 : Int)).toNat = 0 from rfl] at aL); (try rw [show 0 * 12 = 0 from rfl] at aL); (try rw [Addr.add_zero'] at aL); (try rw [show ((0 : Int)).toNat = 0 from rfl] at aM); (try rw [show 0 * 12 = 0 from rfl] at aM); (try rw [Addr.add_zero'] at aM); (try rw [show ((0 : Int)).toNat = 0 from rfl] at aN); (try rw [show 0 * 12 = 0 from rfl] at aN); (try rw [Addr.add_zero'] at aN); (try rw [show ((0 : Int)).toNat = 0 from rfl] at aC); (try rw [show 0 * 12 = 0 from rfl] at aC); (try rw [Addr.add_zero'] at aC); (try rw [show ((0 : Int)).toNat = 0 from rfl] at aD); (try rw [show 0 * 12 = 0 from rfl] at aD)
    (try rw [Addr.add_zero'] at aD); replace bP := eq_true bP; replace bQ := eq_true bQ
   case L8 =>
    have bR : 0 ≤ (0 : Int) := (by omega); have bT : 0 < (a3.length : Int) := qD; obtain ⟨cJ, cR, aT, aU, aV, aW, aX, aY, aZ, b0, b1, b2, aR, aS⟩ := at_T41 (rr a6) 0 bR bT; obtain rfl : a2 = cJ := (by injection cR); have qi1501 : (0 < a3.length) = True := eq_true (by omega); (try rw [show ((0 : Int)).toNat = 0 from rfl] at aT); (try rw [show 0 * 12 = 0 from rfl] at aT); (try rw [Addr.add_zero'] at aT); (try rw [show ((0 : Int)).toNat = 0 from rfl] at aU); (try rw [show 0 * 12 = 0 from rfl] at aU); (try rw [Addr.add_zero'] at aU); (try rw [show ((0 : Int)).toNat = 0 from rfl] at aV); (try rw [show 0 * 12 = 0 from rfl] at aV); (try rw [Addr.add_zero'] at aV); (try rw [show ((0 : Int)).toNat = 0 from rfl] at aW); (try rw [show 0 * 12 = 0 from rfl] at aW); (try rw [Addr.add_zero'] at aW); (try rw [show ((0 : Int)).toNat = 0 from rfl] at aX); (try rw [show 0 * 12 = 0 from rfl] at aX); (try rw [Addr.add_zero'] at aX); (try rw [show ((0 : Int)).toNat = 0 from rfl] at aY); (try rw [show 0 * 12 = 0 from rfl] at aY); (try rw [Addr.add_zero'] at aY); (try rw [show ((0 : Int)).toNat = 0 from rfl] at aZ); (try rw [show 0 * 12 = 0 from rfl] at aZ); (try rw [Addr.add_zero'] at aZ); (try rw [show ((0 : Int)).toNat = 0 from rfl] at b0); (try rw [show 0 * 12 = 0 from rfl] at b0); (try rw [Addr.add_zero'] at b0); (try rw [show ((0 : Int)).toNat = 0 from rfl] at b1); (try rw [show 0 * 12 = 0 from rfl] at b1); (try rw [Addr.add_zero'] at b1); (try rw [show ((0 : Int)).toNat = 0 from rfl] at b2); (try rw [show 0 * 12 = 0 from rfl] at b2); (try rw [Addr.add_zero'] at b2); (try rw [show ((0 : Int)).toNat = 0 from rfl] at aR); (try rw [show 0 * 12 = 0 from rfl] at aR); (try rw [Addr.add_zero'] at aR); (try rw [show ((0 : Int)).toNat = 0 from rfl] at aS); (try rw [show 0 * 12 = 0 from rfl] at aS); (try rw [Addr.add_zero'] at aS); replace bR := eq_true bR; replace bT := eq_true bT; refine sa 25 (fun w' => ci a9 0 [.int .i64 a5, .int .i64 a7] w' ∧ ci b6 0 [.int .i64 a8, .int .i64 aA] w' ∧ w'.cell? a2 = some (.int .i64 ((rd_T41 a3 0).f0)) ∧ w'.cell? ⟨a2.block, a2.off + 1, none⟩ = some (.int .i64 ((rd_T41 a3 0).f1.f0)) ∧ w'.cell? ⟨a2.block, a2.off + 2, none⟩ = some (.int .i64 ((rd_T41 a3 0).f1.f1)) ∧ w'.cell? ⟨a2.block, a2.off + 3, none⟩ = some (.int .i64 ((rd_T41 a3 0).f1.f2)) ∧ w'.cell? ⟨a2.block, a2.off + 4, none⟩ = some (.int .i64 ((rd_T41 a3 0).f2.f0)) ∧ w'.cell? ⟨a2.block, a2.off + 5, none⟩ = some (.int .i64 ((rd_T41 a3 0).f2.f1)) ∧ w'.cell? ⟨a2.block, a2.off + 6, none⟩ = some (.int .i64 ((rd_T41 a3 0).f3.f0)) ∧ w'.cell? ⟨a2.block, a2.off + 7, none⟩ = some (.int .i64 ((rd_T41 a3 0).f3.f1)) ∧ w'.cell? ⟨a2.block, a2.off + 8, none⟩ = some (.int .i64 ((rd_T41 a3 0).f4)) ∧ w'.cell? ⟨a2.block, a2.off + 9, none⟩ = some (.int .i64 ((rd_T41 a3 0).f5)) ∧ w'.cell? ⟨a2.block, a2.off + 10, none⟩ = some (.int .i64 ((rd_T41 a3 0).f6)) ∧ w'.cell? ⟨a2.block, a2.off + 11, none⟩ = some (.int .i64 ((rd_T41 a3 0).f7)) ∧ w'.cell? a2 = some (.int .i64 ((rd_T41 a3 0).f0)) ∧ w'.cell? ⟨a2.block, a2.off + 1, none⟩ = some (.int .i64 ((rd_T41 a3 0).f1.f0)) ∧ w'.cell? ⟨a2.block, a2.off + 2, none⟩ = some (.int .i64 ((rd_T41 a3 0).f1.f1)) ∧ w'.cell? ⟨a2.block, a2.off + 3, none⟩ = some (.int .i64 ((rd_T41 a3 0).f1.f2)) ∧ w'.cell? ⟨a2.block, a2.off + 4, none⟩ = some (.int .i64 ((rd_T41 a3 0).f2.f0)) ∧ w'.cell? ⟨a2.block, a2.off + 5, none⟩ = some (.int .i64 ((rd_T41 a3 0).f2.f1)) ∧ w'.cell? ⟨a2.block, a2.off + 6, none⟩ = some (.int .i64 ((rd_T41 a3 0).f3.f0)) ∧ w'.cell? ⟨a2.block, a2.off + 7, none⟩ = some (.int .i64 ((rd_T41 a3 0).f3.f1)) ∧ w'.cell? ⟨a2.block, a2.off + 8, none⟩ = some (.int .i64 ((rd_T41 a3 0).f4)) ∧ w'.cell? ⟨a2.block, a2.off + 9, none⟩ = some (.int .i64 ((rd_T41 a3 0).f5)) ∧ w'.cell? ⟨a2.block, a2.off + 10, none⟩ = some (.int .i64 ((rd_T41 a3 0).f6)) ∧ w'.cell? ⟨a2.block, a2.off + 11, none⟩ = some (.int .i64 ((rd_T41 a3 0).f7))) [] ⟨cI a1, cI aB, aE, aF, aG, aH, aI, aJ, aK, aL, aM, aN, aC, aD, aT, aU, aV, aW, aX, aY, aZ, b0, b1, b2, aR, aS⟩ fun Z => ?_; refine with_tabW laws_FnDrives.tab8 laws_FnDrives.bits8 fun T Y => ?_
    generalize bM.drew = eB at a6 a1 aB HB aE aF aC aD aG aH aI aJ aK aL aM aN aT aU aR aS aV aW aX aY aZ b0 b1 b2 Z ⊢; refine pz 0 48 T ?_; refine pz 2 50 T ?_; refine pz 4 52 T ?_; refine pz 5 53 T ?_; refine pz 6 54 T ?_; refine pz 7 55 T ?_; refine tz 1 49 T Y Z ?_; refine tz 3 51 T Y Z ?_; refine tz 8 56 T Y Z ?_; refine pz 9 57 T ?_; refine pz 10 58 T ?_; refine pz 11 59 T ?_; refine pz 12 60 T ?_; refine pz 14 62 T ?_; refine pz 16 64 T ?_; refine pz 17 65 T ?_; refine pz 18 66 T ?_; refine pz 19 67 T ?_; refine tz 13 61 T Y Z ?_; refine tz 15 63 T Y Z ?_; refine tz 20 68 T Y Z ?_; refine pz 21 69 T ?_; refine pz 22 70 T ?_; refine pz 23 71 T ?_; refine pz 24 2 T ?_; refine dn T ?_
    try go_wp2
    go_ret
    exact ⟨qE, qL HB⟩
   case L9 =>
    refine sa 25 (fun w' => ci a9 0 [.int .i64 a5, .int .i64 a7] w' ∧ ci b6 0 [.int .i64 a8, .int .i64 aA] w' ∧ w'.cell? a2 = some (.int .i64 ((rd_T41 a3 0).f0)) ∧ w'.cell? ⟨a2.block, a2.off + 1, none⟩ = some (.int .i64 ((rd_T41 a3 0).f1.f0)) ∧ w'.cell? ⟨a2.block, a2.off + 2, none⟩ = some (.int .i64 ((rd_T41 a3 0).f1.f1)) ∧ w'.cell? ⟨a2.block, a2.off + 3, none⟩ = some (.int .i64 ((rd_T41 a3 0).f1.f2)) ∧ w'.cell? ⟨a2.block, a2.off + 4, none⟩ = some (.int .i64 ((rd_T41 a3 0).f2.f0)) ∧ w'.cell? ⟨a2.block, a2.off + 5, none⟩ = some (.int .i64 ((rd_T41 a3 0).f2.f1)) ∧ w'.cell? ⟨a2.block, a2.off + 6, none⟩ = some (.int .i64 ((rd_T41 a3 0).f3.f0)) ∧ w'.cell? ⟨a2.block, a2.off + 7, none⟩ = some (.int .i64 ((rd_T41 a3 0).f3.f1)) ∧ w'.cell? ⟨a2.block, a2.off + 8, none⟩ = some (.int .i64 ((rd_T41 a3 0).f4)) ∧ w'.cell? ⟨a2.block, a2.off + 9, none⟩ = some (.int .i64 ((rd_T41 a3 0).f5)) ∧ w'.cell? ⟨a2.block, a2.off + 10, none⟩ = some (.int .i64 ((rd_T41 a3 0).f6)) ∧ w'.cell? ⟨a2.block, a2.off + 11, none⟩ = some (.int .i64 ((rd_T41 a3 0).f7))) [] ⟨cI a1, cI aB, aE, aF, aG, aH, aI, aJ, aK, aL, aM, aN, aC, aD⟩ fun Z => ?_; refine with_tabW laws_FnDrives.tab8 laws_FnDrives.bits8 fun T Y => ?_; generalize bM.drew = eC at a6 a1 aB HB aE aF aC aD aG aH aI aJ aK aL aM aN Z ⊢; refine pz 0 48 T ?_; refine pz 2 50 T ?_; refine pz 4 52 T ?_; refine pz 5 53 T ?_; refine pz 6 54 T ?_; refine pz 7 55 T ?_; refine tz 1 49 T Y Z ?_; refine tz 3 51 T Y Z ?_; refine tz 8 56 T Y Z ?_; refine pz 9 57 T ?_; refine pz 10 58 T ?_; refine pz 11 59 T ?_; refine py 12 60 T ?_; refine py 13 61 T ?_; refine py 14 62 T ?_; refine py 15 63 T ?_
    refine py 16 64 T ?_; refine py 17 65 T ?_; refine py 18 66 T ?_; refine py 19 67 T ?_; refine py 20 68 T ?_; refine py 21 69 T ?_; refine py 22 70 T ?_; refine pz 23 71 T ?_; refine pz 24 2 T ?_; refine dn T ?_
    try go_wp2
    go_ret
    exact ⟨qE, qL HB⟩
/-- THE ONE PURE STATEMENT of laws_FnDrives: yours. -/
def laws_FnDrives.Pure : Prop := ∀ (l0 : List Int), l0.length ≤ maxLen → l0.length * 1 ≤ 140737488351232 → (∀ x ∈ l0, (Lit.int .u8 x).wf = true) → ∃ k, laws_FnDrives.f k l0 = some true
theorem laws_FnDrives.walk (P : laws_FnDrives.Pure) (a0 : Option Addr) (len0 cap0 : Nat) (z0 : List Int) (w : World) (w0 : (a0 = none ∧ len0 = 0 ∧ cap0 = 0 ∧ z0 = []) ∨ ∃ x, a0 = some x ∧ len0 ≤ cap0 ∧ cap0 ≤ maxLen ∧ z0.length = cap0 ∧ (∀ i, i < z0.length → w.cell? (x.add i) = some (.int .u8 (z0.getD i 0))) ∧ ∀ n ∈ z0, (Lit.int .u8 n).wf = true) (y0 : len0 * 1 ≤ 140737488351232) :
  Calls Try.prog 10 #[.slice a0 len0 cap0] w fun e w' => e = .returned (.bool true) ∧ Below w.heap.size w w' := by
 obtain ⟨l0, rfl, hr0, hm0, dO, hc0⟩ := ReadsInt.ofRowC w0
 obtain ⟨k, h⟩ := P l0 hm0 y0 dO
 refine (laws_FnDrives.calls (k := k) (l0 := l0) (r := true) (w := w) (Kd.C_of_reads (d := (0 : Int)) (h1 := fun _ => rfl) hr0) hc0 h).mono ?_
 rintro e w' ⟨rfl, hd⟩
 exact ⟨rfl, hd⟩
end Go.Proofs.Ytdngjedhbnoaoaa.PBig
