/- What these functions compute, each walked once: impl_Vec_minus, impl_Vec_square, impl_FixClamp, impl_root, impl_VecLen, impl_VecUnit, impl_rounds, impl_Box_meets, impl_boxes, impl_Shape_bounds, impl_Box_has, impl_Box_near, impl_boxRound, impl_Vec_opposite; for all arguments and worlds, under the conditions that each theorem names. -/
import Derived.Test.YtdngjedhbnoaoaaSq
import Derived.Test.YtdngjedhbnoaoaaPBigx912
import Derived.Test.YtdngjedhbnoaoaaPBigx914
namespace Go.Proofs.Ytdngjedhbnoaoaa.PBig
open Go.RowKit Go.Proofs.YtdngjedhbnoaoaaW.PrintWords Go.Proofs.YtdngjedhbnoaoaaW.PrintLast Go.Proofs.YtdngjedhbnoaoaaW.PrintMore
attribute [local go_sem] max2_int min2_int max_two min_two max_three min_three max_four min_four
set_option linter.unusedVariables false
set_option linter.unusedSimpArgs false
set_option maxHeartbeats 8000000
set_option maxRecDepth 100000

/-! ### impl_Vec_minus: function 89 -/
def impl_Vec_minus.f (a2 a3 a4 a5 : Int) : Option (Int × Int) := some (wrap64 (a2 - a4), wrap64 (a3 - a5))
theorem impl_Vec_minus.calls {a2 a3 a4 a5 r1 r2 : Int} {w : World} (h : impl_Vec_minus.f a2 a3 a4 a5 = some (r1, r2)) :
  Calls Try.prog 89 #[.agg #[.int .i64 a2, .int .i64 a3], .agg #[.int .i64 a4, .int .i64 a5]] w fun e w' => e = .returned (.agg #[.int .i64 r1, .int .i64 r2]) ∧ Below w.heap.size w w' := by
 have hu33 := Try.underlying33; have HB := br w; have H : (some (wrap64 (a2 - a4), wrap64 (a3 - a5))) = some (r1, r2) := h; clear h; simp only [Option.some.injEq, Prod.mk.injEq] at H; obtain ⟨rfl, rfl⟩ := H; go_enter Try.func89, Try.ntmps89; go_wp2_with (first | ((with_reducible refine gd 2 rfl ?_); refine bx 2 #[.int .i64 a2, .int .i64 a3] 33 ?_; intro aE hg w3 a0 hb; have aM := se hg HB; replace HB := bS HB hb; clear hb hg) | ((with_reducible refine gd 3 rfl ?_); refine bx 3 #[.int .i64 a4, .int .i64 a5] 33 ?_; intro aF hg w4 a1 hb; have aN := se hg HB; obtain ⟨a7, a8⟩ := nPB a0 hg; replace a0 := kBB a0 hb; replace HB := bS HB hb; clear hb hg) | ((with_reducible refine gd 4 rfl ?_); refine bz2 4 33 ?_; intro aD hg w5 a6 hb; have aO := se hg HB; obtain ⟨a9, aA⟩ := nPB a0 hg; obtain ⟨aB, aC⟩ := nPB a1 hg; replace a0 := kBB a0 hb; replace a1 := kBB a1 hb; replace HB := bS HB hb; clear hb hg; have aP := a7.out; have aQ := a8.out; have aR := a9.out; have aS := aA.out; have hcz8_c := cz2 a0.out; have aK := blk_frozen a0.out 0; have aL := blk_frozen a0.out 1; have aT := aB.out; have aU := aC.out; have hcz10_c := cz2 a1.out; have aG := blk_frozen a1.out 0; have aH := blk_frozen a1.out 1; have hcz11_c := cz2 a6.out; have aI := blk_frozen a6.out 0; have aJ := blk_frozen a6.out 1)); refine rz aD 33 #[.int .i64 (wrap64 (a2 - a4)), .int .i64 (wrap64 (a3 - a5))] (qP a6) Try.underlying33 ?_; exact ⟨qE, qL HB⟩

/-! ### impl_Vec_square: function 90 -/
def impl_Vec_square.f (a0 a1 : Int) : Option (Int) := some (wrap64 ((wrap64 (a0 * a0)) + (wrap64 (a1 * a1))))
theorem impl_Vec_square.calls {a0 a1 r : Int} {w : World} (h : impl_Vec_square.f a0 a1 = some r) :
  Calls Try.prog 90 #[.agg #[.int .i64 a0, .int .i64 a1]] w fun e w' => e = .returned (.int .i64 r) ∧ Below w.heap.size w w' := by
 have hu33 := Try.underlying33; have HB := br w; have H : (some (wrap64 ((wrap64 (a0 * a0)) + (wrap64 (a1 * a1))))) = some r := h; clear h; obtain rfl := Option.some.inj H; go_enter Try.func90, Try.ntmps90; go_wp2_with (first | ((with_reducible refine gd 1 rfl ?_); refine bx 1 #[.int .i64 a0, .int .i64 a1] 33 ?_; intro a3 hg w2 a2 hb; have a6 := se hg HB; replace HB := bS HB hb; clear hb hg; have hcz3_c := cz2 a2.out; have a4 := blk_frozen a2.out 0; have a5 := blk_frozen a2.out 1))
 go_ret
 exact ⟨qE, qL HB⟩

/-! ### impl_FixClamp: function 108 -/
def impl_FixClamp.f (a0 : Int) : Option (Int) := (impl_within.f a0 1000000000).bind fun a1 => (some a1)
theorem impl_FixClamp.calls {a0 r : Int} {w : World} (h : impl_FixClamp.f a0 = some r) :
  Calls Try.prog 108 #[.int .i64 a0] w fun e w' => e = .returned (.int .i64 r) ∧ Below w.heap.size w w' := by
 have HB := br w; have H : ((impl_within.f a0 1000000000).bind fun a1 => (some a1)) = some r := h; clear h; replace H := qH H; obtain ⟨a1, A2, H⟩ := H
 obtain rfl := Option.some.inj H; go_enter Try.func108, Try.ntmps108; go_wp2_with (first | ((with_reducible refine gc 128 rfl ?_); refine gr 4 Try.func128 (impl_within.calls A2.out) ?_; rintro w3 hb; replace HB := bS HB hb; clear hb))
 go_ret
 exact ⟨qE, qL HB⟩

/-! ### impl_root: function 109 -/
def impl_root.l0 : Nat → Int → Int → Int → Option (Int)
  | 0, _, _, _ => none
  | k + 1, x0, x3, x4 => if (wrap64 (x4 - x3)) > 1 then (if (wrap64 ((wrap64 (Int.tdiv (wrap64 (x3 + x4)) 2)) * (wrap64 (Int.tdiv (wrap64 (x3 + x4)) 2)))) ≤ x0 then (impl_root.l0 k x0 (wrap64 (Int.tdiv (wrap64 (x3 + x4)) 2)) x4) else (impl_root.l0 k x0 x3 (wrap64 (Int.tdiv (wrap64 (x3 + x4)) 2)))) else (some x3)
def impl_root.f (k : Nat) (a0 : Int) : Option (Int) := impl_root.l0 k a0 0 2147483648
theorem impl_root.calls {k : Nat} {a0 r : Int} {w : World} (h : impl_root.f k a0 = some r) :
  Calls Try.prog 109 #[.int .i64 a0] w fun e w' => e = .returned (.int .i64 r) ∧ Drawn0 w w' := by
 have H : (impl_root.l0 k a0 0 2147483648) = some r := h; clear h; have H' := az H; clear H; go_enter Try.func109, Try.ntmps109; go_wp2
 go_loopg [3, 4] k (fun kq v3 v4 w' => ∃ (a1 : Int) (a2 : Int), v3 = .int .i64 a1 ∧ v4 = .int .i64 a2 ∧ Aside0 (impl_root.l0 kq a0 a1 a2 = some r) ∧ Aside0 (kq ≤ k) ∧ Drawn0 w w')
 case atStart => exact ⟨(0), (2147483648), qG, qG, H', ⟨Nat.le_refl _⟩, by repeat (first | exact Drawn0.refl _ | apply Drawn0.step)⟩
 case round =>
  clear H'
  try clear c1
  obtain ⟨a1, a2, rfl, rfl, HA, a3, ⟨m1, rfl⟩⟩ := hrel
  obtain ⟨k1, rfl⟩ := qz gk HA
  have H := HA.out; clear HA; simp only [impl_root.l0] at H; by_cases c2 : (wrap64 (a2 - a1)) > 1
  ·rw [if_pos c2] at H; have a4 : decide (1 < (wrap64 (a2 - a1))) = true := decide_eq_true c2; clear c2; by_cases c3 : (wrap64 ((wrap64 (Int.tdiv (wrap64 (a1 + a2)) 2)) * (wrap64 (Int.tdiv (wrap64 (a1 + a2)) 2)))) ≤ a0
   ·rw [if_pos c3] at H; have a5 : decide ((wrap64 ((wrap64 (Int.tdiv (wrap64 (a1 + a2)) 2)) * (wrap64 (Int.tdiv (wrap64 (a1 + a2)) 2)))) ≤ a0) = true := decide_eq_true c3; clear c3; have H' := az H; clear H; go_wp2
    go_roundg k1
    case measure => exact ma a3
    case rel => exact ⟨(wrap64 (Int.tdiv (wrap64 (a1 + a2)) 2)), (a2), qG, qG, H', ⟨ma a3⟩, by repeat (first | exact Drawn0.refl _ | apply Drawn0.step)⟩
   rw [if_neg c3] at H; have a5 : decide ((wrap64 ((wrap64 (Int.tdiv (wrap64 (a1 + a2)) 2)) * (wrap64 (Int.tdiv (wrap64 (a1 + a2)) 2)))) ≤ a0) = false := decide_eq_false c3; clear c3; have H' := az H; clear H; go_wp2
   go_roundg k1
   case measure => exact ma a3
   case rel => exact ⟨(a1), (wrap64 (Int.tdiv (wrap64 (a1 + a2)) 2)), qG, qG, H', ⟨ma a3⟩, by repeat (first | exact Drawn0.refl _ | apply Drawn0.step)⟩
  rw [if_neg c2] at H; have a4 : decide (1 < (wrap64 (a2 - a1))) = false := decide_eq_false c2; clear c2; obtain rfl := Option.some.inj H; go_wp2
  go_ret
  exact ⟨by first | rfl | (simp; done) | (simp [*]; done), by repeat (first | exact Drawn0.refl _ | apply Drawn0.step)⟩

/-! ### impl_VecLen: function 92 -/
def impl_VecLen.f (k : Nat) (a1 a2 : Int) : Option (Int) := (impl_Vec_clamped.f a1 a2 1000000000).bind fun bt881 => ((impl_Vec_square.f bt881.1 bt881.2).bind fun a3 => ((impl_root.f k a3).bind fun a4 => ((impl_FixClamp.f a4).bind fun a5 => (some a5))))
theorem impl_VecLen.calls {k : Nat} {a1 a2 r : Int} {w : World} (h : impl_VecLen.f k a1 a2 = some r) :
  Calls Try.prog 92 #[.agg #[.int .i64 a1, .int .i64 a2]] w fun e w' => e = .returned (.int .i64 r) ∧ Below w.heap.size w w' := by
 have hu33 := Try.underlying33; have HB := br w
 unfold impl_VecLen.f at h
 have H := h; clear h; replace H := qH H; obtain ⟨⟨aA, aB⟩, A2, H⟩ := H
 try dsimp only at H
 replace H := qH H; obtain ⟨a3, A3, H⟩ := H
 replace H := qH H; obtain ⟨a4, A4, H⟩ := H
 replace H := qH H; obtain ⟨a5, A5, H⟩ := H
 obtain rfl := Option.some.inj H; go_enter Try.func92, Try.ntmps92; go_wp2_with (first | ((with_reducible refine gd 1 rfl ?_); refine bx 1 #[.int .i64 a1, .int .i64 a2] 33 ?_; intro a6 hg w6 a0 hb; have a9 := se hg HB; replace HB := bS HB hb; clear hb hg; have hcz7_c := cz2 a0.out; have a7 := blk_frozen a0.out 0; have a8 := blk_frozen a0.out 1) | ((with_reducible refine gc 107 rfl ?_); refine gr 4 Try.func107 (impl_Vec_clamped.calls A2.out) ?_; rintro w8 hb; replace a0 := kBB a0 hb; replace HB := bS HB hb; clear hb) | ((with_reducible refine gc 90 rfl ?_); refine gr 5 Try.func90 (impl_Vec_square.calls A3.out) ?_; rintro w9 hb; replace a0 := kBB a0 hb; replace HB := bS HB hb; clear hb) | ((with_reducible refine gc 109 rfl ?_); refine gr 6 Try.func109 (impl_root.calls A4.out) ?_; rintro w' ⟨nd, rfl⟩) | ((with_reducible refine gc 108 rfl ?_); refine gr 7 Try.func108 (impl_FixClamp.calls A5.out) ?_; rintro aC hb; replace a0 := kBB a0 hb; replace HB := bS HB hb; clear hb))
 go_ret
 exact ⟨qE, qL HB⟩

/-! ### impl_VecUnit: function 91 -/
def impl_VecUnit.f (k : Nat) (a6 a7 : Int) : Option (Int × Int) := (impl_Vec_clamped.f a6 a7 1000000000).bind fun bt888 => ((impl_VecLen.f k bt888.1 bt888.2).bind fun a4 => (if a4 = 0 then (some (0, 256)) else (some (wrap64 (Int.tdiv (wrap64 (bt888.1 * 256)) a4), wrap64 (Int.tdiv (wrap64 (bt888.2 * 256)) a4)))))
def impl_VecUnit.T5 : TT := (true, [([], []), ([0], [0]), ([1], [1]), ([], []), ([2, 3], [2, 3]), ([], []), ([5], [5]), ([6], [6]), ([], []), ([7, 8], [7, 8]), ([4, 9], [4, 9]), ([10, 0, 1, 2, 3, 4, 5, 6, 7, 8, 9, 10], [10])])
def impl_VecUnit.B5 : List Nat := [0, 1, 3, 0, 15, 0, 32, 96, 0, 480, 1023, 2047]
theorem impl_VecUnit.tab5 : rtab .any (opsOf Try.f91 5) = impl_VecUnit.T5 := by kernel_rfl
theorem impl_VecUnit.bits5 : waitsOk impl_VecUnit.T5.2 impl_VecUnit.B5 = true := by kernel_rfl
theorem impl_VecUnit.calls {k : Nat} {a6 a7 r1 r2 : Int} {w : World} (h : impl_VecUnit.f k a6 a7 = some (r1, r2)) :
  Calls Try.prog 91 #[.agg #[.int .i64 a6, .int .i64 a7]] w fun e w' => e = .returned (.agg #[.int .i64 r1, .int .i64 r2]) ∧ Below w.heap.size w w' := by
 have hu33 := Try.underlying33; have HB := br w
 unfold impl_VecUnit.f at h
 have H := h; clear h; replace H := qH H; obtain ⟨⟨a9, aA⟩, A2, H⟩ := H
 try dsimp only at H
 replace H := qH H; obtain ⟨a4, A3, H⟩ := H
 by_cases c4 : a4 = 0
 ·rw [if_pos c4] at H; have aE := ba c4; have aF := bb c4; clear c4; simp only [Option.some.injEq, Prod.mk.injEq] at H; obtain ⟨rfl, rfl⟩ := H; go_enter Try.func91, Try.ntmps91; go_wp2_with (first | ((with_reducible refine gd 1 rfl ?_); refine bx 1 #[.int .i64 a6, .int .i64 a7] 33 ?_; intro a8 hg w5 a0 hb; have aB := se hg HB; replace HB := bS HB hb; clear hb hg) | ((with_reducible refine gd 2 rfl ?_); refine bz2 2 33 ?_; intro a5 hg w6 a1 hb; have aC := se hg HB; obtain ⟨a2, a3⟩ := nPB a0 hg; replace a0 := kBB a0 hb; replace HB := bS HB hb; clear hb hg; have aZ := a2.out; have b0 := a3.out; have hcz8_c := cz2 a0.out; have aS := blk_frozen a0.out 0; have aT := blk_frozen a0.out 1) | ((with_reducible refine gc 107 rfl ?_); refine gr 5 Try.func107 (impl_Vec_clamped.calls A2.out) ?_; rintro w9 hb; replace a0 := kBB a0 hb; replace a1 := kBB a1 hb; replace HB := bS HB hb; clear hb; have hcz10_c := cz2 a0.out; have aG := blk_frozen a0.out 0; have aH := blk_frozen a0.out 1) | ((with_reducible refine gc 92 rfl ?_); refine gr 7 Try.func92 (impl_VecLen.calls A3.out) ?_; rintro b3 hb; replace a0 := kBP (o' := .cells #[.int .i64 a9, .int .i64 aA] 33 (0, 0)) a0 hb; replace a1 := kBF a1 hb; replace HB := bS HB hb; clear hb; have hcz12_c := cz2 a1.out; have aI := blk_frozen a1.out 0; have aJ := blk_frozen a1.out 1)); refine rz a5 33 #[.int .i64 0, .int .i64 256] (qP a1) Try.underlying33 ?_; exact ⟨qE, qL HB⟩
 rw [if_neg c4] at H; have aE := be c4; have aF := bf c4; simp only [Option.some.injEq, Prod.mk.injEq] at H; obtain ⟨rfl, rfl⟩ := H; go_enter Try.func91, Try.ntmps91
 try go_wp2_with (first | ((with_reducible refine gd 1 rfl ?_); refine bx 1 #[.int .i64 a6, .int .i64 a7] 33 ?_; intro a8 hg b4 a0 hb; have aB := se hg HB; replace HB := bS HB hb; clear hb hg) | ((with_reducible refine gd 2 rfl ?_); refine bz2 2 33 ?_; intro a5 hg b5 a1 hb; have aC := se hg HB; obtain ⟨a2, a3⟩ := nPB a0 hg; replace a0 := kBB a0 hb; replace HB := bS HB hb; clear hb hg; have aV := a2.out; have aW := a3.out; have hcz16_c := cz2 a0.out; have aK := blk_frozen a0.out 0; have aL := blk_frozen a0.out 1) | ((with_reducible refine gc 107 rfl ?_); refine gr 5 Try.func107 (impl_Vec_clamped.calls A2.out) ?_; rintro b6 hb; replace a0 := kBB a0 hb; replace a1 := kBB a1 hb; replace HB := bS HB hb; clear hb; have hcz18_c := cz2 a0.out; have aM := blk_frozen a0.out 0; have aN := blk_frozen a0.out 1) | ((with_reducible refine gc 92 rfl ?_); refine gr 7 Try.func92 (impl_VecLen.calls A3.out) ?_; rintro aU hb; replace a0 := kBP (o' := .cells #[.int .i64 a9, .int .i64 aA] 33 (0, 0)) a0 hb; replace a1 := kBF a1 hb; replace HB := bS HB hb; clear hb))
 replace a0 := bd a0; replace a1 := bd a1; replace HB := ed HB; refine sa 12 (fun w' => ci a8 0 [.int .i64 a9, .int .i64 aA] w') [] (cI a0) fun Z => ?_; refine with_tabW impl_VecUnit.tab5 impl_VecUnit.bits5 fun T Y => ?_; generalize aU.drew = aD at a0 a1 HB Z ⊢; refine pz 0 11 T ?_; refine pz 3 14 T ?_; refine pz 5 16 T ?_; refine pz 8 19 T ?_; refine tz 1 12 T Y Z ?_; refine pz 2 13 T ?_; refine pz 4 15 T ?_; refine tz 6 17 T Y Z ?_; refine pz 7 18 T ?_; refine pz 9 20 T ?_; refine pz 10 21 T ?_; refine op 12 11 4095 T fun K hK => ?_; have b1 : aD.cell? ⟨a5, 0, none⟩ = some (.int .i64 0) := bc a1 0; have aX := blk_frozen a1.out 0; have aO := a2.out; have aP := a3.out; have b2 : aD.cell? ⟨a5, 1, none⟩ = some (.int .i64 0) := bc a1 1; have aY := blk_frozen a1.out 1; have aQ := a2.out; have aR := a3.out; refine sq ?_ ?_ ?_; rotate_left
 ·go_simp
  rfl
 refine hz hK ((cif a2 (cif a2 Z))) fun Z => ?_; clear hK K; refine dn T ?_
 try go_wp2
 refine rz a5 33 #[.int .i64 (wrap64 (Int.tdiv (wrap64 (a9 * 256)) a4)), .int .i64 (wrap64 (Int.tdiv (wrap64 (aA * 256)) a4))] (qP a1) Try.underlying33 ?_; exact ⟨qE, qL HB⟩

/-! ### impl_rounds: function 67 -/
def impl_rounds.f (k : Nat) (aJ aK a1 aL aM a3 : Int) : Option (Int × Int × Int × Bool) := (impl_Vec_minus.f aL aM aJ aK).bind fun bt894 => ((impl_Vec_square.f bt894.1 bt894.2).bind fun aO => (if aO > (wrap64 ((wrap64 (a1 + a3)) * (wrap64 (a1 + a3)))) then (some (0, 0, 0, false)) else ((impl_VecUnit.f k bt894.1 bt894.2).bind fun bt898 => ((impl_VecLen.f k bt894.1 bt894.2).bind fun aR => (some (bt898.1, bt898.2, wrap64 ((wrap64 (a1 + a3)) - aR), true))))))
def impl_rounds.T4 : TT := (true, [([], []), ([0], [0]), ([], []), ([], []), ([3, 1], [3]), ([2, 4], [2, 4]), ([1, 5], [1, 5]), ([6, 4, 0, 1, 2, 3, 4, 5, 6], [6]), ([7, 0, 1, 2, 3, 4, 5, 6, 7], [])])
def impl_rounds.B4 : List Nat := [0, 1, 0, 0, 11, 31, 63, 127, 255]
theorem impl_rounds.tab4 : rtab .any (opsOf Try.f67 4) = impl_rounds.T4 := by kernel_rfl
theorem impl_rounds.bits4 : waitsOk impl_rounds.T4.2 impl_rounds.B4 = true := by kernel_rfl
theorem impl_rounds.calls {k : Nat} {aJ aK a1 aL aM a3 r1 r2 r3 : Int} {r4 : Bool} {w : World} (h : impl_rounds.f k aJ aK a1 aL aM a3 = some (r1, r2, r3, r4)) :
  Calls Try.prog 67 #[.agg #[.int .i64 aJ, .int .i64 aK], .int .i64 a1, .agg #[.int .i64 aL, .int .i64 aM], .int .i64 a3] w fun e w' => e = .returned (.tuple #[.agg #[.int .i64 r1, .int .i64 r2, .int .i64 r3], .bool r4]) ∧ Below w.heap.size w w' := by
 have hu33 := Try.underlying33; have hu35 := Try.underlying35; have HB := br w
 unfold impl_rounds.f at h
 have H := h; clear h; replace H := qH H; obtain ⟨⟨aS, aT⟩, A5, H⟩ := H
 try dsimp only at H
 replace H := qH H; obtain ⟨aO, A6, H⟩ := H
 by_cases c7 : aO > (wrap64 ((wrap64 (a1 + a3)) * (wrap64 (a1 + a3))))
 ·rw [if_pos c7] at H; have aZ : decide ((wrap64 ((wrap64 (a1 + a3)) * (wrap64 (a1 + a3)))) < aO) = true := decide_eq_true c7; clear c7; simp only [Option.some.injEq, Prod.mk.injEq] at H; obtain ⟨rfl, rfl, rfl, rfl⟩ := H; go_enter Try.func67, Try.ntmps67; go_wp2_with (first | ((with_reducible refine gd 4 rfl ?_); refine bx 4 #[.int .i64 aJ, .int .i64 aK] 33 ?_; intro aP hg w8 a0 hb; have aV := se hg HB; replace HB := bS HB hb; clear hb hg) | ((with_reducible refine gd 6 rfl ?_); refine bx 6 #[.int .i64 aL, .int .i64 aM] 33 ?_; intro aQ hg w9 a2 hb; have aW := se hg HB; obtain ⟨aD, aE⟩ := nPB a0 hg; replace a0 := kBB a0 hb; replace HB := bS HB hb; clear hb hg) | ((with_reducible refine gd 8 rfl ?_); refine bz3 8 35 ?_; intro aC hg cW a4 hb; have aX := se hg HB; obtain ⟨a7, a8⟩ := nPB a0 hg; obtain ⟨a9, aA⟩ := nPB a2 hg; replace a0 := kBB a0 hb; replace a2 := kBB a2 hb; replace HB := bS HB hb; clear hb hg; have c0 := aE.out; have c1 := aD.out; have c2 := a9.out; have c3 := aA.out; have hcz13_c := cz2 a2.out; have b2 := blk_frozen a2.out 0; have b3 := blk_frozen a2.out 1; have c4 := a7.out; have c5 := a8.out; have hcz15_c := cz2 a0.out; have b4 := blk_frozen a0.out 0; have b5 := blk_frozen a0.out 1) | ((with_reducible refine gc 89 rfl ?_); refine gr 14 Try.func89 (impl_Vec_minus.calls A5.out) ?_; rintro cX hb; replace a0 := kBB a0 hb; replace a2 := kBB a2 hb; replace a4 := kBB a4 hb; replace HB := bS HB hb; clear hb) | ((with_reducible refine gd 10 rfl ?_); refine bz2 10 33 ?_; intro aN hg cY a5 hb; have aY := se hg HB; obtain ⟨aF, aG⟩ := nPB a0 hg; obtain ⟨aH, aI⟩ := nPB a2 hg; obtain ⟨aB, a6⟩ := nPB a4 hg; replace a0 := kBB a0 hb; replace a2 := kBB a2 hb; replace a4 := kBB a4 hb; replace HB := bS HB hb; clear hb hg; have c6 := aG.out; have c8 := aF.out; have c9 := aI.out; have cA := aH.out; have cB := a6.out; have cC := aB.out; have hcz21_c := cz2 a5.out; have b6 := blk_frozen a5.out 0; have b7 := blk_frozen a5.out 1) | ((with_reducible refine gc 90 rfl ?_); refine gr 19 Try.func90 (impl_Vec_square.calls A6.out) ?_; rintro cZ hb; replace a0 := kBF a0 hb; replace a2 := kBF a2 hb; replace a4 := kBF a4 hb; replace a5 := kBP (o' := .cells #[.int .i64 aS, .int .i64 aT] 33 (0, 0)) a5 hb; replace HB := bS HB hb; clear hb; have hcz23_c := cz3 a4.out; have hfz23_c := fz3 a4.out))
  refine rt aC 35 #[.int .i64 0, .int .i64 0, .int .i64 0] (qP a4) Try.underlying35 ?_; exact ⟨qE, qL HB⟩
 rw [if_neg c7] at H; have aZ : decide ((wrap64 ((wrap64 (a1 + a3)) * (wrap64 (a1 + a3)))) < aO) = false := decide_eq_false c7; clear c7; replace H := qH H; obtain ⟨⟨b0, b1⟩, bX, H⟩ := H
 try dsimp only at H
 replace H := qH H; obtain ⟨aR, bY, H⟩ := H
 simp only [Option.some.injEq, Prod.mk.injEq] at H; obtain ⟨rfl, rfl, rfl, rfl⟩ := H; go_enter Try.func67, Try.ntmps67
 try go_wp2_with (first | ((with_reducible refine gd 4 rfl ?_); refine bx 4 #[.int .i64 aJ, .int .i64 aK] 33 ?_; intro aP hg dA a0 hb; have aV := se hg HB; replace HB := bS HB hb; clear hb hg) | ((with_reducible refine gd 6 rfl ?_); refine bx 6 #[.int .i64 aL, .int .i64 aM] 33 ?_; intro aQ hg dB a2 hb; have aW := se hg HB; obtain ⟨aD, aE⟩ := nPB a0 hg; replace a0 := kBB a0 hb; replace HB := bS HB hb; clear hb hg) | ((with_reducible refine gd 8 rfl ?_); refine bz3 8 35 ?_; intro aC hg dC a4 hb; have aX := se hg HB; obtain ⟨a7, a8⟩ := nPB a0 hg; obtain ⟨a9, aA⟩ := nPB a2 hg; replace a0 := kBB a0 hb; replace a2 := kBB a2 hb; replace HB := bS HB hb; clear hb hg; have cD := aE.out; have cE := aD.out; have cF := a9.out; have cG := aA.out; have hcz31_c := cz2 a2.out; have b8 := blk_frozen a2.out 0; have b9 := blk_frozen a2.out 1; have cH := a7.out; have cJ := a8.out; have hcz33_c := cz2 a0.out; have bA := blk_frozen a0.out 0; have bB := blk_frozen a0.out 1) | ((with_reducible refine gc 89 rfl ?_); refine gr 14 Try.func89 (impl_Vec_minus.calls A5.out) ?_; rintro dD hb; replace a0 := kBB a0 hb; replace a2 := kBB a2 hb; replace a4 := kBB a4 hb; replace HB := bS HB hb; clear hb) | ((with_reducible refine gd 10 rfl ?_); refine bz2 10 33 ?_; intro aN hg dE a5 hb; have aY := se hg HB; obtain ⟨aF, aG⟩ := nPB a0 hg; obtain ⟨aH, aI⟩ := nPB a2 hg; obtain ⟨aB, a6⟩ := nPB a4 hg; replace a0 := kBB a0 hb; replace a2 := kBB a2 hb; replace a4 := kBB a4 hb; replace HB := bS HB hb; clear hb hg; have cK := aG.out; have cL := aF.out; have cM := aI.out; have cN := aH.out; have cO := a6.out; have cP := aB.out; have hcz39_c := cz2 a5.out; have bC := blk_frozen a5.out 0; have bD := blk_frozen a5.out 1) | ((with_reducible refine gc 90 rfl ?_); refine gr 19 Try.func90 (impl_Vec_square.calls A6.out) ?_; rintro bZ hb; replace a0 := kBF a0 hb; replace a2 := kBF a2 hb; replace a4 := kBF a4 hb; replace a5 := kBP (o' := .cells #[.int .i64 aS, .int .i64 aT] 33 (0, 0)) a5 hb; replace HB := bS HB hb; clear hb))
 replace a0 := bd a0; replace a2 := bd a2; replace a4 := bd a4; replace a5 := bd a5; replace HB := ed HB; refine sa 9 (fun w' => ci aN 0 [.int .i64 aS, .int .i64 aT] w') [] (cI a5) fun Z => ?_; refine with_tabW impl_rounds.tab4 impl_rounds.bits4 fun T Y => ?_; generalize bZ.drew = dF at a0 a2 a4 a5 HB Z ⊢; refine pz 2 27 T ?_; refine tz 0 25 T Y Z ?_; refine tz 3 28 T Y Z ?_; refine oo 9 1 26 15 T fun K hK => ?_; refine ky Try.func91 (impl_VecUnit.calls bX.out) ?_; rintro dG hb; replace a0 := kBB a0 hb; replace a2 := kBB a2 hb; replace a4 := kBB a4 hb; replace a5 := kBB a5 hb; replace HB := bS HB hb; clear hb; refine hz hK (cI a5) fun Z => ?_; clear hK K; refine nn 26 ?_; refine oo 9 4 29 31 T fun K hK => ?_; refine ky Try.func92 (impl_VecLen.calls bY.out) ?_; rintro aU hb; replace a0 := kBB a0 hb; replace a2 := kBB a2 hb; replace a4 := kBB a4 hb; replace a5 := kBB a5 hb; replace HB := bS HB hb; clear hb; refine hz hK (cI a5) fun Z => ?_; clear hK K; refine nn 29 ?_; refine pz 5 30 T ?_; refine pz 6 31 T ?_; refine op 9 7 255 T fun K hK => ?_; have cT : aU.cell? ⟨aC, 0, none⟩ = some (.int .i64 0) := bc a4 0; have cQ := blk_frozen a4.out 0; have bE := a7.out; have bF := a9.out; have bG := a6.out; have bH := a8.out; have bI := aA.out; have bJ := aB.out; have cU : aU.cell? ⟨aC, 1, none⟩ = some (.int .i64 0) := bc a4 1; have cR := blk_frozen a4.out 1; have bK := a7.out; have bL := a9.out; have bM := a6.out; have bN := a8.out; have bO := aA.out; have bP := aB.out; have cV : aU.cell? ⟨aC, 2, none⟩ = some (.int .i64 0) := bc a4 2; have cS := blk_frozen a4.out 2; have bQ := a7.out; have bR := a9.out; have bT := a6.out; have bU := a8.out; have bV := aA.out; have bW := aB.out; refine sq ?_ ?_ ?_; rotate_left
 ·go_simp
  rfl
 refine hz hK ((cif a6 (cif a6 (cif a6 Z)))) fun Z => ?_; clear hK K; refine pz 8 9 T ?_; refine dn T ?_
 try go_wp2
 refine rt aC 35 #[.int .i64 b0, .int .i64 b1, .int .i64 (wrap64 ((wrap64 (a1 + a3)) - aR))] (qP a4) Try.underlying35 ?_; exact ⟨qE, qL HB⟩

/-! ### impl_Box_meets: function 93 -/
def impl_Box_meets.f (a0 a1 a2 aA a3 aB a4 a5 : Int) : Option (Bool) := if a0 ≤ a4 then (if a3 ≤ a2 then (if a1 ≤ a5 then (some (decide (aB ≤ aA))) else (some false)) else (some false)) else (some false)
theorem impl_Box_meets.calls {a0 a1 a2 aA a3 aB a4 a5 : Int} {r : Bool} {w : World} (h : impl_Box_meets.f a0 a1 a2 aA a3 aB a4 a5 = some r) :
  Calls Try.prog 93 #[.agg #[.int .i64 a0, .int .i64 a1, .int .i64 a2, .int .i64 aA], .agg #[.int .i64 a3, .int .i64 aB, .int .i64 a4, .int .i64 a5]] w fun e w' => e = .returned (.bool r) ∧ Below w.heap.size w w' := by
 have hu85 := Try.underlying85; have HB := br w
 unfold impl_Box_meets.f at h
 have H := h; clear h; replace H := qc H; obtain ⟨aF, H⟩ | ⟨aF, H⟩ := H; replace H := qc H; obtain ⟨aG, H⟩ | ⟨aG, H⟩ := H; replace H := qc H; obtain ⟨aH, H⟩ | ⟨aH, H⟩ := H; obtain rfl := Option.some.inj H; refine ?L1; rotate_left; obtain rfl := Option.some.inj H; refine ?L2
 rotate_right
 rotate_left 2
 obtain rfl := Option.some.inj H; refine ?L3
 rotate_right 2
 rotate_left 3
 obtain rfl := Option.some.inj H; refine ?L4
 rotate_right 3
 case' L1 | L2 | L3 | L4 =>
  go_enter Try.func93, Try.ntmps93; go_wp2_with (first | ((with_reducible refine gd 2 rfl ?_); refine bx 2 #[.int .i64 a0, .int .i64 a1, .int .i64 a2, .int .i64 aA] 85 ?_; intro aI hg w6 a9 hb; have aK := se hg HB; replace HB := bS HB hb; clear hb hg) | ((with_reducible refine gd 3 rfl ?_); refine bx 3 #[.int .i64 a3, .int .i64 aB, .int .i64 a4, .int .i64 a5] 85 ?_; intro aJ hg w7 aE hb; have aL := se hg HB; obtain ⟨aC, aD⟩ := nPB a9 hg; replace a9 := kBB a9 hb; replace HB := bS HB hb; clear hb hg; have aM := aC.out; have aN := aD.out; have hcz9_c := cz4 a9.out; have hfz9_c := fz4 a9.out; have hcz10_c := cz4 aE.out; have hfz10_c := fz4 aE.out))
  go_ret
 case' L1 | L2 | L3 =>
  exact ⟨qE, qL HB⟩
 case L4 =>
  exact ⟨qE, qL HB⟩

/-! ### impl_boxes: function 68 -/
def impl_boxes.l0 : Nat → List S35 → Int → Int → Int → Int → Int → Option (Int × Int × Int × Bool)
  | 0, _, _, _, _, _, _ => none
  | k + 1, b1, bQ, aT, b3, b4, aW => if aT < bQ then (if 0 ≤ aT then (if aT < (b1.length : Int) then (if ((rd_T35 b1 aT).f1) < aW then (impl_boxes.l0 k b1 bQ (wrap64 (aT + 1)) ((rd_T35 b1 aT).f0.f0) ((rd_T35 b1 aT).f0.f1) ((rd_T35 b1 aT).f1)) else (impl_boxes.l0 k b1 bQ (wrap64 (aT + 1)) b3 b4 aW)) else none) else none) else (some (b3, b4, aW, true))
def impl_boxes.f (k : Nat) (a7 a8 aH a9 aI aA aB aC : Int) : Option (Int × Int × Int × Bool) := (impl_Box_meets.f a7 a8 aH a9 aI aA aB aC).bind fun bV => (if bV = true then ((some (([(⟨(⟨(-256), 0⟩ : S33), wrap64 (aB - a7)⟩ : S35), (⟨(⟨0, 256⟩ : S33), wrap64 (a9 - aA)⟩ : S35), (⟨(⟨0, (-256)⟩ : S33), wrap64 (aC - a8)⟩ : S35)] : List S35) : List S35)).bind fun bR => (impl_boxes.l0 k bR (bR.length : Int) 0 256 0 (wrap64 (aH - aI)))) else (some (0, 0, 0, false)))
theorem impl_boxes.calls {k : Nat} {a7 a8 aH a9 aI aA aB aC r1 r2 r3 : Int} {r4 : Bool} {w : World} (h : impl_boxes.f k a7 a8 aH a9 aI aA aB aC = some (r1, r2, r3, r4)) :
  Calls Try.prog 68 #[.agg #[.int .i64 a7, .int .i64 a8, .int .i64 aH, .int .i64 a9], .agg #[.int .i64 aI, .int .i64 aA, .int .i64 aB, .int .i64 aC]] w fun e w' => e = .returned (.tuple #[.agg #[.int .i64 r1, .int .i64 r2, .int .i64 r3], .bool r4]) ∧ Below w.heap.size w w' := by
 have hu85 := Try.underlying85; have hu35 := Try.underlying35; have hu33 := Try.underlying33; have HB := br w
 unfold impl_boxes.f at h
 have H := h; clear h; replace H := qH H; obtain ⟨bU, bJ, H⟩ := H
 by_cases aU : bU = true; subst aU; replace H := qT H; obtain ⟨a2, aK⟩ : ∃ y_ : List S35, y_ = (([(⟨(⟨(-256), 0⟩ : S33), wrap64 (aB - a7)⟩ : S35), (⟨(⟨0, 256⟩ : S33), wrap64 (a9 - aA)⟩ : S35), (⟨(⟨0, (-256)⟩ : S33), wrap64 (aC - a8)⟩ : S35)] : List S35)) := ⟨_, rfl⟩
 replace H : (impl_boxes.l0 k a2 (a2.length : Int) 0 256 0 (wrap64 (aH - aI))) = some (r1, r2, r3, r4) := qs H aK
 have b6 := az aK; clear aK; have H' := az H; clear H; refine ?L4; rotate_left; replace aU := Bool.eq_false_iff.mpr aU; subst aU; replace H := qU H; simp only [Option.some.injEq, Prod.mk.injEq] at H; obtain ⟨rfl, rfl, rfl, rfl⟩ := H; refine ?L5
 rotate_right
 case' L4 | L5 =>
  go_enter Try.func68, Try.ntmps68; go_wp2_with (first | ((with_reducible refine gd 2 rfl ?_); refine bx 2 #[.int .i64 a7, .int .i64 a8, .int .i64 aH, .int .i64 a9] 85 ?_; intro bK hg w5 a0 hb; have dX := se hg HB; replace HB := bS HB hb; clear hb hg) | ((with_reducible refine gd 3 rfl ?_); refine bx 3 #[.int .i64 aI, .int .i64 aA, .int .i64 aB, .int .i64 aC] 85 ?_; intro bL hg w6 a3 hb; have dY := se hg HB; obtain ⟨b7, b8⟩ := nPB a0 hg; replace a0 := kBB a0 hb; replace HB := bS HB hb; clear hb hg) | ((with_reducible refine gd 4 rfl ?_); refine bz3 4 35 ?_; intro aR hg w7 a4 hb; have dZ := se hg HB; obtain ⟨aX, aY⟩ := nPB a0 hg; obtain ⟨aZ, b0⟩ := nPB a3 hg; replace a0 := kBB a0 hb; replace a3 := kBB a3 hb; replace HB := bS HB hb; clear hb hg; have eZ := b7.out; have fA := b8.out; have fB := aX.out; have fC := aY.out; obtain ⟨c0, c1, c2, c4⟩ := cz4 a0.out; obtain ⟨c5, c6, c7, c8⟩ := fz4 a0.out; have e0 := aZ.out; have e1 := b0.out; obtain ⟨c9, cA, cB, cC⟩ := cz4 a3.out; obtain ⟨cD, cE, cF, cG⟩ := fz4 a3.out) | ((with_reducible refine gc 93 rfl ?_); refine gr 11 Try.func93 (impl_Box_meets.calls (r := true) bJ.out) ?_; rintro fE hb; replace a0 := kBB a0 hb; replace a3 := kBB a3 hb; replace a4 := kBB a4 hb; replace HB := bS HB hb; clear hb; obtain ⟨cH, cI, cJ, cK⟩ := cz4 a0.out; obtain ⟨cL, cM, cN, cO⟩ := fz4 a0.out; obtain ⟨cP, cQ, cR, cS⟩ := cz4 a3.out; obtain ⟨cT, cU, cV, cW⟩ := fz4 a3.out) | ((with_reducible refine gd 6 rfl ?_); refine bz3 6 35 ?_; intro aJ hg fG a5 hb; have e2 := se hg HB; obtain ⟨aL, aM⟩ := nPB a0 hg; obtain ⟨aN, aO⟩ := nPB a3 hg; obtain ⟨aP, aQ⟩ := nPB a4 hg; replace a0 := kBB a0 hb; replace a3 := kBB a3 hb; replace a4 := kBB a4 hb; replace HB := bS HB hb; clear hb hg; have e3 := aM.out; have e4 := aL.out; have e5 := aO.out; have e6 := aN.out; have e7 := aQ.out; have e8 := aP.out; obtain ⟨cX, cY, cZ⟩ := cz3 a5.out; obtain ⟨dA, dB, dC⟩ := fz3 a5.out; obtain ⟨dD, dE, dF, dG⟩ := cz4 a3.out; obtain ⟨dH, dI, dJ, dK⟩ := fz4 a3.out; obtain ⟨dL, dM, dN, dO⟩ := cz4 a0.out; obtain ⟨dP, dQ, dR, dS⟩ := fz4 a0.out) | ((with_reducible refine gd 50 rfl ?_); refine Kd.R_lit k35 _ 35 ?hg (N := 50) ?hd (xs := ([(⟨(⟨(-256), 0⟩ : S33), wrap64 (aB - a7)⟩ : S35), (⟨(⟨0, 256⟩ : S33), wrap64 (a9 - aA)⟩ : S35), (⟨(⟨0, (-256)⟩ : S33), wrap64 (aC - a8)⟩ : S35)] : List S35)) (inner := [.int .i64 (-256), .int .i64 0, .int .i64 (wrap64 (aB - a7)), .int .i64 0, .int .i64 256, .int .i64 (wrap64 (a9 - aA)), .int .i64 0, .int .i64 (-256), .int .i64 (wrap64 (aC - a8))]) (ok := fun _ => True) (okp := fun _ => True) ?hr ?hp (fun _ hk => hk) trivial (Below.refl _ _) (Nat.le_refl _) (by simp) ?_; (case hd => rfl); (case hg => rfl); (case hr => first | (go_simp; done) | (go_simp; rfl)); (case hp => exact (Reps.c3 (show Kd.M k35 _ _ _ (⟨(⟨(-256), 0⟩ : S33), wrap64 (aB - a7)⟩ : S35) [.int .i64 (-256), .int .i64 0, .int .i64 (wrap64 (aB - a7))] from (k35_mkM _ _ _ (⟨(⟨(-256), 0⟩ : S33), wrap64 (aB - a7)⟩ : S35) )) (Reps.c3 (show Kd.M k35 _ _ _ (⟨(⟨0, 256⟩ : S33), wrap64 (a9 - aA)⟩ : S35) [.int .i64 0, .int .i64 256, .int .i64 (wrap64 (a9 - aA))] from (k35_mkM _ _ _ (⟨(⟨0, 256⟩ : S33), wrap64 (a9 - aA)⟩ : S35) )) (Reps.c3 (show Kd.M k35 _ _ _ (⟨(⟨0, (-256)⟩ : S33), wrap64 (aC - a8)⟩ : S35) [.int .i64 0, .int .i64 (-256), .int .i64 (wrap64 (aC - a8))] from (k35_mkM _ _ _ (⟨(⟨0, (-256)⟩ : S33), wrap64 (aC - a8)⟩ : S35) )) (Reps.none _ _))))); intro fD fH b2 hb hg_ hnew_; clear hg_ hnew_; (first | rw [← b6.out] at b2 | (simp only [Int.reduceToNat] at b2; rw [← b6.out] at b2)); have bM := az (Kd.R_lower (Kd.R_newB (Kd.R_newB b2 (g := aR) (o := .cells #[.int .i64 0, .int .i64 0, .int .i64 0] 35 (0, 0)) (qF a4)) (g := aJ) (o := .cells #[.int .i64 256, .int .i64 0, .int .i64 (wrap64 (aH - aI))] 35 (0, 0)) (qP a5)) (below_size (qL HB))); replace a0 := kBF a0 hb; replace a3 := kBF a3 hb; replace a4 := kBF a4 hb; replace a5 := kBP (o' := .cells #[.int .i64 256, .int .i64 0, .int .i64 (wrap64 (aH - aI))] 35 (0, 0)) a5 hb; replace HB := bS HB hb; clear hb b2; obtain ⟨bW, bX, bY⟩ := Kd.R_slice bM.out; subst bY) | ((with_reducible refine gc 93 rfl ?_); refine gr 11 Try.func93 (impl_Box_meets.calls (r := false) bJ.out) ?_; rintro fI hb; replace a0 := kBB a0 hb; replace a3 := kBB a3 hb; replace a4 := kBB a4 hb; replace HB := bS HB hb; clear hb; have hcz66_c := cz3 a4.out; have hfz66_c := fz3 a4.out))
 case L4 =>
  go_loopg [52] k (fun kq v52 w' => ∃ (a1 : Int) (aE : Int) (aF : Int) (a6 : Int), v52 = .int .i64 a1 ∧ Aside0 (impl_boxes.l0 kq a2 (a2.length : Int) a1 aE aF a6 = some (r1, r2, r3, r4)) ∧ Aside0 (kq ≤ k) ∧ Aside0 (Kd.R k35 35 w' w.heap.size (fun k_ => k_ ≠ aR ∧ k_ ≠ aJ) (.slice bW a2.length bX) a2) ∧ Aside0 (w'.heap[bK]? = some (.cells #[.int .i64 a7, .int .i64 a8, .int .i64 aH, .int .i64 a9] 85 (0, 0))) ∧ Aside0 (w'.heap[bL]? = some (.cells #[.int .i64 aI, .int .i64 aA, .int .i64 aB, .int .i64 aC] 85 (0, 0))) ∧ Aside0 (w'.heap[aR]? = some (.cells #[.int .i64 0, .int .i64 0, .int .i64 0] 35 (0, 0))) ∧ Aside0 (w'.heap[aJ]? = some (.cells #[.int .i64 aE, .int .i64 aF, .int .i64 a6] 35 (0, 0))) ∧ Aside0 (Below w.heap.size w w'))
  case atStart => exact ⟨(0), (256), (0), (wrap64 (aH - aI)), qG, H', ⟨Nat.le_refl _⟩, ⟨by (with_reducible repeat (first | apply Kd.R_alloc | apply Kd.R_drewN | apply Kd.R_drew)); exact Kd.R_mono bM.out (fun _ hk => ⟨hk.1.2, hk.2⟩)⟩, ⟨qF a0⟩, ⟨qF a3⟩, ⟨qF a4⟩, ⟨qF a5⟩, ⟨qL HB⟩⟩
  case round =>
   clear H'; obtain ⟨a1, aE, aF, a6, rfl, HA, bT, aV, a0, a3, a4, a5, HB⟩ := hrel
   obtain ⟨k1, rfl⟩ := qz gk HA
   have H := HA.out; clear HA; simp only [impl_boxes.l0] at H; replace H := qc H; obtain ⟨b5, H⟩ | ⟨b5, H⟩ := H; replace H := qd H; obtain ⟨dT, H⟩ := H; replace H := qd H; obtain ⟨b5, H⟩ := H; replace H := qc H; obtain ⟨bP, H⟩ | ⟨bP, H⟩ := H; have H' := az H; clear H; refine ?L1; rotate_left; have H' := az H; clear H; refine ?L2
   rotate_right
   rotate_left 2
   simp only [Option.some.injEq, Prod.mk.injEq] at H; obtain ⟨rfl, rfl, rfl, rfl⟩ := H; refine ?L3
   rotate_right 2
   case' L1 | L2 =>
    obtain ⟨bH, bI, e9, bZ, dU, dV, dW⟩ := ay35 (rr aV) a1; cases bZ; go_wp2_with (first | ((with_reducible refine gd 8 rfl ?_); refine bz3 8 35 ?_; intro aD hg fJ bO hb; have eA := se hg HB; obtain ⟨b9, bA⟩ := nPB a0 hg; obtain ⟨bB, bC⟩ := nPB a3 hg; obtain ⟨bD, bE⟩ := nPB a4 hg; obtain ⟨bF, bG⟩ := nPB a5 hg; replace aV := az (Kd.R_below (Kd.R_elderB (qR aV) aD (Nat.le_of_eq hg.symm)) hb); replace a0 := kBB a0 hb; replace a3 := kBB a3 hb; replace a4 := kBB a4 hb; replace a5 := kBB a5 hb; replace HB := bS HB hb; clear hb hg; have eB := bA.out; have eC := b9.out; have eD := bC.out; have eE := bB.out; have eF := bE.out; have eG := bD.out; have eH := bG.out; have eI := bF.out; have hcz35_c := cz3 bO.out; have hfz35_c := fz3 bO.out; have eJ := aM.out; have eK := aL.out; have eL := aO.out; have eM := aN.out; have eN := aQ.out; have eO := aP.out; have hcz39_c := cz3 a5.out; have hfz39_c := fz3 a5.out))
    go_roundg k1
    case measure => exact ma bT
   case L1 =>
    exact ⟨(wrap64 (a1 + 1)), ((rd_T35 a2 a1).f0.f0), ((rd_T35 a2 a1).f0.f1), ((rd_T35 a2 a1).f1), qG, H', ⟨ma bT⟩, ⟨by (with_reducible repeat (first | apply Kd.R_alloc | apply Kd.R_drewN | apply Kd.R_drew)); exact Kd.R_mono (Kd.R_far (p := ⟨aJ, 2, none⟩) (Kd.R_far (p := ⟨aJ, 1, none⟩) (Kd.R_far (p := ⟨aJ, 0, none⟩) (Kd.R_far (p := ⟨aD, 2, none⟩) (Kd.R_far (p := ⟨aD, 1, none⟩) (Kd.R_far (p := ⟨aD, 0, none⟩) (Kd.R_mono (Kd.R_mono aV.out (fun k_ hk => (⟨hk, hk.2⟩ : _ ∧ k_ ≠ aD))) (fun k_ hk => (⟨hk, hk.1.1.2⟩ : _ ∧ k_ ≠ aJ))) (fun _ hk => hk.1.2) (.int .i64 ((rd_T35 a2 a1).f0.f0))) (fun _ hk => hk.1.2) (.int .i64 ((rd_T35 a2 a1).f0.f1))) (fun _ hk => hk.1.2) (.int .i64 ((rd_T35 a2 a1).f1))) (fun _ hk => hk.2) (.int .i64 ((rd_T35 a2 a1).f0.f0))) (fun _ hk => hk.2) (.int .i64 ((rd_T35 a2 a1).f0.f1))) (fun _ hk => hk.2) (.int .i64 ((rd_T35 a2 a1).f1))) (fun _ hk => ⟨hk.1.1.1.1, hk.1.1.1.2⟩)⟩, ⟨qF a0⟩, ⟨qF a3⟩, ⟨qF a4⟩, ⟨qP a5⟩, ⟨qL HB⟩⟩
   case L2 =>
    exact ⟨(wrap64 (a1 + 1)), (aE), (aF), (a6), qG, H', ⟨ma bT⟩, ⟨qY aD aV (fun _ hk => hk.2) (fun _ hk => ⟨hk.1.1.1, hk.1.1.2⟩)⟩, ⟨qF a0⟩, ⟨qF a3⟩, ⟨qF a4⟩, ⟨qF a5⟩, ⟨qL HB⟩⟩
   case L3 =>
    have eP := aM.out; have eQ := aL.out; have eR := aO.out; have eS := aN.out; have eT := aQ.out; have eU := aP.out; have hcz53_c := cz3 a5.out; have hfz53_c := fz3 a5.out; have eV := aY.out; have eW := aX.out; have eX := b0.out; have eY := aZ.out; have hcz56_c := cz3 a4.out; have hfz56_c := fz3 a4.out; go_wp2; refine rt aR 35 #[.int .i64 aE, .int .i64 aF, .int .i64 a6] (qP a4) Try.underlying35 ?_; exact ⟨qE, qL HB⟩
 case L5 =>
  refine rt aR 35 #[.int .i64 0, .int .i64 0, .int .i64 0] (qP a4) Try.underlying35 ?_; exact ⟨qE, qL HB⟩

/-! ### impl_Shape_bounds: function 69 -/
def impl_Shape_bounds.f (aD a9 aE aF aG : Int) : Option (Int × Int × Int × Int) := if aD = 1 then ((impl_Vec_minus.f aF aG a9 a9).bind fun bt920 => ((impl_Vec_plus.f aF aG a9 a9).bind fun bt922 => (some (bt920.1, bt920.2, bt922.1, bt922.2)))) else ((impl_Vec_minus.f aF aG a9 aE).bind fun bt924 => ((impl_Vec_plus.f aF aG a9 aE).bind fun bt926 => (some (bt924.1, bt924.2, bt926.1, bt926.2))))
def impl_Shape_bounds.T4 : TT := (true, [([], []), ([], []), ([0, 1], [0, 1]), ([], []), ([], []), ([3, 4, 2], [3, 4]), ([2, 5], [2, 5]), ([6, 5, 0, 1, 2, 3, 4, 5, 6], [6])])
def impl_Shape_bounds.B4 : List Nat := [0, 0, 3, 0, 0, 31, 63, 127]
theorem impl_Shape_bounds.tab4 : rtab .any (opsOf Try.f69 4) = impl_Shape_bounds.T4 := by kernel_rfl
theorem impl_Shape_bounds.bits4 : waitsOk impl_Shape_bounds.T4.2 impl_Shape_bounds.B4 = true := by kernel_rfl
theorem impl_Shape_bounds.calls {aD a9 aE aF aG r1 r2 r3 r4 : Int} {w : World} (h : impl_Shape_bounds.f aD a9 aE aF aG = some (r1, r2, r3, r4)) :
  Calls Try.prog 69 #[.agg #[.int .i64 aD, .int .i64 a9, .int .i64 aE], .agg #[.int .i64 aF, .int .i64 aG]] w fun e w' => e = .returned (.agg #[.int .i64 r1, .int .i64 r2, .int .i64 r3, .int .i64 r4]) ∧ Below w.heap.size w w' := by
 have hu39 := Try.underlying39; have hu33 := Try.underlying33; have hu85 := Try.underlying85; have HB := br w
 unfold impl_Shape_bounds.f at h
 have H := h; clear h; by_cases aH : aD = 1; rw [if_pos aH] at H; have b0 := ba aH; have b1 := bb aH; clear aH; replace H := qH H; obtain ⟨⟨aL, aM⟩, aN, H⟩ := H
 try dsimp only at H
 replace H := qH H; obtain ⟨⟨aO, aP⟩, aQ, H⟩ := H
 try dsimp only at H
 simp only [Option.some.injEq, Prod.mk.injEq] at H; obtain ⟨rfl, rfl, rfl, rfl⟩ := H; refine ?L1; rotate_left; rw [if_neg aH] at H; have b0 := be aH; have b1 := bf aH; replace H := qH H; obtain ⟨⟨aL, aM⟩, aN, H⟩ := H
 try dsimp only at H
 replace H := qH H; obtain ⟨⟨aO, aP⟩, aQ, H⟩ := H
 try dsimp only at H
 simp only [Option.some.injEq, Prod.mk.injEq] at H; obtain ⟨rfl, rfl, rfl, rfl⟩ := H; refine ?L2
 rotate_right
 case' L1 | L2 =>
  go_enter Try.func69, Try.ntmps69
  try go_wp2_with (first | ((with_reducible refine gd 2 rfl ?_); refine bx 2 #[.int .i64 aD, .int .i64 a9, .int .i64 aE] 39 ?_; intro aR hg w6 a2 hb; have cJ := se hg HB; replace HB := bS HB hb; clear hb hg) | ((with_reducible refine gd 3 rfl ?_); refine bx 3 #[.int .i64 aF, .int .i64 aG] 33 ?_; intro aI hg w7 a3 hb; have cK := se hg HB; obtain ⟨aS, aT⟩ := nPB a2 hg; replace a2 := kBB a2 hb; replace HB := bS HB hb; clear hb hg) | ((with_reducible refine gd 4 rfl ?_); refine bz4 4 85 ?_; intro aB hg w8 a0 hb; have cL := se hg HB; obtain ⟨a6, a7⟩ := nPB a2 hg; obtain ⟨a4, aA⟩ := nPB a3 hg; replace a2 := kBB a2 hb; replace a3 := kBB a3 hb; replace HB := bS HB hb; clear hb hg; have dD := aS.out; have dE := aT.out; have cM := a6.out; have cN := a7.out; have hcz11_c := cz3 a2.out; have hfz11_c := fz3 a2.out) | ((with_reducible refine gd 5 rfl ?_); refine bz2 5 33 ?_; intro aC hg b2 a5 hb; have cO := se hg HB; obtain ⟨aU, aV⟩ := nPB a2 hg; obtain ⟨aW, aX⟩ := nPB a3 hg; obtain ⟨a8, a1⟩ := nPB a0 hg; replace a2 := kBB a2 hb; replace a3 := kBB a3 hb; replace a0 := kBB a0 hb; replace HB := bS HB hb; clear hb hg; have cP := aV.out; have cQ := aU.out; have cR := aX.out; have cS := aW.out; have cT := a1.out; have cU := a8.out; have hcz16_c := cz2 a5.out; have b3 := blk_frozen a5.out 0; have b4 := blk_frozen a5.out 1; have hcz17_c := cz3 a2.out; have hfz17_c := fz3 a2.out))
 case L1 =>
  obtain ⟨aJ, hw_⟩ : ∃ x, x = (((b2.setCell ⟨aC, 0, none⟩ (.int .i64 a9)).setCell ⟨aC, 1, none⟩ (.int .i64 aE)).setCell ⟨aC, 1, none⟩ (.int .i64 a9)) := ⟨_, rfl⟩; replace a2 : Aside0 (aJ.heap[aR]? = some (.cells #[.int .i64 aD, .int .i64 a9, .int .i64 aE] 39 (0, 0))) := ⟨by rw [hw_]; exact qF a2⟩; replace a3 : Aside0 (aJ.heap[aI]? = some (.cells #[.int .i64 aF, .int .i64 aG] 33 (0, 0))) := ⟨by rw [hw_]; exact qF a3⟩; replace a0 : Aside0 (aJ.heap[aB]? = some (.cells #[.int .i64 0, .int .i64 0, .int .i64 0, .int .i64 0] 85 (0, 0))) := ⟨by rw [hw_]; exact qF a0⟩; replace a5 : Aside0 (aJ.heap[aC]? = some (.cells #[.int .i64 a9, .int .i64 a9] 33 (0, 0))) := ⟨by rw [hw_]; exact qP a5⟩; replace HB : Aside0 (Below w.heap.size w aJ) := ⟨by rw [hw_]; exact qL HB⟩; rw [← hw_]; clear hw_; replace a2 := bd a2; replace a3 := bd a3; replace a0 := bd a0; replace a5 := bd a5; replace HB := ed HB; refine sa 8 (fun w' => ci aI 0 [.int .i64 aF, .int .i64 aG] w' ∧ ci aC 0 [.int .i64 a9, .int .i64 a9] w') [] ⟨cI a3, cI a5⟩ fun Z => ?_; refine with_tabW impl_Shape_bounds.tab4 impl_Shape_bounds.bits4 fun T Y => ?_; generalize aJ.drew = dN at a2 a3 a0 a5 HB Z ⊢; refine tz 0 17 T Y Z ?_; refine tz 1 18 T Y Z ?_; refine tz 3 20 T Y Z ?_; refine tz 4 21 T Y Z ?_; refine oo 8 2 19 31 T fun K hK => ?_; refine ky Try.func89 (impl_Vec_minus.calls aN.out) ?_; rintro dO hb; replace a2 := kBB a2 hb; replace a3 := kBB a3 hb; replace a0 := kBB a0 hb; replace a5 := kBB a5 hb; replace HB := bS HB hb; clear hb; refine hz hK ⟨cI a3, cI a5⟩ fun Z => ?_; clear hK K; refine nn 19 ?_; refine oo 8 5 22 63 T fun K hK => ?_; refine ky Try.func64 (impl_Vec_plus.calls aQ.out) ?_; rintro aY hb; replace a2 := kBB a2 hb; replace a3 := kBB a3 hb; replace a0 := kBB a0 hb; replace a5 := kBB a5 hb; replace HB := bS HB hb; clear hb; refine hz hK ⟨cI a3, cI a5⟩ fun Z => ?_; clear hK K; refine nn 22 ?_; refine pz 6 23 T ?_; refine op 8 7 255 T fun K hK => ?_; have dF : aY.cell? ⟨aB, 0, none⟩ = some (.int .i64 0) := bc a0 0; have cV := blk_frozen a0.out 0; have b5 := a6.out; have b6 := a4.out
  have b7 := a1.out; have b8 := a7.out; have b9 := aA.out; have bA := a8.out; have dG : aY.cell? ⟨aB, 1, none⟩ = some (.int .i64 0) := bc a0 1; have cW := blk_frozen a0.out 1; have bB := a6.out; have bC := a4.out; have bD := a1.out; have bE := a7.out; have bF := aA.out; have bG := a8.out; have dH : aY.cell? ⟨aB, 2, none⟩ = some (.int .i64 0) := bc a0 2; have cX := blk_frozen a0.out 2; have bH := a6.out; have bI := a4.out; have bJ := a1.out; have bK := a7.out; have bL := aA.out; have bM := a8.out; have dI : aY.cell? ⟨aB, 3, none⟩ = some (.int .i64 0) := bc a0 3; have cY := blk_frozen a0.out 3; have bN := a6.out; have bO := a4.out; have bP := a1.out; have bQ := a7.out; have bR := aA.out; have bT := a8.out; refine sq ?_ ?_ ?_; rotate_left
  ·go_simp
   rfl
  refine hz hK ⟨(cif a4 (cif a4 (cif a4 (cif a4 Z.1)))), (cif a1 (cif a1 (cif a1 (cif a1 Z.2))))⟩ fun Z => ?_; clear hK K; refine dn T ?_
  try go_wp2
  refine rz aB 85 #[.int .i64 aL, .int .i64 aM, .int .i64 aO, .int .i64 aP] (qP a0) Try.underlying85 ?_; exact ⟨qE, qL HB⟩
 case L2 =>
  obtain ⟨aK, hw_⟩ : ∃ x, x = ((b2.setCell ⟨aC, 0, none⟩ (.int .i64 a9)).setCell ⟨aC, 1, none⟩ (.int .i64 aE)) := ⟨_, rfl⟩; replace a2 : Aside0 (aK.heap[aR]? = some (.cells #[.int .i64 aD, .int .i64 a9, .int .i64 aE] 39 (0, 0))) := ⟨by rw [hw_]; exact qF a2⟩; replace a3 : Aside0 (aK.heap[aI]? = some (.cells #[.int .i64 aF, .int .i64 aG] 33 (0, 0))) := ⟨by rw [hw_]; exact qF a3⟩; replace a0 : Aside0 (aK.heap[aB]? = some (.cells #[.int .i64 0, .int .i64 0, .int .i64 0, .int .i64 0] 85 (0, 0))) := ⟨by rw [hw_]; exact qF a0⟩; replace a5 : Aside0 (aK.heap[aC]? = some (.cells #[.int .i64 a9, .int .i64 aE] 33 (0, 0))) := ⟨by rw [hw_]; exact qP a5⟩; replace HB : Aside0 (Below w.heap.size w aK) := ⟨by rw [hw_]; exact qL HB⟩; rw [← hw_]; clear hw_; replace a2 := bd a2; replace a3 := bd a3; replace a0 := bd a0; replace a5 := bd a5; replace HB := ed HB; refine sa 8 (fun w' => ci aI 0 [.int .i64 aF, .int .i64 aG] w' ∧ ci aC 0 [.int .i64 a9, .int .i64 aE] w') [] ⟨cI a3, cI a5⟩ fun Z => ?_; refine with_tabW impl_Shape_bounds.tab4 impl_Shape_bounds.bits4 fun T Y => ?_; generalize aK.drew = dP at a2 a3 a0 a5 HB Z ⊢; refine tz 0 17 T Y Z ?_; refine tz 1 18 T Y Z ?_; refine tz 3 20 T Y Z ?_; refine tz 4 21 T Y Z ?_; refine oo 8 2 19 31 T fun K hK => ?_; refine ky Try.func89 (impl_Vec_minus.calls aN.out) ?_; rintro dQ hb; replace a2 := kBB a2 hb; replace a3 := kBB a3 hb; replace a0 := kBB a0 hb; replace a5 := kBB a5 hb; replace HB := bS HB hb; clear hb; refine hz hK ⟨cI a3, cI a5⟩ fun Z => ?_; clear hK K; refine nn 19 ?_; refine oo 8 5 22 63 T fun K hK => ?_; refine ky Try.func64 (impl_Vec_plus.calls aQ.out) ?_; rintro aZ hb; replace a2 := kBB a2 hb; replace a3 := kBB a3 hb; replace a0 := kBB a0 hb; replace a5 := kBB a5 hb; replace HB := bS HB hb; clear hb; refine hz hK ⟨cI a3, cI a5⟩ fun Z => ?_; clear hK K; refine nn 22 ?_; refine pz 6 23 T ?_; refine op 8 7 255 T fun K hK => ?_; have dJ : aZ.cell? ⟨aB, 0, none⟩ = some (.int .i64 0) := bc a0 0; have cZ := blk_frozen a0.out 0; have bU := a6.out; have bV := a4.out; have bW := a1.out; have bX := a7.out
  have bY := aA.out; have bZ := a8.out; have dK : aZ.cell? ⟨aB, 1, none⟩ = some (.int .i64 0) := bc a0 1; have dA := blk_frozen a0.out 1; have c0 := a6.out; have c1 := a4.out; have c2 := a1.out; have c3 := a7.out; have c4 := aA.out; have c5 := a8.out; have dL : aZ.cell? ⟨aB, 2, none⟩ = some (.int .i64 0) := bc a0 2; have dB := blk_frozen a0.out 2; have c6 := a6.out; have c7 := a4.out; have c8 := a1.out; have c9 := a7.out; have cA := aA.out; have cB := a8.out; have dM : aZ.cell? ⟨aB, 3, none⟩ = some (.int .i64 0) := bc a0 3; have dC := blk_frozen a0.out 3; have cC := a6.out; have cD := a4.out; have cE := a1.out; have cF := a7.out; have cG := aA.out; have cH := a8.out; refine sq ?_ ?_ ?_; rotate_left
  ·go_simp
   rfl
  refine hz hK ⟨(cif a4 (cif a4 (cif a4 (cif a4 Z.1)))), (cif a1 (cif a1 (cif a1 (cif a1 Z.2))))⟩ fun Z => ?_; clear hK K; refine dn T ?_
  try go_wp2
  refine rz aB 85 #[.int .i64 aL, .int .i64 aM, .int .i64 aO, .int .i64 aP] (qP a0) Try.underlying85 ?_; exact ⟨qE, qL HB⟩

/-! ### impl_Box_has: function 94 -/
def impl_Box_has.f (a2 a3 a4 a5 a6 a7 : Int) : Option (Bool) := (impl_in.f a6 a2 a4).bind fun aG => (if aG = true then ((impl_in.f a7 a3 a5).bind fun aH => (some aH)) else (some false))
theorem impl_Box_has.calls {a2 a3 a4 a5 a6 a7 : Int} {r : Bool} {w : World} (h : impl_Box_has.f a2 a3 a4 a5 a6 a7 = some r) :
  Calls Try.prog 94 #[.agg #[.int .i64 a2, .int .i64 a3, .int .i64 a4, .int .i64 a5], .agg #[.int .i64 a6, .int .i64 a7]] w fun e w' => e = .returned (.bool r) ∧ Below w.heap.size w w' := by
 have hu85 := Try.underlying85; have hu33 := Try.underlying33; have HB := br w
 unfold impl_Box_has.f at h
 have H := h; clear h; replace H := qH H; obtain ⟨aC, aB, H⟩ := H
 by_cases a1 : aC = true; subst a1; replace H := qT H; replace H := qH H; obtain ⟨aK, aD, H⟩ := H
 obtain rfl := Option.some.inj H; refine ?L1; rotate_left; replace a1 := Bool.eq_false_iff.mpr a1; subst a1; replace H := qU H; obtain rfl := Option.some.inj H; refine ?L2
 rotate_right
 case' L1 | L2 =>
  go_enter Try.func94, Try.ntmps94; go_wp2_with (first | ((with_reducible refine gd 2 rfl ?_); refine bx 2 #[.int .i64 a2, .int .i64 a3, .int .i64 a4, .int .i64 a5] 85 ?_; intro aE hg w6 a0 hb; have aL := se hg HB; replace HB := bS HB hb; clear hb hg) | ((with_reducible refine gd 3 rfl ?_); refine bx 3 #[.int .i64 a6, .int .i64 a7] 33 ?_; intro aF hg w7 a8 hb; have aM := se hg HB; obtain ⟨a9, aA⟩ := nPB a0 hg; replace a0 := kBB a0 hb; replace HB := bS HB hb; clear hb hg; have aN := aA.out; have aO := a9.out; have hcz9_c := cz2 a8.out; have aI := blk_frozen a8.out 0; have aJ := blk_frozen a8.out 1; have hcz10_c := cz4 a0.out; have hfz10_c := fz4 a0.out) | ((with_reducible refine gc 82 rfl ?_); refine gr 13 Try.func82 (impl_in.calls (r := true) aB.out) ?_; rintro w' ⟨nd, rfl⟩) | (go_at_call 82; (with_reducible refine (impl_in.calls aD.out).mono ?_); rintro e w' ⟨rfl, ⟨nd, rfl⟩⟩) | ((with_reducible refine gc 82 rfl ?_); refine gr 13 Try.func82 (impl_in.calls (r := false) aB.out) ?_; rintro w' ⟨nd, rfl⟩))
  go_ret
 case L1 =>
  exact ⟨qE, qL HB⟩
 case L2 =>
  exact ⟨qE, qL HB⟩

/-! ### impl_Box_near: function 95 -/
def impl_Box_near.f (a4 a0 a5 a1 a6 a2 : Int) : Option (Int × Int) := some (mx a4 (mn a6 a5), mx a0 (mn a2 a1))
theorem impl_Box_near.calls {a4 a0 a5 a1 a6 a2 r1 r2 : Int} {w : World} (h : impl_Box_near.f a4 a0 a5 a1 a6 a2 = some (r1, r2)) :
  Calls Try.prog 95 #[.agg #[.int .i64 a4, .int .i64 a0, .int .i64 a5, .int .i64 a1], .agg #[.int .i64 a6, .int .i64 a2]] w fun e w' => e = .returned (.agg #[.int .i64 r1, .int .i64 r2]) ∧ Below w.heap.size w w' := by
 have hu85 := Try.underlying85; have hu33 := Try.underlying33; have HB := br w; have H : (some (mx a4 (mn a6 a5), mx a0 (mn a2 a1))) = some (r1, r2) := h; clear h; obtain ⟨ji3, hji3⟩ : ∃ j_ : Int, (mn a6 a5) = j_ := ⟨_, rfl⟩
 replace H : (some (mx a4 (ji3), mx a0 (mn a2 a1))) = some (r1, r2) := by first | (rw [hji3] at H; exact H) | (simp only [hji3] at H ⊢; exact H)
 have hji3_ : (if a5 < a6 then a5 else a6) = ji3 := hji3; obtain ⟨ji4, hji4⟩ : ∃ j_ : Int, (mx a4 (ji3)) = j_ := ⟨_, rfl⟩
 replace H : (some (ji4, mx a0 (mn a2 a1))) = some (r1, r2) := by first | (rw [hji4] at H; exact H) | (simp only [hji4] at H ⊢; exact H)
 have hji4_ : (if a4 < (ji3) then (ji3) else a4) = ji4 := hji4; obtain ⟨ji5, hji5⟩ : ∃ j_ : Int, (mn a2 a1) = j_ := ⟨_, rfl⟩
 replace H : (some (ji4, mx a0 (ji5))) = some (r1, r2) := by first | (rw [hji5] at H; exact H) | (simp only [hji5] at H ⊢; exact H)
 have hji5_ : (if a1 < a2 then a1 else a2) = ji5 := hji5; obtain ⟨ji6, hji6⟩ : ∃ j_ : Int, (mx a0 (ji5)) = j_ := ⟨_, rfl⟩
 replace H : (some (ji4, ji6)) = some (r1, r2) := by first | (rw [hji6] at H; exact H) | (simp only [hji6] at H ⊢; exact H)
 have hji6_ : (if a0 < (ji5) then (ji5) else a0) = ji6 := hji6; simp only [Option.some.injEq, Prod.mk.injEq] at H; obtain ⟨rfl, rfl⟩ := H; go_enter Try.func95, Try.ntmps95; go_wp2_with (first | ((with_reducible refine gd 2 rfl ?_); refine bx 2 #[.int .i64 a4, .int .i64 a0, .int .i64 a5, .int .i64 a1] 85 ?_; intro aG hg w7 a3 hb; have aM := se hg HB; replace HB := bS HB hb; clear hb hg) | ((with_reducible refine gd 3 rfl ?_); refine bx 3 #[.int .i64 a6, .int .i64 a2] 33 ?_; intro aH hg w8 a7 hb; have aN := se hg HB; obtain ⟨a9, aA⟩ := nPB a3 hg; replace a3 := kBB a3 hb; replace HB := bS HB hb; clear hb hg) | ((with_reducible refine gd 4 rfl ?_); refine bz2 4 33 ?_; intro aF hg w9 a8 hb; have aO := se hg HB; obtain ⟨aB, aC⟩ := nPB a3 hg; obtain ⟨aD, aE⟩ := nPB a7 hg; replace a3 := kBB a3 hb; replace a7 := kBB a7 hb; replace HB := bS HB hb; clear hb hg; have aP := a9.out; have aQ := aA.out; have aR := aB.out; have aS := aC.out; have hcz12_c := cz4 a3.out; have hfz12_c := fz4 a3.out; have aT := aD.out; have aU := aE.out; have hcz14_c := cz2 a7.out; have aI := blk_frozen a7.out 0; have aJ := blk_frozen a7.out 1; have hcz15_c := cz2 a8.out; have aK := blk_frozen a8.out 0; have aL := blk_frozen a8.out 1)); refine rz aF 33 #[.int .i64 ji4, .int .i64 ji6] (qP a8) Try.underlying33 ?_; exact ⟨by first | rfl | (simp [errW_none, errW_some] <;> rfl) | (simp only [← hji3, ← hji4, ← hji5, ← hji6]; first | rfl | (simp [errW_none, errW_some] <;> rfl)) | (simp [*, errW_none, errW_some] <;> rfl), qL HB⟩

theorem rnL_impl_boxRound {P : Program} {ops : Array Oper} {Q : Exit → Act → World → Prop} {l : List Oper} {a : Act} {W : World} (K : World → Prop) (f : K W) (h : ∀ w', K w' → wpList P ops Q l a w') : wpList P ops Q l a W := h W f

/-! ### impl_boxRound: function 70 -/
def impl_boxRound.f (k : Nat) (aC aD aE aF a8 a9 a2 : Int) : Option (Int × Int × Int × Bool) := (impl_Box_has.f aC aD aE aF a8 a9).bind fun b2 => (if b2 = true then ((impl_boxes.f k aC aD aE aF a8 a9 a8 a9).bind fun bt939 => (some (bt939.1, bt939.2.1, wrap64 (bt939.2.2.1 + a2), bt939.2.2.2))) else ((impl_Box_near.f aC aD aE aF a8 a9).bind fun bt944 => ((impl_rounds.f k bt944.1 bt944.2 0 a8 a9 a2).bind fun bt946 => (some (bt946.1, bt946.2.1, bt946.2.2.1, bt946.2.2.2)))))
def impl_boxRound.T2 : TT := (true, [([], []), ([], []), ([0, 1], [0, 1]), ([], []), ([], []), ([2, 3, 4, 2], [2, 3, 4]), ([5], [5]), ([5], [5]), ([6, 5, 0, 1, 2, 3, 4, 5, 6, 7], [6]), ([7, 8, 0, 1, 2, 3, 4, 5, 6, 7, 8], [7])])
def impl_boxRound.B2 : List Nat := [0, 0, 3, 0, 0, 31, 63, 63, 255, 511]
theorem impl_boxRound.tab2 : rtab .any (opsOf Try.f70 2) = impl_boxRound.T2 := by kernel_rfl
theorem impl_boxRound.bits2 : waitsOk impl_boxRound.T2.2 impl_boxRound.B2 = true := by kernel_rfl
theorem impl_boxRound.calls {k : Nat} {aC aD aE aF a8 a9 a2 r1 r2 r3 : Int} {r4 : Bool} {w : World} (h : impl_boxRound.f k aC aD aE aF a8 a9 a2 = some (r1, r2, r3, r4)) :
  Calls Try.prog 70 #[.agg #[.int .i64 aC, .int .i64 aD, .int .i64 aE, .int .i64 aF], .agg #[.int .i64 a8, .int .i64 a9], .int .i64 a2] w fun e w' => e = .returned (.tuple #[.agg #[.int .i64 r1, .int .i64 r2, .int .i64 r3], .bool r4]) ∧ Below w.heap.size w w' := by
 have hu85 := Try.underlying85; have hu33 := Try.underlying33; have hu35 := Try.underlying35; have HB := br w
 unfold impl_boxRound.f at h
 have H := h; clear h; replace H := qH H; obtain ⟨aZ, aT, H⟩ := H
 by_cases aG : aZ = true; subst aG; replace H := qT H; replace H := qH H; obtain ⟨⟨aI, aJ, aH, aU⟩, aK, H⟩ := H
 try dsimp only at H
 simp only [Option.some.injEq, Prod.mk.injEq] at H; obtain ⟨rfl, rfl, rfl, rfl⟩ := H; refine ?L1; rotate_left; replace aG := Bool.eq_false_iff.mpr aG; subst aG; replace H := qU H; replace H := qH H; obtain ⟨⟨aI, aJ⟩, aK, H⟩ := H
 try dsimp only at H
 replace H := qH H; obtain ⟨⟨aH, aU, b0, bK⟩, b1, H⟩ := H
 try dsimp only at H
 simp only [Option.some.injEq, Prod.mk.injEq] at H; obtain ⟨rfl, rfl, rfl, rfl⟩ := H; refine ?L2
 rotate_right
 case' L1 | L2 =>
  go_enter Try.func70, Try.ntmps70
  try go_wp2_with (first | ((with_reducible refine gd 35 rfl ?_); refine rnL_impl_boxRound (fun w_ => w_.heap[aV]? = some (.cells #[.int .i64 aI, .int .i64 aJ, .int .i64 (wrap64 (aH + a2))] 35 (0, 0)) ∧ w_.heap[aA]? = some (.cells #[.int .i64 0, .int .i64 0, .int .i64 0] 35 (0, 0)) ∧ Below w.heap.size w w_) ⟨qP aB, qF a0, qL HB⟩ ?_; clear aB a0 HB; rintro c5 ⟨n0_, n1_, n2_⟩; have aB := az n0_; have a0 := az n1_; have HB := az n2_; clear n0_ n1_ n2_; obtain ⟨z35_943_0, z35_943_1, z35_943_2⟩ := cz3 aB.out; obtain ⟨f35_943_0, f35_943_1, f35_943_2⟩ := fz3 aB.out; obtain ⟨z35_937_0, z35_937_1, z35_937_2⟩ := cz3 a0.out; obtain ⟨f35_937_0, f35_937_1, f35_937_2⟩ := fz3 a0.out; go_step) | ((with_reducible refine gd 3 rfl ?_); refine bx 3 #[.int .i64 aC, .int .i64 aD, .int .i64 aE, .int .i64 aF] 85 ?_; intro aW hg w7 a1 hb; have bL := se hg HB; replace HB := bS HB hb; clear hb hg) | ((with_reducible refine gd 4 rfl ?_); refine bx 4 #[.int .i64 a8, .int .i64 a9] 33 ?_; intro aX hg w8 a3 hb; have bM := se hg HB; obtain ⟨aL, aM⟩ := nPB a1 hg; replace a1 := kBB a1 hb; replace HB := bS HB hb; clear hb hg) | ((with_reducible refine gd 6 rfl ?_); refine bz3 6 35 ?_; intro aA hg w9 a0 hb; have bN := se hg HB; obtain ⟨a4, a6⟩ := nPB a1 hg; obtain ⟨a5, a7⟩ := nPB a3 hg; replace a1 := kBB a1 hb; replace a3 := kBB a3 hb; replace HB := bS HB hb; clear hb hg; have bO := aL.out; have bP := aM.out; have bQ := a4.out; have bR := a6.out; have hcz12_c := cz4 a1.out; have hfz12_c := fz4 a1.out; have bT := a5.out; have bU := a7.out; have hcz14_c := cz2 a3.out; have b3 := blk_frozen a3.out 0; have b4 := blk_frozen a3.out 1) | ((with_reducible refine gc 94 rfl ?_); refine gr 12 Try.func94 (impl_Box_has.calls (r := true) aT.out) ?_; rintro c9 hb; replace a1 := kBB a1 hb; replace a3 := kBB a3 hb; replace a0 := kBB a0 hb; replace HB := bS HB hb; clear hb; have hcz16_c := cz4 a1.out; have hfz16_c := fz4 a1.out; have hcz17_c := cz2 a3.out; have b5 := blk_frozen a3.out 0; have b6 := blk_frozen a3.out 1) | ((with_reducible refine gc 68 rfl ?_); refine gr 27 Try.func68 (impl_boxes.calls aK.out) ?_; rintro cA hb; replace a1 := kBB a1 hb; replace a3 := kBB a3 hb; replace a0 := kBB a0 hb; replace HB := bS HB hb; clear hb) | ((with_reducible refine gd 8 rfl ?_); refine bz3 8 35 ?_; intro aV hg cB aB hb; have bV := se hg HB; obtain ⟨aN, aO⟩ := nPB a1 hg; obtain ⟨aP, aQ⟩ := nPB a3 hg; obtain ⟨aR, aS⟩ := nPB a0 hg; replace a1 := kBB a1 hb; replace a3 := kBB a3 hb; replace a0 := kBB a0 hb; replace HB := bS HB hb; clear hb hg; have bW := aO.out; have bX := aN.out; have bY := aQ.out; have bZ := aP.out; have c0 := aS.out; have c1 := aR.out; have hcz23_c := cz3 aB.out; have hfz23_c := fz3 aB.out; have hcz24_c := cz3 a0.out; have hfz24_c := fz3 a0.out) | ((with_reducible refine gc 94 rfl ?_); refine gr 12 Try.func94 (impl_Box_has.calls (r := false) aT.out) ?_; rintro bJ hb; replace a1 := kBB a1 hb; replace a3 := kBB a3 hb; replace a0 := kBB a0 hb; replace HB := bS HB hb; clear hb))
 case L1 =>
  refine rt aA 35 #[.int .i64 aI, .int .i64 aJ, .int .i64 (wrap64 (aH + a2))] (qP a0) Try.underlying35 ?_; exact ⟨qE, qL HB⟩
 case L2 =>
  replace a1 := bd a1; replace a3 := bd a3; replace a0 := bd a0; replace HB := ed HB; refine sa 10 (fun w' => ci aW 0 [.int .i64 aC, .int .i64 aD, .int .i64 aE, .int .i64 aF] w' ∧ ci aX 0 [.int .i64 a8, .int .i64 a9] w') [] ⟨cI a1, cI a3⟩ fun Z => ?_; refine with_tabW impl_boxRound.tab2 impl_boxRound.bits2 fun T Y => ?_; generalize bJ.drew = cC at a1 a3 a0 HB Z ⊢; refine pz 4 18 T ?_; refine tz 0 14 T Y Z ?_; refine tz 1 15 T Y Z ?_; refine tz 3 17 T Y Z ?_; refine oo 10 2 16 31 T fun K hK => ?_; refine ky Try.func95 (impl_Box_near.calls aK.out) ?_; rintro cD hb; replace a1 := kBB a1 hb; replace a3 := kBB a3 hb; replace a0 := kBB a0 hb; replace HB := bS HB hb; clear hb; refine hz hK ⟨cI a1, cI a3⟩ fun Z => ?_; clear hK K; refine nn 16 ?_; refine oo 10 5 19 63 T fun K hK => ?_; refine ky Try.func67 (impl_rounds.calls b1.out) ?_; rintro aY hb; replace a1 := kBB a1 hb; replace a3 := kBB a3 hb; replace a0 := kBB a0 hb; replace HB := bS HB hb; clear hb; refine hz hK ⟨cI a1, cI a3⟩ fun Z => ?_; clear hK K; refine nn 19 ?_; refine pz 6 20 T ?_; refine pz 7 21 T ?_; refine op 10 8 511 T fun K hK => ?_; have c6 : aY.cell? ⟨aA, 0, none⟩ = some (.int .i64 0) := bc a0 0; have c2 := blk_frozen a0.out 0; have b7 := a4.out; have b8 := a5.out; have b9 := a6.out; have bA := a7.out; have c7 : aY.cell? ⟨aA, 1, none⟩ = some (.int .i64 0) := bc a0 1; have c3 := blk_frozen a0.out 1; have bB := a4.out; have bC := a5.out; have bD := a6.out; have bE := a7.out; have c8 : aY.cell? ⟨aA, 2, none⟩ = some (.int .i64 0) := bc a0 2; have c4 := blk_frozen a0.out 2; have bF := a4.out; have bG := a5.out; have bH := a6.out; have bI := a7.out; refine sq ?_ ?_ ?_; rotate_left
  ·go_simp
   rfl
  refine hz hK ⟨(cif a4 (cif a4 (cif a4 Z.1))), (cif a5 (cif a5 (cif a5 Z.2)))⟩ fun Z => ?_; clear hK K; refine pz 9 7 T ?_; refine dn T ?_
  try go_wp2
  refine rt aA 35 #[.int .i64 aH, .int .i64 aU, .int .i64 b0] (qP a0) Try.underlying35 ?_; exact ⟨qE, qL HB⟩

/-! ### impl_Vec_opposite: function 71 -/
def impl_Vec_opposite.f (a1 a2 : Int) : Option (Int × Int) := some (wrap64 (-a1), wrap64 (-a2))
theorem impl_Vec_opposite.calls {a1 a2 r1 r2 : Int} {w : World} (h : impl_Vec_opposite.f a1 a2 = some (r1, r2)) :
  Calls Try.prog 71 #[.agg #[.int .i64 a1, .int .i64 a2]] w fun e w' => e = .returned (.agg #[.int .i64 r1, .int .i64 r2]) ∧ Below w.heap.size w w' := by
 have hu33 := Try.underlying33; have HB := br w; have H : (some (wrap64 (-a1), wrap64 (-a2))) = some (r1, r2) := h; clear h; simp only [Option.some.injEq, Prod.mk.injEq] at H; obtain ⟨rfl, rfl⟩ := H; go_enter Try.func71, Try.ntmps71; go_wp2_with (first | ((with_reducible refine gd 1 rfl ?_); refine bx 1 #[.int .i64 a1, .int .i64 a2] 33 ?_; intro a7 hg w2 a0 hb; have aC := se hg HB; replace HB := bS HB hb; clear hb hg) | ((with_reducible refine gd 2 rfl ?_); refine bz2 2 33 ?_; intro a6 hg w3 a3 hb; have aD := se hg HB; obtain ⟨a4, a5⟩ := nPB a0 hg; replace a0 := kBB a0 hb; replace HB := bS HB hb; clear hb hg; have aE := a4.out; have aF := a5.out; have hcz5_c := cz2 a0.out; have a8 := blk_frozen a0.out 0; have a9 := blk_frozen a0.out 1; have hcz6_c := cz2 a3.out; have aA := blk_frozen a3.out 0; have aB := blk_frozen a3.out 1)); refine rz a6 33 #[.int .i64 (wrap64 (-a1)), .int .i64 (wrap64 (-a2))] (qP a3) Try.underlying33 ?_; exact ⟨qE, qL HB⟩
end Go.Proofs.Ytdngjedhbnoaoaa.PBig
