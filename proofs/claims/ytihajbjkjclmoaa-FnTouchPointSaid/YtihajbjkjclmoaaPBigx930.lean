/- What these functions compute, each walked once: impl_Touch; for all arguments and worlds, under the conditions that each theorem names. -/
import Derived.Test.YtihajbjkjclmoaaSq
import Derived.Test.YtihajbjkjclmoaaPBigx907
import Derived.Test.YtihajbjkjclmoaaPBigx927
import Derived.Test.YtihajbjkjclmoaaPBigx928
import Derived.Test.YtihajbjkjclmoaaPBigx929
namespace Go.Proofs.Ytihajbjkjclmoaa.PBig
open Go.RowKit Go.Proofs.YtihajbjkjclmoaaW.PrintWords Go.Proofs.YtihajbjkjclmoaaW.PrintLast Go.Proofs.YtihajbjkjclmoaaW.PrintMore
attribute [local go_sem] max2_int min2_int max_two min_two max_three min_three max_four min_four   -- for this text's walks alone
set_option linter.unusedVariables false
set_option linter.unusedSimpArgs false

/-! ### impl_Touch: function 35 -/
mutual
def impl_Touch.j0 : Nat → Bool → Int → Int → Int → Int → Int → Int → Int → Int → Int → Int → Option (Int × Int × Int × Bool)
  | 0, _, _, _, _, _, _, _, _, _, _, _ => none
  | k + 1, x29, x1062000, x1062001, x1062002, x1063000, x1063001, x1064000, x1064001, x1064002, x1065000, x1065001 => if x29 = true then (some (0, 0, 0, false)) else (if x1062000 = 1 then (impl_Touch.j1 k (x1064000 == 1) x1062000 x1062001 x1062002 x1063000 x1063001 x1064000 x1064001 x1064002 x1065000 x1065001) else (impl_Touch.j1 k false x1062000 x1062001 x1062002 x1063000 x1063001 x1064000 x1064001 x1064002 x1065000 x1065001))
def impl_Touch.j1 : Nat → Bool → Int → Int → Int → Int → Int → Int → Int → Int → Int → Int → Option (Int × Int × Int × Bool)
  | 0, _, _, _, _, _, _, _, _, _, _, _ => none
  | k + 1, x31, x1062000, x1062001, x1062002, x1063000, x1063001, x1064000, x1064001, x1064002, x1065000, x1065001 => if x31 = true then ((impl_rounds.f k x1063000 x1063001 x1062001 x1065000 x1065001 x1064001).bind fun bt1070 => (some (bt1070.1, bt1070.2.1, bt1070.2.2.1, bt1070.2.2.2))) else (if x1062000 = 2 then (impl_Touch.j2 k (x1064000 == 2) x1062000 x1062001 x1062002 x1063000 x1063001 x1064000 x1064001 x1064002 x1065000 x1065001) else (impl_Touch.j2 k false x1062000 x1062001 x1062002 x1063000 x1063001 x1064000 x1064001 x1064002 x1065000 x1065001))
def impl_Touch.j2 : Nat → Bool → Int → Int → Int → Int → Int → Int → Int → Int → Int → Int → Option (Int × Int × Int × Bool)
  | 0, _, _, _, _, _, _, _, _, _, _, _ => none
  | k + 1, x49, x1062000, x1062001, x1062002, x1063000, x1063001, x1064000, x1064001, x1064002, x1065000, x1065001 => if x49 = true then ((impl_Shape_bounds.f x1062000 x1062001 x1062002 x1063000 x1063001).bind fun bt1074 => ((impl_Shape_bounds.f x1064000 x1064001 x1064002 x1065000 x1065001).bind fun bt1078 => ((impl_boxes.f k bt1074.1 bt1074.2.1 bt1074.2.2.1 bt1074.2.2.2 bt1078.1 bt1078.2.1 bt1078.2.2.1 bt1078.2.2.2).bind fun bt1082 => (some (bt1082.1, bt1082.2.1, bt1082.2.2.1, bt1082.2.2.2))))) else (if x1062000 = 2 then ((impl_Shape_bounds.f x1062000 x1062001 x1062002 x1063000 x1063001).bind fun bt1086 => ((impl_boxRound.f k bt1086.1 bt1086.2.1 bt1086.2.2.1 bt1086.2.2.2 x1065000 x1065001 x1064001).bind fun bt1090 => (some (bt1090.1, bt1090.2.1, bt1090.2.2.1, bt1090.2.2.2)))) else ((impl_Shape_bounds.f x1064000 x1064001 x1064002 x1065000 x1065001).bind fun bt1094 => ((impl_boxRound.f k bt1094.1 bt1094.2.1 bt1094.2.2.1 bt1094.2.2.2 x1063000 x1063001 x1062001).bind fun bt1098 => ((impl_Vec_opposite.f bt1098.1 bt1098.2.1).bind fun bt1103 => (some (bt1103.1, bt1103.2, bt1098.2.2.1, bt1098.2.2.2))))))
end
def impl_Touch.f (k : Nat) (a0_0 : Int) (a0_1 : Int) (a0_2 : Int) (a1_0 : Int) (a1_1 : Int) (a2_0 : Int) (a2_1 : Int) (a2_2 : Int) (a3_0 : Int) (a3_1 : Int) : Option (Int × Int × Int × Bool) := (impl_ShapeOk.f a0_0 a0_1 a0_2).bind fun t1066 => (if t1066 = true then ((impl_ShapeOk.f a2_0 a2_1 a2_2).bind fun t1067 => (if t1067 = true then ((impl_isPlace.f a1_0 a1_1).bind fun t1068 => (if t1068 = true then ((impl_isPlace.f a3_0 a3_1).bind fun t1069 => (impl_Touch.j0 k (!t1069) a0_0 a0_1 a0_2 a1_0 a1_1 a2_0 a2_1 a2_2 a3_0 a3_1)) else (impl_Touch.j0 k true a0_0 a0_1 a0_2 a1_0 a1_1 a2_0 a2_1 a2_2 a3_0 a3_1))) else (impl_Touch.j0 k true a0_0 a0_1 a0_2 a1_0 a1_1 a2_0 a2_1 a2_2 a3_0 a3_1))) else (impl_Touch.j0 k true a0_0 a0_1 a0_2 a1_0 a1_1 a2_0 a2_1 a2_2 a3_0 a3_1))
theorem impl_Touch.mono_l : ∀ k, (∀ y0 y1 y2 y3 y4 y5 y6 y7 y8 y9 y10, LeO (impl_Touch.j0 k y0 y1 y2 y3 y4 y5 y6 y7 y8 y9 y10) (impl_Touch.j0 (k + 1) y0 y1 y2 y3 y4 y5 y6 y7 y8 y9 y10)) ∧ (∀ y0 y1 y2 y3 y4 y5 y6 y7 y8 y9 y10, LeO (impl_Touch.j1 k y0 y1 y2 y3 y4 y5 y6 y7 y8 y9 y10) (impl_Touch.j1 (k + 1) y0 y1 y2 y3 y4 y5 y6 y7 y8 y9 y10)) ∧ (∀ y0 y1 y2 y3 y4 y5 y6 y7 y8 y9 y10, LeO (impl_Touch.j2 k y0 y1 y2 y3 y4 y5 y6 y7 y8 y9 y10) (impl_Touch.j2 (k + 1) y0 y1 y2 y3 y4 y5 y6 y7 y8 y9 y10))
  | 0 => ⟨fun _ _ _ _ _ _ _ _ _ _ _ r h => by simp [impl_Touch.j0] at h, fun _ _ _ _ _ _ _ _ _ _ _ r h => by simp [impl_Touch.j1] at h, fun _ _ _ _ _ _ _ _ _ _ _ r h => by simp [impl_Touch.j2] at h⟩
  | k + 1 => by
    obtain ⟨ih0, ih1, ih2⟩ := impl_Touch.mono_l k
    refine ⟨?_, ?_, ?_⟩
    · intro y0 y1 y2 y3 y4 y5 y6 y7 y8 y9 y10
      unfold impl_Touch.j0
      repeat' first
      | (with_reducible exact ih0 _ _ _ _ _ _ _ _ _ _ _)
      | (with_reducible exact ih1 _ _ _ _ _ _ _ _ _ _ _)
      | (with_reducible exact ih2 _ _ _ _ _ _ _ _ _ _ _)
      | (with_reducible exact impl_boxRound.mono _ _ _ _ _ _ _ _)
      | (with_reducible exact impl_boxes.mono _ _ _ _ _ _ _ _ _)
      | (with_reducible exact impl_rounds.mono _ _ _ _ _ _ _)
      | (with_reducible exact LeO.refl _)
      | (with_reducible exact LeO.none _)
      | (with_reducible refine LeO.ite ?_ ?_)
      | (with_reducible refine LeO.bind ?_ (fun _ => ?_))
    · intro y0 y1 y2 y3 y4 y5 y6 y7 y8 y9 y10
      unfold impl_Touch.j1
      repeat' first
      | (with_reducible exact ih0 _ _ _ _ _ _ _ _ _ _ _)
      | (with_reducible exact ih1 _ _ _ _ _ _ _ _ _ _ _)
      | (with_reducible exact ih2 _ _ _ _ _ _ _ _ _ _ _)
      | (with_reducible exact impl_boxRound.mono _ _ _ _ _ _ _ _)
      | (with_reducible exact impl_boxes.mono _ _ _ _ _ _ _ _ _)
      | (with_reducible exact impl_rounds.mono _ _ _ _ _ _ _)
      | (with_reducible exact LeO.refl _)
      | (with_reducible exact LeO.none _)
      | (with_reducible refine LeO.ite ?_ ?_)
      | (with_reducible refine LeO.bind ?_ (fun _ => ?_))
    · intro y0 y1 y2 y3 y4 y5 y6 y7 y8 y9 y10
      unfold impl_Touch.j2
      repeat' first
      | (with_reducible exact ih0 _ _ _ _ _ _ _ _ _ _ _)
      | (with_reducible exact ih1 _ _ _ _ _ _ _ _ _ _ _)
      | (with_reducible exact ih2 _ _ _ _ _ _ _ _ _ _ _)
      | (with_reducible exact impl_boxRound.mono _ _ _ _ _ _ _ _)
      | (with_reducible exact impl_boxes.mono _ _ _ _ _ _ _ _ _)
      | (with_reducible exact impl_rounds.mono _ _ _ _ _ _ _)
      | (with_reducible exact LeO.refl _)
      | (with_reducible exact LeO.none _)
      | (with_reducible refine LeO.ite ?_ ?_)
      | (with_reducible refine LeO.bind ?_ (fun _ => ?_))
theorem impl_Touch.mono : ∀ a0 a1 a2 a3 a4 a5 a6 a7 a8 a9 k, LeO (impl_Touch.f k a0 a1 a2 a3 a4 a5 a6 a7 a8 a9) (impl_Touch.f (k + 1) a0 a1 a2 a3 a4 a5 a6 a7 a8 a9) := by
  intro a0 a1 a2 a3 a4 a5 a6 a7 a8 a9 k
  obtain ⟨ih0, ih1, ih2⟩ := impl_Touch.mono_l k
  unfold impl_Touch.f
  repeat' first
      | (with_reducible exact ih0 _ _ _ _ _ _ _ _ _ _ _)
      | (with_reducible exact ih1 _ _ _ _ _ _ _ _ _ _ _)
      | (with_reducible exact ih2 _ _ _ _ _ _ _ _ _ _ _)
      | (with_reducible exact impl_boxRound.mono _ _ _ _ _ _ _ _)
      | (with_reducible exact impl_boxes.mono _ _ _ _ _ _ _ _ _)
      | (with_reducible exact impl_rounds.mono _ _ _ _ _ _ _)
      | (with_reducible exact LeO.refl _)
      | (with_reducible exact LeO.none _)
      | (with_reducible refine LeO.ite ?_ ?_)
      | (with_reducible refine LeO.bind ?_ (fun _ => ?_))
def impl_Touch.T6 : Bool × List (List Nat × List Nat) := (true, [([], []), ([], []), ([0, 1], [0, 1]), ([], []), ([], []), ([3, 4, 2], [3, 4]), ([2, 5, 5], [2, 5]), ([6], [6]), ([6], [6]), ([7, 6, 0, 1, 2, 3, 4, 5, 6, 7, 8], [7]), ([8, 9, 0, 1, 2, 3, 4, 5, 6, 7, 8, 9], [8])])
def impl_Touch.B6 : List Nat := [0, 0, 3, 0, 0, 31, 63, 127, 127, 511, 1023]
theorem impl_Touch.tab6 : rtab .any (opsOf Try.f35 6) = impl_Touch.T6 := by kernel_rfl
theorem impl_Touch.bits6 : waitsOk impl_Touch.T6.2 impl_Touch.B6 = true := by kernel_rfl
def impl_Touch.T8 : Bool × List (List Nat × List Nat) := (true, [([], []), ([], []), ([0, 1], [0, 1]), ([], []), ([], []), ([4], [4]), ([2, 3, 5, 2], [2, 3, 5]), ([6], [6]), ([6], [6]), ([7, 6, 0, 1, 2, 3, 4, 5, 6, 7, 8], [7]), ([8, 9, 0, 1, 2, 3, 4, 5, 6, 7, 8, 9], [8])])
def impl_Touch.B8 : List Nat := [0, 0, 3, 0, 0, 16, 63, 127, 127, 511, 1023]
theorem impl_Touch.tab8 : rtab .any (opsOf Try.f35 8) = impl_Touch.T8 := by kernel_rfl
theorem impl_Touch.bits8 : waitsOk impl_Touch.T8.2 impl_Touch.B8 = true := by kernel_rfl
def impl_Touch.T9 : Bool × List (List Nat × List Nat) := (true, [([], []), ([], []), ([0, 1], [0, 1]), ([], []), ([], []), ([4], [4]), ([2, 3, 5, 2], [2, 3, 5]), ([6], [6]), ([7], [7]), ([7], [7]), ([], []), ([10, 8, 6, 0, 1, 2, 3, 4, 5, 6, 7, 8, 10], [8, 10]), ([9, 11, 0, 1, 2, 3, 4, 5, 6, 7, 8, 9, 10, 11], [9])])
def impl_Touch.B9 : List Nat := [0, 0, 3, 0, 0, 16, 63, 127, 255, 255, 0, 1535, 4095]
theorem impl_Touch.tab9 : rtab .any (opsOf Try.f35 9) = impl_Touch.T9 := by kernel_rfl
theorem impl_Touch.bits9 : waitsOk impl_Touch.T9.2 impl_Touch.B9 = true := by kernel_rfl
set_option maxHeartbeats 8000000 in
set_option maxRecDepth 100000 in
theorem impl_Touch.calls (k : Nat) (a0_0 : Int) (a0_1 : Int) (a0_2 : Int) (a1_0 : Int) (a1_1 : Int) (a2_0 : Int) (a2_1 : Int) (a2_2 : Int) (a3_0 : Int) (a3_1 : Int) (r1 : Int) (r2 : Int) (r3 : Int) (r4 : Bool) (w : World) (h : impl_Touch.f k a0_0 a0_1 a0_2 a1_0 a1_1 a2_0 a2_1 a2_2 a3_0 a3_1 = some (r1, r2, r3, r4)) :
    Calls Try.prog 35 #[.agg #[.int .i64 a0_0, .int .i64 a0_1, .int .i64 a0_2], .agg #[.int .i64 a1_0, .int .i64 a1_1], .agg #[.int .i64 a2_0, .int .i64 a2_1, .int .i64 a2_2], .agg #[.int .i64 a3_0, .int .i64 a3_1]] w fun e w' => e = .returned (.tuple #[.agg #[.int .i64 r1, .int .i64 r2, .int .i64 r3], .bool r4]) ∧ Below w.heap.size w w' := by
  have hu38 := Try.underlying38
  have hu24 := Try.underlying24
  have hu56 := Try.underlying56
  have HB := az (Below.refl w.heap.size w)
  have H : ((impl_ShapeOk.f a0_0 a0_1 a0_2).bind fun t1066 => (if t1066 = true then ((impl_ShapeOk.f a2_0 a2_1 a2_2).bind fun t1067 => (if t1067 = true then ((impl_isPlace.f a1_0 a1_1).bind fun t1068 => (if t1068 = true then ((impl_isPlace.f a3_0 a3_1).bind fun t1069 => (impl_Touch.j0 k (!t1069) a0_0 a0_1 a0_2 a1_0 a1_1 a2_0 a2_1 a2_2 a3_0 a3_1)) else (impl_Touch.j0 k true a0_0 a0_1 a0_2 a1_0 a1_1 a2_0 a2_1 a2_2 a3_0 a3_1))) else (impl_Touch.j0 k true a0_0 a0_1 a0_2 a1_0 a1_1 a2_0 a2_1 a2_2 a3_0 a3_1))) else (impl_Touch.j0 k true a0_0 a0_1 a0_2 a1_0 a1_1 a2_0 a2_1 a2_2 a3_0 a3_1))) = some (r1, r2, r3, r4) := h
  clear h
  have HC5 := az H
  clear H
  go_enter Try.func35, Try.ntmps35
  go_upto_region 1 with (first | ((with_reducible refine gate_dst (N := 4) rfl ?_); refine bx (N := 4) (cs := #[.int .i64 a0_0, .int .i64 a0_1, .int .i64 a0_2]) (t := 38) ?_; intro gb1061 hg w6 hbox hb; have BK1061 := az hbox; have GW1061 := az ((gE hg (qL HB) : w.heap.size ≤ gb1061)); have GE1061 := GW1061; replace HB := bS HB hb; clear hb hbox hg) | ((with_reducible refine gate_dst (N := 5) rfl ?_); refine bx (N := 5) (cs := #[.int .i64 a1_0, .int .i64 a1_1]) (t := 24) ?_; intro gb1062 hg w7 hbox hb; have BK1062 := az hbox; have GW1062 := az ((gE hg (qL HB) : w.heap.size ≤ gb1062)); have GE1062 := GW1062; obtain ⟨NB1061_1062, NB1062_1061⟩ := nPB BK1061 hg; replace BK1061 := kBB BK1061 hb; replace HB := bS HB hb; clear hb hbox hg) | ((with_reducible refine gate_dst (N := 6) rfl ?_); refine bx (N := 6) (cs := #[.int .i64 a2_0, .int .i64 a2_1, .int .i64 a2_2]) (t := 38) ?_; intro gb1063 hg w8 hbox hb; have BK1063 := az hbox; have GW1063 := az ((gE hg (qL HB) : w.heap.size ≤ gb1063)); have GE1063 := GW1063; obtain ⟨NB1061_1063, NB1063_1061⟩ := nPB BK1061 hg; obtain ⟨NB1062_1063, NB1063_1062⟩ := nPB BK1062 hg; replace BK1061 := kBB BK1061 hb; replace BK1062 := kBB BK1062 hb; replace HB := bS HB hb; clear hb hbox hg) | ((with_reducible refine gate_dst (N := 7) rfl ?_); refine bx (N := 7) (cs := #[.int .i64 a3_0, .int .i64 a3_1]) (t := 24) ?_; intro gb1064 hg w9 hbox hb; have BK1064 := az hbox; have GW1064 := az ((gE hg (qL HB) : w.heap.size ≤ gb1064)); have GE1064 := GW1064; obtain ⟨NB1061_1064, NB1064_1061⟩ := nPB BK1061 hg; obtain ⟨NB1062_1064, NB1064_1062⟩ := nPB BK1062 hg; obtain ⟨NB1063_1064, NB1064_1063⟩ := nPB BK1063 hg; replace BK1061 := kBB BK1061 hb; replace BK1062 := kBB BK1062 hb; replace BK1063 := kBB BK1063 hb; replace HB := bS HB hb; clear hb hbox hg) | ((with_reducible refine gate_dst (N := 8) rfl ?_); refine bx (N := 8) (cs := #[.int .i64 0, .int .i64 0, .int .i64 0]) (t := 56) ?_; intro gb1065 hg w10 hbox hb; have BK1065 := az hbox; have GW1065 := az ((gE hg (qL HB) : w.heap.size ≤ gb1065)); have GE1065 := GW1065; obtain ⟨NB1061_1065, NB1065_1061⟩ := nPB BK1061 hg; obtain ⟨NB1062_1065, NB1065_1062⟩ := nPB BK1062 hg; obtain ⟨NB1063_1065, NB1065_1063⟩ := nPB BK1063 hg; obtain ⟨NB1064_1065, NB1065_1064⟩ := nPB BK1064 hg; replace BK1061 := kBB BK1061 hb; replace BK1062 := kBB BK1062 hb; replace BK1063 := kBB BK1063 hb; replace BK1064 := kBB BK1064 hb; replace HB := bS HB hb; clear hb hbox hg))
  (try simp only [Act.put, List.setIfInBounds_toArray, List.set_cons_zero, List.set_cons_succ])
  go_cut [29] (fun v29 wc => ∃ (kq : Nat) (x29_4 : Bool), v29 = .bool x29_4 ∧ Aside0 (impl_Touch.j0 kq x29_4 a0_0 a0_1 a0_2 a1_0 a1_1 a2_0 a2_1 a2_2 a3_0 a3_1 = some (r1, r2, r3, r4)) ∧ Aside0 (kq ≤ k) ∧ Aside0 (wc.heap[gb1061]? = some (.cells #[.int .i64 a0_0, .int .i64 a0_1, .int .i64 a0_2] 38 (0, 0))) ∧ Aside0 (wc.heap[gb1062]? = some (.cells #[.int .i64 a1_0, .int .i64 a1_1] 24 (0, 0))) ∧ Aside0 (wc.heap[gb1063]? = some (.cells #[.int .i64 a2_0, .int .i64 a2_1, .int .i64 a2_2] 38 (0, 0))) ∧ Aside0 (wc.heap[gb1064]? = some (.cells #[.int .i64 a3_0, .int .i64 a3_1] 24 (0, 0))) ∧ Aside0 (wc.heap[gb1065]? = some (.cells #[.int .i64 0, .int .i64 0, .int .i64 0] 56 (0, 0))) ∧ Aside0 (Below w.heap.size w wc))
  case first =>
    have H := HC5.out
    clear HC5
    replace H := qH H
    obtain ⟨t1066, A11, H⟩ := H
    try dsimp only at H
    by_cases c12 : t1066 = true
    · subst c12
      replace H := qT H
      replace H := qH H
      obtain ⟨t1067, A13, H⟩ := H
      try dsimp only at H
      by_cases c14 : t1067 = true
      · subst c14
        replace H := qT H
        replace H := qH H
        obtain ⟨t1068, A15, H⟩ := H
        try dsimp only at H
        by_cases c16 : t1068 = true
        · subst c16
          replace H := qT H
          replace H := qH H
          obtain ⟨t1069, A17, H⟩ := H
          try dsimp only at H
          have H' := az H
          clear H
          have hnb18 := NB1061_1062.out
          have hnc18 := NB1062_1061.out
          have hnb19 := NB1061_1063.out
          have hnc19 := NB1063_1061.out
          have hnb20 := NB1061_1064.out
          have hnc20 := NB1064_1061.out
          have hnb21 := NB1061_1065.out
          have hnc21 := NB1065_1061.out
          obtain ⟨hcz22_0, hcz22_1, hcz22_2⟩ := cz3 BK1061.out
          obtain ⟨hfz22_0, hfz22_1, hfz22_2⟩ := fz3 BK1061.out
          go_wp2_with (first | ((with_reducible refine gate_callee (f := 67) rfl ?_); refine gl (some 13) Try.func67 #[.agg #[.int .i64 a0_0, .int .i64 a0_1, .int .i64 a0_2]] ?_; (with_reducible refine (impl_ShapeOk.calls a0_0 a0_1 a0_2 true _ A11.out).mono ?_); rintro e w23 ⟨rfl, hb⟩; refine ⟨_, rfl, ?_⟩; replace BK1061 := kBB BK1061 hb; replace BK1062 := kBB BK1062 hb; replace BK1063 := kBB BK1063 hb; replace BK1064 := kBB BK1064 hb; replace BK1065 := kBB BK1065 hb; replace HB := bS HB hb; clear hb; have hnb24 := NB1063_1062.out; have hnc24 := NB1062_1063.out; have hnb25 := NB1063_1064.out; have hnc25 := NB1064_1063.out; have hnb26 := NB1063_1065.out; have hnc26 := NB1065_1063.out; obtain ⟨hcz27_0, hcz27_1, hcz27_2⟩ := cz3 BK1063.out; obtain ⟨hfz27_0, hfz27_1, hfz27_2⟩ := fz3 BK1063.out) | (go_at_call 67; (with_reducible refine (impl_ShapeOk.calls a2_0 a2_1 a2_2 true _ A13.out).mono ?_); rintro e w28 ⟨rfl, hb⟩; replace BK1061 := kBB BK1061 hb; replace BK1062 := kBB BK1062 hb; replace BK1063 := kBB BK1063 hb; replace BK1064 := kBB BK1064 hb; replace BK1065 := kBB BK1065 hb; replace HB := bS HB hb; clear hb; have hnb29 := NB1062_1064.out; have hnc29 := NB1064_1062.out; have hnb30 := NB1062_1065.out; have hnc30 := NB1065_1062.out; obtain ⟨hcz31_0, hcz31_1⟩ := cz2 BK1062.out; have hfz31_0 := blk_frozen BK1062.out 0; have hfz31_1 := blk_frozen BK1062.out 1) | (go_at_call 68; (with_reducible refine (impl_isPlace.calls a1_0 a1_1 true _ A15.out).mono ?_); rintro e w32 ⟨rfl, hb⟩; replace BK1061 := kBB BK1061 hb; replace BK1062 := kBB BK1062 hb; replace BK1063 := kBB BK1063 hb; replace BK1064 := kBB BK1064 hb; replace BK1065 := kBB BK1065 hb; replace HB := bS HB hb; clear hb; have hnb33 := NB1064_1065.out; have hnc33 := NB1065_1064.out; obtain ⟨hcz34_0, hcz34_1⟩ := cz2 BK1064.out; have hfz34_0 := blk_frozen BK1064.out 0; have hfz34_1 := blk_frozen BK1064.out 1) | (go_at_call 68; (with_reducible refine (impl_isPlace.calls a3_0 a3_1 t1069 _ A17.out).mono ?_); rintro e w35 ⟨rfl, hb⟩; replace BK1061 := kBB BK1061 hb; replace BK1062 := kBB BK1062 hb; replace BK1063 := kBB BK1063 hb; replace BK1064 := kBB BK1064 hb; replace BK1065 := kBB BK1065 hb; replace HB := bS HB hb; clear hb))
          go_meet
          case rel => exact ⟨_, (!t1069), (by first | rfl | (simp; done) | (simp [*]; done)), H', ⟨by first | omega | exact Nat.le_refl _⟩, ⟨qF BK1061⟩, ⟨qF BK1062⟩, ⟨qF BK1063⟩, ⟨qF BK1064⟩, ⟨qF BK1065⟩, ⟨qL HB⟩⟩
        replace c16 := Bool.eq_false_iff.mpr c16
        subst c16
        replace H := qU H
        have H' := az H
        clear H
        have hnb36 := NB1061_1062.out
        have hnc36 := NB1062_1061.out
        have hnb37 := NB1061_1063.out
        have hnc37 := NB1063_1061.out
        have hnb38 := NB1061_1064.out
        have hnc38 := NB1064_1061.out
        have hnb39 := NB1061_1065.out
        have hnc39 := NB1065_1061.out
        obtain ⟨hcz40_0, hcz40_1, hcz40_2⟩ := cz3 BK1061.out
        obtain ⟨hfz40_0, hfz40_1, hfz40_2⟩ := fz3 BK1061.out
        go_wp2_with (first | ((with_reducible refine gate_callee (f := 67) rfl ?_); refine gl (some 13) Try.func67 #[.agg #[.int .i64 a0_0, .int .i64 a0_1, .int .i64 a0_2]] ?_; (with_reducible refine (impl_ShapeOk.calls a0_0 a0_1 a0_2 true _ A11.out).mono ?_); rintro e w41 ⟨rfl, hb⟩; refine ⟨_, rfl, ?_⟩; replace BK1061 := kBB BK1061 hb; replace BK1062 := kBB BK1062 hb; replace BK1063 := kBB BK1063 hb; replace BK1064 := kBB BK1064 hb; replace BK1065 := kBB BK1065 hb; replace HB := bS HB hb; clear hb; have hnb42 := NB1063_1062.out; have hnc42 := NB1062_1063.out; have hnb43 := NB1063_1064.out; have hnc43 := NB1064_1063.out; have hnb44 := NB1063_1065.out; have hnc44 := NB1065_1063.out; obtain ⟨hcz45_0, hcz45_1, hcz45_2⟩ := cz3 BK1063.out; obtain ⟨hfz45_0, hfz45_1, hfz45_2⟩ := fz3 BK1063.out) | (go_at_call 67; (with_reducible refine (impl_ShapeOk.calls a2_0 a2_1 a2_2 true _ A13.out).mono ?_); rintro e w46 ⟨rfl, hb⟩; replace BK1061 := kBB BK1061 hb; replace BK1062 := kBB BK1062 hb; replace BK1063 := kBB BK1063 hb; replace BK1064 := kBB BK1064 hb; replace BK1065 := kBB BK1065 hb; replace HB := bS HB hb; clear hb; have hnb47 := NB1062_1064.out; have hnc47 := NB1064_1062.out; have hnb48 := NB1062_1065.out; have hnc48 := NB1065_1062.out; obtain ⟨hcz49_0, hcz49_1⟩ := cz2 BK1062.out; have hfz49_0 := blk_frozen BK1062.out 0; have hfz49_1 := blk_frozen BK1062.out 1) | (go_at_call 68; (with_reducible refine (impl_isPlace.calls a1_0 a1_1 false _ A15.out).mono ?_); rintro e w50 ⟨rfl, hb⟩; replace BK1061 := kBB BK1061 hb; replace BK1062 := kBB BK1062 hb; replace BK1063 := kBB BK1063 hb; replace BK1064 := kBB BK1064 hb; replace BK1065 := kBB BK1065 hb; replace HB := bS HB hb; clear hb))
        go_meet
        case rel => exact ⟨_, (true), (by first | rfl | (simp; done) | (simp [*]; done)), H', ⟨by first | omega | exact Nat.le_refl _⟩, ⟨qF BK1061⟩, ⟨qF BK1062⟩, ⟨qF BK1063⟩, ⟨qF BK1064⟩, ⟨qF BK1065⟩, ⟨qL HB⟩⟩
      replace c14 := Bool.eq_false_iff.mpr c14
      subst c14
      replace H := qU H
      have H' := az H
      clear H
      have hnb51 := NB1061_1062.out
      have hnc51 := NB1062_1061.out
      have hnb52 := NB1061_1063.out
      have hnc52 := NB1063_1061.out
      have hnb53 := NB1061_1064.out
      have hnc53 := NB1064_1061.out
      have hnb54 := NB1061_1065.out
      have hnc54 := NB1065_1061.out
      obtain ⟨hcz55_0, hcz55_1, hcz55_2⟩ := cz3 BK1061.out
      obtain ⟨hfz55_0, hfz55_1, hfz55_2⟩ := fz3 BK1061.out
      go_wp2_with (first | ((with_reducible refine gate_callee (f := 67) rfl ?_); refine gl (some 13) Try.func67 #[.agg #[.int .i64 a0_0, .int .i64 a0_1, .int .i64 a0_2]] ?_; (with_reducible refine (impl_ShapeOk.calls a0_0 a0_1 a0_2 true _ A11.out).mono ?_); rintro e w56 ⟨rfl, hb⟩; refine ⟨_, rfl, ?_⟩; replace BK1061 := kBB BK1061 hb; replace BK1062 := kBB BK1062 hb; replace BK1063 := kBB BK1063 hb; replace BK1064 := kBB BK1064 hb; replace BK1065 := kBB BK1065 hb; replace HB := bS HB hb; clear hb; have hnb57 := NB1063_1062.out; have hnc57 := NB1062_1063.out; have hnb58 := NB1063_1064.out; have hnc58 := NB1064_1063.out; have hnb59 := NB1063_1065.out; have hnc59 := NB1065_1063.out; obtain ⟨hcz60_0, hcz60_1, hcz60_2⟩ := cz3 BK1063.out; obtain ⟨hfz60_0, hfz60_1, hfz60_2⟩ := fz3 BK1063.out) | (go_at_call 67; (with_reducible refine (impl_ShapeOk.calls a2_0 a2_1 a2_2 false _ A13.out).mono ?_); rintro e w61 ⟨rfl, hb⟩; replace BK1061 := kBB BK1061 hb; replace BK1062 := kBB BK1062 hb; replace BK1063 := kBB BK1063 hb; replace BK1064 := kBB BK1064 hb; replace BK1065 := kBB BK1065 hb; replace HB := bS HB hb; clear hb))
      go_meet
      case rel => exact ⟨_, (true), (by first | rfl | (simp; done) | (simp [*]; done)), H', ⟨by first | omega | exact Nat.le_refl _⟩, ⟨qF BK1061⟩, ⟨qF BK1062⟩, ⟨qF BK1063⟩, ⟨qF BK1064⟩, ⟨qF BK1065⟩, ⟨qL HB⟩⟩
    replace c12 := Bool.eq_false_iff.mpr c12
    subst c12
    replace H := qU H
    have H' := az H
    clear H
    have hnb62 := NB1061_1062.out
    have hnc62 := NB1062_1061.out
    have hnb63 := NB1061_1063.out
    have hnc63 := NB1063_1061.out
    have hnb64 := NB1061_1064.out
    have hnc64 := NB1064_1061.out
    have hnb65 := NB1061_1065.out
    have hnc65 := NB1065_1061.out
    obtain ⟨hcz66_0, hcz66_1, hcz66_2⟩ := cz3 BK1061.out
    obtain ⟨hfz66_0, hfz66_1, hfz66_2⟩ := fz3 BK1061.out
    go_wp2_with (first | ((with_reducible refine gate_callee (f := 67) rfl ?_); refine gl (some 13) Try.func67 #[.agg #[.int .i64 a0_0, .int .i64 a0_1, .int .i64 a0_2]] ?_; (with_reducible refine (impl_ShapeOk.calls a0_0 a0_1 a0_2 false _ A11.out).mono ?_); rintro e w67 ⟨rfl, hb⟩; refine ⟨_, rfl, ?_⟩; replace BK1061 := kBB BK1061 hb; replace BK1062 := kBB BK1062 hb; replace BK1063 := kBB BK1063 hb; replace BK1064 := kBB BK1064 hb; replace BK1065 := kBB BK1065 hb; replace HB := bS HB hb; clear hb))
    go_meet
    case rel => exact ⟨_, (true), (by first | rfl | (simp; done) | (simp [*]; done)), H', ⟨by first | omega | exact Nat.le_refl _⟩, ⟨qF BK1061⟩, ⟨qF BK1062⟩, ⟨qF BK1063⟩, ⟨qF BK1064⟩, ⟨qF BK1065⟩, ⟨qL HB⟩⟩
  case rest =>
    clear HC5
    obtain ⟨kq, x29_4, rfl, HA, HJ4, BK1061, BK1062, BK1063, BK1064, BK1065, HB⟩ := hcut
    cases kq with
    | zero => exact absurd HA.out (by simp [impl_Touch.j0])
    | succ kj4 => ?_
    have H := HA.out
    clear HA
    simp only [impl_Touch.j0] at H
    by_cases c68 : x29_4 = true
    · subst c68
      replace H := qT H
      simp only [Option.some.injEq, Prod.mk.injEq] at H
      obtain ⟨rfl, rfl, rfl, rfl⟩ := H
      have hnb69 := NB1065_1061.out
      have hnc69 := NB1061_1065.out
      have hnb70 := NB1065_1062.out
      have hnc70 := NB1062_1065.out
      have hnb71 := NB1065_1063.out
      have hnc71 := NB1063_1065.out
      have hnb72 := NB1065_1064.out
      have hnc72 := NB1064_1065.out
      obtain ⟨hcz73_0, hcz73_1, hcz73_2⟩ := cz3 BK1065.out
      obtain ⟨hfz73_0, hfz73_1, hfz73_2⟩ := fz3 BK1065.out
      go_wp2
      refine bodyPost_ret (results_ct rfl _ _ gb1065 56 #[.int .i64 0, .int .i64 0, .int .i64 0] (0, 0) _ rfl (qP BK1065) Try.underlying56 rfl (by kernel_rfl)) rfl ?_
      exact ⟨qE, qL HB⟩
    replace c68 := Bool.eq_false_iff.mpr c68
    subst c68
    replace H := qU H
    have HC74 := az H
    clear H
    go_upto_region 3 with (fail)
    go_cut [31] (fun v31 wc => ∃ (kq : Nat) (x31_73 : Bool), v31 = .bool x31_73 ∧ Aside0 (impl_Touch.j1 kq x31_73 a0_0 a0_1 a0_2 a1_0 a1_1 a2_0 a2_1 a2_2 a3_0 a3_1 = some (r1, r2, r3, r4)) ∧ Aside0 (kq ≤ kj4) ∧ Aside0 (wc.heap[gb1061]? = some (.cells #[.int .i64 a0_0, .int .i64 a0_1, .int .i64 a0_2] 38 (0, 0))) ∧ Aside0 (wc.heap[gb1062]? = some (.cells #[.int .i64 a1_0, .int .i64 a1_1] 24 (0, 0))) ∧ Aside0 (wc.heap[gb1063]? = some (.cells #[.int .i64 a2_0, .int .i64 a2_1, .int .i64 a2_2] 38 (0, 0))) ∧ Aside0 (wc.heap[gb1064]? = some (.cells #[.int .i64 a3_0, .int .i64 a3_1] 24 (0, 0))) ∧ Aside0 (wc.heap[gb1065]? = some (.cells #[.int .i64 0, .int .i64 0, .int .i64 0] 56 (0, 0))) ∧ Aside0 (Below w.heap.size w wc))
    case first =>
      have H := HC74.out
      clear HC74
      by_cases c75 : a0_0 = 1
      · rw [if_pos c75] at H
        have c75b0 : (a0_0 == 1) = true := beq_iff_eq.mpr c75
        have c75b1 : (a0_0 != 1) = false := bne_eq_false_iff_eq.mpr c75
        clear c75
        (first | rw [c75b0] | (simp only [i64_w, i32_w]; rw [c75b0]) | skip)
        have H' := az H
        clear H
        have hnb76 := NB1061_1062.out
        have hnc76 := NB1062_1061.out
        have hnb77 := NB1061_1063.out
        have hnc77 := NB1063_1061.out
        have hnb78 := NB1061_1064.out
        have hnc78 := NB1064_1061.out
        have hnb79 := NB1061_1065.out
        have hnc79 := NB1065_1061.out
        obtain ⟨hcz80_0, hcz80_1, hcz80_2⟩ := cz3 BK1061.out
        obtain ⟨hfz80_0, hfz80_1, hfz80_2⟩ := fz3 BK1061.out
        have hnb81 := NB1063_1062.out
        have hnc81 := NB1062_1063.out
        have hnb82 := NB1063_1064.out
        have hnc82 := NB1064_1063.out
        have hnb83 := NB1063_1065.out
        have hnc83 := NB1065_1063.out
        obtain ⟨hcz84_0, hcz84_1, hcz84_2⟩ := cz3 BK1063.out
        obtain ⟨hfz84_0, hfz84_1, hfz84_2⟩ := fz3 BK1063.out
        go_wp2
        go_meet
        case rel => exact ⟨_, ((a2_0 == 1)), (by first | rfl | (simp; done) | (simp [*]; done)), H', ⟨by have := HJ4.out; first | omega | exact Nat.le_refl _⟩, ⟨qF BK1061⟩, ⟨qF BK1062⟩, ⟨qF BK1063⟩, ⟨qF BK1064⟩, ⟨qF BK1065⟩, ⟨qL HB⟩⟩
      rw [if_neg c75] at H
      have c75b0 : (a0_0 == 1) = false := beq_eq_false_iff_ne.mpr c75
      have c75b1 : (a0_0 != 1) = true := bne_iff_ne.mpr c75
      (first | rw [c75b0] | (simp only [i64_w, i32_w]; rw [c75b0]) | skip)
      have H' := az H
      clear H
      have hnb85 := NB1061_1062.out
      have hnc85 := NB1062_1061.out
      have hnb86 := NB1061_1063.out
      have hnc86 := NB1063_1061.out
      have hnb87 := NB1061_1064.out
      have hnc87 := NB1064_1061.out
      have hnb88 := NB1061_1065.out
      have hnc88 := NB1065_1061.out
      obtain ⟨hcz89_0, hcz89_1, hcz89_2⟩ := cz3 BK1061.out
      obtain ⟨hfz89_0, hfz89_1, hfz89_2⟩ := fz3 BK1061.out
      go_wp2
      go_meet
      case rel => exact ⟨_, (false), (by first | rfl | (simp; done) | (simp [*]; done)), H', ⟨by have := HJ4.out; first | omega | exact Nat.le_refl _⟩, ⟨qF BK1061⟩, ⟨qF BK1062⟩, ⟨qF BK1063⟩, ⟨qF BK1064⟩, ⟨qF BK1065⟩, ⟨qL HB⟩⟩
    case rest =>
      clear HC74
      (try clear c68)
      obtain ⟨kq, x31_73, rfl, HA, HJ73, BK1061, BK1062, BK1063, BK1064, BK1065, HB⟩ := hcut
      cases kq with
      | zero => exact absurd HA.out (by simp [impl_Touch.j1])
      | succ kj73 => ?_
      have H := HA.out
      clear HA
      simp only [impl_Touch.j1] at H
      by_cases c90 : x31_73 = true
      · subst c90
        replace H := qT H
        replace H := qH H
        obtain ⟨⟨t1070, t1071, t1072, t1073⟩, A91, H⟩ := H
        try dsimp only at H
        simp only [Option.some.injEq, Prod.mk.injEq] at H
        obtain ⟨rfl, rfl, rfl, rfl⟩ := H
        have hnb92 := NB1062_1061.out
        have hnc92 := NB1061_1062.out
        have hnb93 := NB1062_1063.out
        have hnc93 := NB1063_1062.out
        have hnb94 := NB1062_1064.out
        have hnc94 := NB1064_1062.out
        have hnb95 := NB1062_1065.out
        have hnc95 := NB1065_1062.out
        obtain ⟨hcz96_0, hcz96_1⟩ := cz2 BK1062.out
        have hfz96_0 := blk_frozen BK1062.out 0
        have hfz96_1 := blk_frozen BK1062.out 1
        have hnb97 := NB1061_1063.out
        have hnc97 := NB1063_1061.out
        have hnb98 := NB1061_1064.out
        have hnc98 := NB1064_1061.out
        have hnb99 := NB1061_1065.out
        have hnc99 := NB1065_1061.out
        obtain ⟨hcz100_0, hcz100_1, hcz100_2⟩ := cz3 BK1061.out
        obtain ⟨hfz100_0, hfz100_1, hfz100_2⟩ := fz3 BK1061.out
        have hnb101 := NB1064_1063.out
        have hnc101 := NB1063_1064.out
        have hnb102 := NB1064_1065.out
        have hnc102 := NB1065_1064.out
        obtain ⟨hcz103_0, hcz103_1⟩ := cz2 BK1064.out
        have hfz103_0 := blk_frozen BK1064.out 0
        have hfz103_1 := blk_frozen BK1064.out 1
        have hnb104 := NB1063_1065.out
        have hnc104 := NB1065_1063.out
        obtain ⟨hcz105_0, hcz105_1, hcz105_2⟩ := cz3 BK1063.out
        obtain ⟨hfz105_0, hfz105_1, hfz105_2⟩ := fz3 BK1063.out
        go_wp2_with (first | ((with_reducible refine gate_callee (f := 74) rfl ?_); refine gl (some 46) Try.func74 #[.agg #[.int .i64 a1_0, .int .i64 a1_1], .int .i64 a0_1, .agg #[.int .i64 a3_0, .int .i64 a3_1], .int .i64 a2_1] ?_; (with_reducible refine (impl_rounds.calls kj73 a1_0 a1_1 a0_1 a3_0 a3_1 a2_1 t1070 t1071 t1072 t1073 _ A91.out).mono ?_); rintro e w106 ⟨rfl, hb⟩; refine ⟨_, rfl, ?_⟩; replace BK1061 := kBB BK1061 hb; replace BK1062 := kBB BK1062 hb; replace BK1063 := kBB BK1063 hb; replace BK1064 := kBB BK1064 hb; replace BK1065 := kBB BK1065 hb; replace HB := bS HB hb; clear hb; obtain ⟨hcz107_0, hcz107_1, hcz107_2⟩ := cz3 BK1065.out; obtain ⟨hfz107_0, hfz107_1, hfz107_2⟩ := fz3 BK1065.out))
        refine bodyPost_ret (results_ct rfl _ _ gb1065 56 #[.int .i64 t1070, .int .i64 t1071, .int .i64 t1072] (0, 0) _ rfl (qP BK1065) Try.underlying56 rfl (by kernel_rfl)) rfl ?_
        exact ⟨qE, qL HB⟩
      replace c90 := Bool.eq_false_iff.mpr c90
      subst c90
      replace H := qU H
      have HC108 := az H
      clear H
      go_upto_region 5 with (fail)
      go_cut [49] (fun v49 wc => ∃ (kq : Nat) (x49_107 : Bool), v49 = .bool x49_107 ∧ Aside0 (impl_Touch.j2 kq x49_107 a0_0 a0_1 a0_2 a1_0 a1_1 a2_0 a2_1 a2_2 a3_0 a3_1 = some (r1, r2, r3, r4)) ∧ Aside0 (kq ≤ kj73) ∧ Aside0 (wc.heap[gb1061]? = some (.cells #[.int .i64 a0_0, .int .i64 a0_1, .int .i64 a0_2] 38 (0, 0))) ∧ Aside0 (wc.heap[gb1062]? = some (.cells #[.int .i64 a1_0, .int .i64 a1_1] 24 (0, 0))) ∧ Aside0 (wc.heap[gb1063]? = some (.cells #[.int .i64 a2_0, .int .i64 a2_1, .int .i64 a2_2] 38 (0, 0))) ∧ Aside0 (wc.heap[gb1064]? = some (.cells #[.int .i64 a3_0, .int .i64 a3_1] 24 (0, 0))) ∧ Aside0 (wc.heap[gb1065]? = some (.cells #[.int .i64 0, .int .i64 0, .int .i64 0] 56 (0, 0))) ∧ Aside0 (Below w.heap.size w wc))
      case first =>
        have H := HC108.out
        clear HC108
        by_cases c109 : a0_0 = 2
        · rw [if_pos c109] at H
          have c109b0 : (a0_0 == 2) = true := beq_iff_eq.mpr c109
          have c109b1 : (a0_0 != 2) = false := bne_eq_false_iff_eq.mpr c109
          clear c109
          (first | rw [c109b0] | (simp only [i64_w, i32_w]; rw [c109b0]) | skip)
          have H' := az H
          clear H
          have hnb110 := NB1061_1062.out
          have hnc110 := NB1062_1061.out
          have hnb111 := NB1061_1063.out
          have hnc111 := NB1063_1061.out
          have hnb112 := NB1061_1064.out
          have hnc112 := NB1064_1061.out
          have hnb113 := NB1061_1065.out
          have hnc113 := NB1065_1061.out
          obtain ⟨hcz114_0, hcz114_1, hcz114_2⟩ := cz3 BK1061.out
          obtain ⟨hfz114_0, hfz114_1, hfz114_2⟩ := fz3 BK1061.out
          have hnb115 := NB1063_1062.out
          have hnc115 := NB1062_1063.out
          have hnb116 := NB1063_1064.out
          have hnc116 := NB1064_1063.out
          have hnb117 := NB1063_1065.out
          have hnc117 := NB1065_1063.out
          obtain ⟨hcz118_0, hcz118_1, hcz118_2⟩ := cz3 BK1063.out
          obtain ⟨hfz118_0, hfz118_1, hfz118_2⟩ := fz3 BK1063.out
          go_wp2
          go_meet
          case rel => exact ⟨_, ((a2_0 == 2)), (by first | rfl | (simp; done) | (simp [*]; done)), H', ⟨by have := HJ4.out; have := HJ73.out; first | omega | exact Nat.le_refl _⟩, ⟨qF BK1061⟩, ⟨qF BK1062⟩, ⟨qF BK1063⟩, ⟨qF BK1064⟩, ⟨qF BK1065⟩, ⟨qL HB⟩⟩
        rw [if_neg c109] at H
        have c109b0 : (a0_0 == 2) = false := beq_eq_false_iff_ne.mpr c109
        have c109b1 : (a0_0 != 2) = true := bne_iff_ne.mpr c109
        (first | rw [c109b0] | (simp only [i64_w, i32_w]; rw [c109b0]) | skip)
        have H' := az H
        clear H
        have hnb119 := NB1061_1062.out
        have hnc119 := NB1062_1061.out
        have hnb120 := NB1061_1063.out
        have hnc120 := NB1063_1061.out
        have hnb121 := NB1061_1064.out
        have hnc121 := NB1064_1061.out
        have hnb122 := NB1061_1065.out
        have hnc122 := NB1065_1061.out
        obtain ⟨hcz123_0, hcz123_1, hcz123_2⟩ := cz3 BK1061.out
        obtain ⟨hfz123_0, hfz123_1, hfz123_2⟩ := fz3 BK1061.out
        go_wp2
        go_meet
        case rel => exact ⟨_, (false), (by first | rfl | (simp; done) | (simp [*]; done)), H', ⟨by have := HJ4.out; have := HJ73.out; first | omega | exact Nat.le_refl _⟩, ⟨qF BK1061⟩, ⟨qF BK1062⟩, ⟨qF BK1063⟩, ⟨qF BK1064⟩, ⟨qF BK1065⟩, ⟨qL HB⟩⟩
      case rest =>
        clear HC108
        (try clear c68); (try clear c90)
        obtain ⟨kq, x49_107, rfl, HA, HJ107, BK1061, BK1062, BK1063, BK1064, BK1065, HB⟩ := hcut
        cases kq with
        | zero => exact absurd HA.out (by simp [impl_Touch.j2])
        | succ kj107 => ?_
        have H := HA.out
        clear HA
        simp only [impl_Touch.j2] at H
        by_cases c124 : x49_107 = true
        · subst c124
          replace H := qT H
          replace H := qH H
          obtain ⟨⟨t1074, t1075, t1076, t1077⟩, A125, H⟩ := H
          try dsimp only at H
          replace H := qH H
          obtain ⟨⟨t1078, t1079, t1080, t1081⟩, A126, H⟩ := H
          try dsimp only at H
          replace H := qH H
          obtain ⟨⟨t1082, t1083, t1084, t1085⟩, A127, H⟩ := H
          try dsimp only at H
          simp only [Option.some.injEq, Prod.mk.injEq] at H
          obtain ⟨rfl, rfl, rfl, rfl⟩ := H
          try go_wp2
          replace BK1061 := az (blk_drew BK1061.out)
          replace BK1062 := az (blk_drew BK1062.out)
          replace BK1063 := az (blk_drew BK1063.out)
          replace BK1064 := az (blk_drew BK1064.out)
          replace BK1065 := az (blk_drew BK1065.out)
          replace HB := az (below_drew1 HB.out)
          refine start_ (n := 11) (S := fun w' => w'.cell? ⟨gb1061, 0, none⟩ = some (.int .i64 a0_0) ∧ w'.cell? ⟨gb1061, 1, none⟩ = some (.int .i64 a0_1) ∧ w'.cell? ⟨gb1061, 2, none⟩ = some (.int .i64 a0_2) ∧ w'.cell? ⟨gb1062, 0, none⟩ = some (.int .i64 a1_0) ∧ w'.cell? ⟨gb1062, 1, none⟩ = some (.int .i64 a1_1) ∧ w'.cell? ⟨gb1063, 0, none⟩ = some (.int .i64 a2_0) ∧ w'.cell? ⟨gb1063, 1, none⟩ = some (.int .i64 a2_1) ∧ w'.cell? ⟨gb1063, 2, none⟩ = some (.int .i64 a2_2) ∧ w'.cell? ⟨gb1064, 0, none⟩ = some (.int .i64 a3_0) ∧ w'.cell? ⟨gb1064, 1, none⟩ = some (.int .i64 a3_1)) (ds := []) #[false, false, false, false, false, false, false, false, false, false, false] (by kernel_rfl) rfl rfl ⟨bc BK1061 0, bc BK1061 1, bc BK1061 2, bc BK1062 0, bc BK1062 1, bc BK1063 0, bc BK1063 1, bc BK1063 2, bc BK1064 0, bc BK1064 1⟩ (fun hHeld => ?_); refine with_tabW impl_Touch.tab6 impl_Touch.bits6 (fun HT_ HW_ => ?_)
          generalize wc.drew = w128 at BK1061 BK1062 BK1063 BK1064 BK1065 HB hHeld ⊢
          refine tk10 0 (some 58) (fl 11 1) HT_ HW_ hHeld ?_
          refine tk10 1 (some 59) (fl 11 3) HT_ HW_ hHeld ?_
          refine tk10 3 (some 61) (fl 11 11) HT_ HW_ hHeld ?_
          refine tk10 4 (some 62) (fl 11 27) HT_ HW_ hHeld ?_
          refine on 2 (some 60) (fl 11 31) HT_ (fun K hK => ?_)
          refine go1 Try.func76 #[.agg #[.int .i64 a0_0, .int .i64 a0_1, .int .i64 a0_2], .agg #[.int .i64 a1_0, .int .i64 a1_1]] ?_
          with_reducible refine (impl_Shape_bounds.calls a0_0 a0_1 a0_2 a1_0 a1_1 t1074 t1075 t1076 t1077 _ A125.out).mono ?_
          rintro e w129 ⟨rfl, hb⟩
          refine ⟨_, rfl, ?_⟩
          replace BK1061 := kBB BK1061 hb
          replace BK1062 := kBB BK1062 hb
          replace BK1063 := kBB BK1063 hb
          replace BK1064 := kBB BK1064 hb
          replace BK1065 := kBB BK1065 hb
          replace HB := bS HB hb
          clear hb
          refine hK.out _ _ ⟨bc BK1061 0, bc BK1061 1, bc BK1061 2, bc BK1062 0, bc BK1062 1, bc BK1063 0, bc BK1063 1, bc BK1063 2, bc BK1064 0, bc BK1064 1⟩ (fun hHeld => ?_)
          clear hK K
          refine nm (some 60) ?_
          refine on 5 (some 63) (fl 11 63) HT_ (fun K hK => ?_)
          refine go1 Try.func76 #[.agg #[.int .i64 a2_0, .int .i64 a2_1, .int .i64 a2_2], .agg #[.int .i64 a3_0, .int .i64 a3_1]] ?_
          with_reducible refine (impl_Shape_bounds.calls a2_0 a2_1 a2_2 a3_0 a3_1 t1078 t1079 t1080 t1081 _ A126.out).mono ?_
          rintro e w130 ⟨rfl, hb⟩
          refine ⟨_, rfl, ?_⟩
          replace BK1061 := kBB BK1061 hb
          replace BK1062 := kBB BK1062 hb
          replace BK1063 := kBB BK1063 hb
          replace BK1064 := kBB BK1064 hb
          replace BK1065 := kBB BK1065 hb
          replace HB := bS HB hb
          clear hb
          refine hK.out _ _ ⟨bc BK1061 0, bc BK1061 1, bc BK1061 2, bc BK1062 0, bc BK1062 1, bc BK1063 0, bc BK1063 1, bc BK1063 2, bc BK1064 0, bc BK1064 1⟩ (fun hHeld => ?_)
          clear hK K
          refine nm (some 63) ?_
          refine on 6 (some 64) (fl 11 127) HT_ (fun K hK => ?_)
          refine go1 Try.func75 #[.agg #[.int .i64 t1074, .int .i64 t1075, .int .i64 t1076, .int .i64 t1077], .agg #[.int .i64 t1078, .int .i64 t1079, .int .i64 t1080, .int .i64 t1081]] ?_
          with_reducible refine (impl_boxes.calls kj107 t1074 t1075 t1076 t1077 t1078 t1079 t1080 t1081 t1082 t1083 t1084 t1085 _ A127.out).mono ?_
          rintro e w131 ⟨rfl, hb⟩
          refine ⟨_, rfl, ?_⟩
          replace BK1061 := kBB BK1061 hb
          replace BK1062 := kBB BK1062 hb
          replace BK1063 := kBB BK1063 hb
          replace BK1064 := kBB BK1064 hb
          replace BK1065 := kBB BK1065 hb
          replace HB := bS HB hb
          clear hb
          refine hK.out _ _ ⟨bc BK1061 0, bc BK1061 1, bc BK1061 2, bc BK1062 0, bc BK1062 1, bc BK1063 0, bc BK1063 1, bc BK1063 2, bc BK1064 0, bc BK1064 1⟩ (fun hHeld => ?_)
          clear hK K
          refine nm (some 64) ?_
          refine pu 7 (some 65) (fl 11 255) HT_ ?_
          refine pu 8 (some 66) (fl 11 511) HT_ ?_
          refine on 9 (none) (fl 11 1023) HT_ (fun K hK => ?_)
          have hs132 : w131.cell? ⟨gb1065, 0, none⟩ = some (.int .i64 0) := bc BK1065 0
          have hfs132 := blk_frozen BK1065.out 0
          have hns132_0 := NB1061_1065.out
          have hns132_1 := NB1062_1065.out
          have hns132_2 := NB1063_1065.out
          have hns132_3 := NB1064_1065.out
          have hms132_0 := NB1065_1061.out
          have hms132_1 := NB1065_1062.out
          have hms132_2 := NB1065_1063.out
          have hms132_3 := NB1065_1064.out
          have hs133 : w131.cell? ⟨gb1065, 1, none⟩ = some (.int .i64 0) := bc BK1065 1
          have hfs133 := blk_frozen BK1065.out 1
          have hns133_0 := NB1061_1065.out
          have hns133_1 := NB1062_1065.out
          have hns133_2 := NB1063_1065.out
          have hns133_3 := NB1064_1065.out
          have hms133_0 := NB1065_1061.out
          have hms133_1 := NB1065_1062.out
          have hms133_2 := NB1065_1063.out
          have hms133_3 := NB1065_1064.out
          have hs134 : w131.cell? ⟨gb1065, 2, none⟩ = some (.int .i64 0) := bc BK1065 2
          have hfs134 := blk_frozen BK1065.out 2
          have hns134_0 := NB1061_1065.out
          have hns134_1 := NB1062_1065.out
          have hns134_2 := NB1063_1065.out
          have hns134_3 := NB1064_1065.out
          have hms134_0 := NB1065_1061.out
          have hms134_1 := NB1065_1062.out
          have hms134_2 := NB1065_1063.out
          have hms134_3 := NB1065_1064.out
          refine skip_ (w1 := ?_) ?hw ?hn ?_ ?_; (case hw => unfold Region.wanted; rfl); (case hn => rfl)
          rotate_left
          · go_simp
            rfl
          refine hK.out _ _ ⟨(cf NB1061_1065 ((cf NB1061_1065 ((cf NB1061_1065 (hHeld.1)))))), (cf NB1061_1065 ((cf NB1061_1065 ((cf NB1061_1065 (hHeld.2.1)))))), (cf NB1061_1065 ((cf NB1061_1065 ((cf NB1061_1065 (hHeld.2.2.1)))))), (cf NB1062_1065 ((cf NB1062_1065 ((cf NB1062_1065 (hHeld.2.2.2.1)))))), (cf NB1062_1065 ((cf NB1062_1065 ((cf NB1062_1065 (hHeld.2.2.2.2.1)))))), (cf NB1063_1065 ((cf NB1063_1065 ((cf NB1063_1065 (hHeld.2.2.2.2.2.1)))))), (cf NB1063_1065 ((cf NB1063_1065 ((cf NB1063_1065 (hHeld.2.2.2.2.2.2.1)))))), (cf NB1063_1065 ((cf NB1063_1065 ((cf NB1063_1065 (hHeld.2.2.2.2.2.2.2.1)))))), (cf NB1064_1065 ((cf NB1064_1065 ((cf NB1064_1065 (hHeld.2.2.2.2.2.2.2.2.1)))))), (cf NB1064_1065 ((cf NB1064_1065 ((cf NB1064_1065 (hHeld.2.2.2.2.2.2.2.2.2))))))⟩ (fun hHeld => ?_)
          clear hK K
          refine pu 10 (some 9) (fl 11 2047) HT_ ?_
          refine done_ (done_of HT_.out (by kernel_rfl)) ?_
          try go_wp2
          refine bodyPost_ret (results_ct rfl _ _ gb1065 56 #[.int .i64 t1082, .int .i64 t1083, .int .i64 t1084] (0, 0) _ rfl (qP BK1065) Try.underlying56 rfl (by kernel_rfl)) rfl ?_
          exact ⟨qE, qL HB⟩
        replace c124 := Bool.eq_false_iff.mpr c124
        subst c124
        replace H := qU H
        by_cases c135 : a0_0 = 2
        · rw [if_pos c135] at H
          have c135b0 : (a0_0 == 2) = true := beq_iff_eq.mpr c135
          have c135b1 : (a0_0 != 2) = false := bne_eq_false_iff_eq.mpr c135
          clear c135
          replace H := qH H
          obtain ⟨⟨t1086, t1087, t1088, t1089⟩, A136, H⟩ := H
          try dsimp only at H
          replace H := qH H
          obtain ⟨⟨t1090, t1091, t1092, t1093⟩, A137, H⟩ := H
          try dsimp only at H
          simp only [Option.some.injEq, Prod.mk.injEq] at H
          obtain ⟨rfl, rfl, rfl, rfl⟩ := H
          have hnb138 := NB1061_1062.out
          have hnc138 := NB1062_1061.out
          have hnb139 := NB1061_1063.out
          have hnc139 := NB1063_1061.out
          have hnb140 := NB1061_1064.out
          have hnc140 := NB1064_1061.out
          have hnb141 := NB1061_1065.out
          have hnc141 := NB1065_1061.out
          obtain ⟨hcz142_0, hcz142_1, hcz142_2⟩ := cz3 BK1061.out
          obtain ⟨hfz142_0, hfz142_1, hfz142_2⟩ := fz3 BK1061.out
          try go_wp2
          replace BK1061 := az (blk_drew BK1061.out)
          replace BK1062 := az (blk_drew BK1062.out)
          replace BK1063 := az (blk_drew BK1063.out)
          replace BK1064 := az (blk_drew BK1064.out)
          replace BK1065 := az (blk_drew BK1065.out)
          replace HB := az (below_drew1 HB.out)
          refine start_ (n := 11) (S := fun w' => w'.cell? ⟨gb1061, 0, none⟩ = some (.int .i64 a0_0) ∧ w'.cell? ⟨gb1061, 1, none⟩ = some (.int .i64 a0_1) ∧ w'.cell? ⟨gb1061, 2, none⟩ = some (.int .i64 a0_2) ∧ w'.cell? ⟨gb1062, 0, none⟩ = some (.int .i64 a1_0) ∧ w'.cell? ⟨gb1062, 1, none⟩ = some (.int .i64 a1_1) ∧ w'.cell? ⟨gb1064, 0, none⟩ = some (.int .i64 a3_0) ∧ w'.cell? ⟨gb1064, 1, none⟩ = some (.int .i64 a3_1) ∧ w'.cell? ⟨gb1063, 0, none⟩ = some (.int .i64 a2_0) ∧ w'.cell? ⟨gb1063, 1, none⟩ = some (.int .i64 a2_1) ∧ w'.cell? ⟨gb1063, 2, none⟩ = some (.int .i64 a2_2)) (ds := []) #[false, false, false, false, false, false, false, false, false, false, false] (by kernel_rfl) rfl rfl ⟨bc BK1061 0, bc BK1061 1, bc BK1061 2, bc BK1062 0, bc BK1062 1, bc BK1064 0, bc BK1064 1, bc BK1063 0, bc BK1063 1, bc BK1063 2⟩ (fun hHeld => ?_); refine with_tabW impl_Touch.tab8 impl_Touch.bits8 (fun HT_ HW_ => ?_)
          generalize wc.drew = w143 at BK1061 BK1062 BK1063 BK1064 BK1065 HB hHeld ⊢
          refine pu 4 (some 75) (fl 11 16) HT_ ?_
          refine tk10 0 (some 71) (fl 11 17) HT_ HW_ hHeld ?_
          refine tk10 1 (some 72) (fl 11 19) HT_ HW_ hHeld ?_
          refine tk10 3 (some 74) (fl 11 27) HT_ HW_ hHeld ?_
          refine tk10 5 (some 76) (fl 11 59) HT_ HW_ hHeld ?_
          refine on 2 (some 73) (fl 11 63) HT_ (fun K hK => ?_)
          refine go1 Try.func76 #[.agg #[.int .i64 a0_0, .int .i64 a0_1, .int .i64 a0_2], .agg #[.int .i64 a1_0, .int .i64 a1_1]] ?_
          with_reducible refine (impl_Shape_bounds.calls a0_0 a0_1 a0_2 a1_0 a1_1 t1086 t1087 t1088 t1089 _ A136.out).mono ?_
          rintro e w144 ⟨rfl, hb⟩
          refine ⟨_, rfl, ?_⟩
          replace BK1061 := kBB BK1061 hb
          replace BK1062 := kBB BK1062 hb
          replace BK1063 := kBB BK1063 hb
          replace BK1064 := kBB BK1064 hb
          replace BK1065 := kBB BK1065 hb
          replace HB := bS HB hb
          clear hb
          refine hK.out _ _ ⟨bc BK1061 0, bc BK1061 1, bc BK1061 2, bc BK1062 0, bc BK1062 1, bc BK1064 0, bc BK1064 1, bc BK1063 0, bc BK1063 1, bc BK1063 2⟩ (fun hHeld => ?_)
          clear hK K
          refine nm (some 73) ?_
          refine on 6 (some 77) (fl 11 127) HT_ (fun K hK => ?_)
          refine go1 Try.func77 #[.agg #[.int .i64 t1086, .int .i64 t1087, .int .i64 t1088, .int .i64 t1089], .agg #[.int .i64 a3_0, .int .i64 a3_1], .int .i64 a2_1] ?_
          with_reducible refine (impl_boxRound.calls kj107 t1086 t1087 t1088 t1089 a3_0 a3_1 a2_1 t1090 t1091 t1092 t1093 _ A137.out).mono ?_
          rintro e w145 ⟨rfl, hb⟩
          refine ⟨_, rfl, ?_⟩
          replace BK1061 := kBB BK1061 hb
          replace BK1062 := kBB BK1062 hb
          replace BK1063 := kBB BK1063 hb
          replace BK1064 := kBB BK1064 hb
          replace BK1065 := kBB BK1065 hb
          replace HB := bS HB hb
          clear hb
          refine hK.out _ _ ⟨bc BK1061 0, bc BK1061 1, bc BK1061 2, bc BK1062 0, bc BK1062 1, bc BK1064 0, bc BK1064 1, bc BK1063 0, bc BK1063 1, bc BK1063 2⟩ (fun hHeld => ?_)
          clear hK K
          refine nm (some 77) ?_
          refine pu 7 (some 78) (fl 11 255) HT_ ?_
          refine pu 8 (some 79) (fl 11 511) HT_ ?_
          refine on 9 (none) (fl 11 1023) HT_ (fun K hK => ?_)
          have hs146 : w145.cell? ⟨gb1065, 0, none⟩ = some (.int .i64 0) := bc BK1065 0
          have hfs146 := blk_frozen BK1065.out 0
          have hns146_0 := NB1061_1065.out
          have hns146_1 := NB1062_1065.out
          have hns146_2 := NB1063_1065.out
          have hns146_3 := NB1064_1065.out
          have hms146_0 := NB1065_1061.out
          have hms146_1 := NB1065_1062.out
          have hms146_2 := NB1065_1063.out
          have hms146_3 := NB1065_1064.out
          have hs147 : w145.cell? ⟨gb1065, 1, none⟩ = some (.int .i64 0) := bc BK1065 1
          have hfs147 := blk_frozen BK1065.out 1
          have hns147_0 := NB1061_1065.out
          have hns147_1 := NB1062_1065.out
          have hns147_2 := NB1063_1065.out
          have hns147_3 := NB1064_1065.out
          have hms147_0 := NB1065_1061.out
          have hms147_1 := NB1065_1062.out
          have hms147_2 := NB1065_1063.out
          have hms147_3 := NB1065_1064.out
          have hs148 : w145.cell? ⟨gb1065, 2, none⟩ = some (.int .i64 0) := bc BK1065 2
          have hfs148 := blk_frozen BK1065.out 2
          have hns148_0 := NB1061_1065.out
          have hns148_1 := NB1062_1065.out
          have hns148_2 := NB1063_1065.out
          have hns148_3 := NB1064_1065.out
          have hms148_0 := NB1065_1061.out
          have hms148_1 := NB1065_1062.out
          have hms148_2 := NB1065_1063.out
          have hms148_3 := NB1065_1064.out
          refine skip_ (w1 := ?_) ?hw ?hn ?_ ?_; (case hw => unfold Region.wanted; rfl); (case hn => rfl)
          rotate_left
          · go_simp
            rfl
          refine hK.out _ _ ⟨(cf NB1061_1065 ((cf NB1061_1065 ((cf NB1061_1065 (hHeld.1)))))), (cf NB1061_1065 ((cf NB1061_1065 ((cf NB1061_1065 (hHeld.2.1)))))), (cf NB1061_1065 ((cf NB1061_1065 ((cf NB1061_1065 (hHeld.2.2.1)))))), (cf NB1062_1065 ((cf NB1062_1065 ((cf NB1062_1065 (hHeld.2.2.2.1)))))), (cf NB1062_1065 ((cf NB1062_1065 ((cf NB1062_1065 (hHeld.2.2.2.2.1)))))), (cf NB1064_1065 ((cf NB1064_1065 ((cf NB1064_1065 (hHeld.2.2.2.2.2.1)))))), (cf NB1064_1065 ((cf NB1064_1065 ((cf NB1064_1065 (hHeld.2.2.2.2.2.2.1)))))), (cf NB1063_1065 ((cf NB1063_1065 ((cf NB1063_1065 (hHeld.2.2.2.2.2.2.2.1)))))), (cf NB1063_1065 ((cf NB1063_1065 ((cf NB1063_1065 (hHeld.2.2.2.2.2.2.2.2.1)))))), (cf NB1063_1065 ((cf NB1063_1065 ((cf NB1063_1065 (hHeld.2.2.2.2.2.2.2.2.2))))))⟩ (fun hHeld => ?_)
          clear hK K
          refine pu 10 (some 9) (fl 11 2047) HT_ ?_
          refine done_ (done_of HT_.out (by kernel_rfl)) ?_
          try go_wp2
          refine bodyPost_ret (results_ct rfl _ _ gb1065 56 #[.int .i64 t1090, .int .i64 t1091, .int .i64 t1092] (0, 0) _ rfl (qP BK1065) Try.underlying56 rfl (by kernel_rfl)) rfl ?_
          exact ⟨qE, qL HB⟩
        rw [if_neg c135] at H
        have c135b0 : (a0_0 == 2) = false := beq_eq_false_iff_ne.mpr c135
        have c135b1 : (a0_0 != 2) = true := bne_iff_ne.mpr c135
        replace H := qH H
        obtain ⟨⟨t1094, t1095, t1096, t1097⟩, A149, H⟩ := H
        try dsimp only at H
        replace H := qH H
        obtain ⟨⟨t1098, t1099, t1100, t1101⟩, A150, H⟩ := H
        try dsimp only at H
        replace H := qH H
        obtain ⟨⟨t1103, t1104⟩, A151, H⟩ := H
        try dsimp only at H
        simp only [Option.some.injEq, Prod.mk.injEq] at H
        obtain ⟨rfl, rfl, rfl, rfl⟩ := H
        have hnb152 := NB1061_1062.out
        have hnc152 := NB1062_1061.out
        have hnb153 := NB1061_1063.out
        have hnc153 := NB1063_1061.out
        have hnb154 := NB1061_1064.out
        have hnc154 := NB1064_1061.out
        have hnb155 := NB1061_1065.out
        have hnc155 := NB1065_1061.out
        obtain ⟨hcz156_0, hcz156_1, hcz156_2⟩ := cz3 BK1061.out
        obtain ⟨hfz156_0, hfz156_1, hfz156_2⟩ := fz3 BK1061.out
        try go_wp2
        replace BK1061 := az (blk_drew BK1061.out)
        replace BK1062 := az (blk_drew BK1062.out)
        replace BK1063 := az (blk_drew BK1063.out)
        replace BK1064 := az (blk_drew BK1064.out)
        replace BK1065 := az (blk_drew BK1065.out)
        replace HB := az (below_drew1 HB.out)
        refine start_ (n := 13) (S := fun w' => w'.cell? ⟨gb1063, 0, none⟩ = some (.int .i64 a2_0) ∧ w'.cell? ⟨gb1063, 1, none⟩ = some (.int .i64 a2_1) ∧ w'.cell? ⟨gb1063, 2, none⟩ = some (.int .i64 a2_2) ∧ w'.cell? ⟨gb1064, 0, none⟩ = some (.int .i64 a3_0) ∧ w'.cell? ⟨gb1064, 1, none⟩ = some (.int .i64 a3_1) ∧ w'.cell? ⟨gb1062, 0, none⟩ = some (.int .i64 a1_0) ∧ w'.cell? ⟨gb1062, 1, none⟩ = some (.int .i64 a1_1) ∧ w'.cell? ⟨gb1061, 0, none⟩ = some (.int .i64 a0_0) ∧ w'.cell? ⟨gb1061, 1, none⟩ = some (.int .i64 a0_1) ∧ w'.cell? ⟨gb1061, 2, none⟩ = some (.int .i64 a0_2)) (ds := []) #[false, false, false, false, false, false, false, false, false, false, false, false, false] (by kernel_rfl) rfl rfl ⟨bc BK1063 0, bc BK1063 1, bc BK1063 2, bc BK1064 0, bc BK1064 1, bc BK1062 0, bc BK1062 1, bc BK1061 0, bc BK1061 1, bc BK1061 2⟩ (fun hHeld => ?_); refine with_tabW impl_Touch.tab9 impl_Touch.bits9 (fun HT_ HW_ => ?_)
        generalize wc.drew = w157 at BK1061 BK1062 BK1063 BK1064 BK1065 HB hHeld ⊢
        refine pu 4 (some 85) (fl 13 16) HT_ ?_
        refine tk10 0 (some 81) (fl 13 17) HT_ HW_ hHeld ?_
        refine tk10 1 (some 82) (fl 13 19) HT_ HW_ hHeld ?_
        refine tk10 3 (some 84) (fl 13 27) HT_ HW_ hHeld ?_
        refine tk10 5 (some 86) (fl 13 59) HT_ HW_ hHeld ?_
        refine join_ (σ := Nat) 2 (fl 13 2047) (fun s_ => [(83, .agg #[.int .i64 t1094, .int .i64 t1095, .int .i64 t1096, .int .i64 t1097]), (87, .tuple #[.agg #[.int .i64 t1098, .int .i64 t1099, .int .i64 t1100], .bool t1101]), (10, .pointer (some ⟨s_, 0, none⟩)), (80, .tuple #[.agg #[.int .i64 t1098, .int .i64 t1099, .int .i64 t1100], .bool t1101]), (88, .agg #[.int .i64 t1098, .int .i64 t1099, .int .i64 t1100]), (89, .bool t1101)]) (fun s_ w' => (w'.cell? ⟨gb1063, 0, none⟩ = some (.int .i64 a2_0) ∧ w'.cell? ⟨gb1063, 1, none⟩ = some (.int .i64 a2_1) ∧ w'.cell? ⟨gb1063, 2, none⟩ = some (.int .i64 a2_2) ∧ w'.cell? ⟨gb1064, 0, none⟩ = some (.int .i64 a3_0) ∧ w'.cell? ⟨gb1064, 1, none⟩ = some (.int .i64 a3_1) ∧ w'.cell? ⟨gb1062, 0, none⟩ = some (.int .i64 a1_0) ∧ w'.cell? ⟨gb1062, 1, none⟩ = some (.int .i64 a1_1) ∧ w'.cell? ⟨gb1061, 0, none⟩ = some (.int .i64 a0_0) ∧ w'.cell? ⟨gb1061, 1, none⟩ = some (.int .i64 a0_1) ∧ w'.cell? ⟨gb1061, 2, none⟩ = some (.int .i64 a0_2)) ∧ (w'.heap[gb1061]? = some (.cells #[.int .i64 a0_0, .int .i64 a0_1, .int .i64 a0_2] 38 (0, 0))) ∧ (w'.heap[gb1062]? = some (.cells #[.int .i64 a1_0, .int .i64 a1_1] 24 (0, 0))) ∧ (w'.heap[gb1063]? = some (.cells #[.int .i64 a2_0, .int .i64 a2_1, .int .i64 a2_2] 38 (0, 0))) ∧ (w'.heap[gb1064]? = some (.cells #[.int .i64 a3_0, .int .i64 a3_1] 24 (0, 0))) ∧ (w'.heap[gb1065]? = some (.cells #[.int .i64 0, .int .i64 0, .int .i64 0] 56 (0, 0))) ∧ (w'.heap[s_]? = some (.cells #[.int .i64 0, .int .i64 0, .int .i64 0] 56 (0, 0))) ∧ (w.heap.size ≤ s_) ∧ (w.heap.size ≤ s_) ∧ (gb1061 ≠ s_) ∧ (s_ ≠ gb1061) ∧ (gb1062 ≠ s_) ∧ (s_ ≠ gb1062) ∧ (gb1063 ≠ s_) ∧ (s_ ≠ gb1063) ∧ (gb1064 ≠ s_) ∧ (s_ ≠ gb1064) ∧ (gb1065 ≠ s_) ∧ (s_ ≠ gb1065) ∧ (Below w.heap.size w w')) ?_ ?_
        rotate_left
        · intro hCont
          refine two_ (i := 2) (j := 10) (Ni := some 83) (Nj := some 10) (fl 13 63) (fl 13 1083) rfl rfl rfl rfl (two_of HT_.out (by kernel_rfl)) (by decide) (by decide) (fun K hK => ?_) (fun K hK => ?_)
          · skip
            refine go1 Try.func76 #[.agg #[.int .i64 a2_0, .int .i64 a2_1, .int .i64 a2_2], .agg #[.int .i64 a3_0, .int .i64 a3_1]] ?_
            with_reducible refine (impl_Shape_bounds.calls a2_0 a2_1 a2_2 a3_0 a3_1 t1094 t1095 t1096 t1097 _ A149.out).mono ?_
            rintro e w158 ⟨rfl, hb⟩
            refine ⟨_, rfl, ?_⟩
            replace BK1061 := kBB BK1061 hb
            replace BK1062 := kBB BK1062 hb
            replace BK1063 := kBB BK1063 hb
            replace BK1064 := kBB BK1064 hb
            replace BK1065 := kBB BK1065 hb
            replace HB := bS HB hb
            clear hb
            refine hK.out _ _ ⟨bc BK1063 0, bc BK1063 1, bc BK1063 2, bc BK1064 0, bc BK1064 1, bc BK1062 0, bc BK1062 1, bc BK1061 0, bc BK1061 1, bc BK1061 2⟩ (fun hHeld => ?_)
            clear hK K
            refine nm (some 83) ?_
            refine two_ (i := 6) (j := 10) (Ni := some 87) (Nj := some 10) (fl 13 127) (fl 13 1087) rfl rfl rfl rfl (two_of HT_.out (by kernel_rfl)) (by decide) (by decide) (fun K hK => ?_) (fun K hK => ?_)
            · skip
              refine go1 Try.func77 #[.agg #[.int .i64 t1094, .int .i64 t1095, .int .i64 t1096, .int .i64 t1097], .agg #[.int .i64 a1_0, .int .i64 a1_1], .int .i64 a0_1] ?_
              with_reducible refine (impl_boxRound.calls kj107 t1094 t1095 t1096 t1097 a1_0 a1_1 a0_1 t1098 t1099 t1100 t1101 _ A150.out).mono ?_
              rintro e w159 ⟨rfl, hb⟩
              refine ⟨_, rfl, ?_⟩
              replace BK1061 := kBB BK1061 hb
              replace BK1062 := kBB BK1062 hb
              replace BK1063 := kBB BK1063 hb
              replace BK1064 := kBB BK1064 hb
              replace BK1065 := kBB BK1065 hb
              replace HB := bS HB hb
              clear hb
              refine hK.out _ _ ⟨bc BK1063 0, bc BK1063 1, bc BK1063 2, bc BK1064 0, bc BK1064 1, bc BK1062 0, bc BK1062 1, bc BK1061 0, bc BK1061 1, bc BK1061 2⟩ (fun hHeld => ?_)
              clear hK K
              refine nm (some 87) ?_
              refine pu 7 (some 80) (fl 13 255) HT_ ?_
              refine pu 8 (some 88) (fl 13 511) HT_ ?_
              refine pu 9 (some 89) (fl 13 1023) HT_ ?_
              refine on 10 (some 10) (fl 13 2047) HT_ (fun K hK => ?_)
              refine box_step ?hg (N := 10) ?hd (cs := #[.int .i64 0, .int .i64 0, .int .i64 0]) (t := 56) ?hr ?_; (case hd => rfl); (case hg => rfl); (case hr => first | (go_simp; done) | (go_simp; rfl))
              intro gb1102 hg w160 hbox hb
              have BK1102 := az hbox
              have GW1102 := az ((gE hg (qL HB) : w.heap.size ≤ gb1102))
              have GE1102 := GW1102
              obtain ⟨NB1061_1102, NB1102_1061⟩ := nPB BK1061 hg
              obtain ⟨NB1062_1102, NB1102_1062⟩ := nPB BK1062 hg
              obtain ⟨NB1063_1102, NB1102_1063⟩ := nPB BK1063 hg
              obtain ⟨NB1064_1102, NB1102_1064⟩ := nPB BK1064 hg
              obtain ⟨NB1065_1102, NB1102_1065⟩ := nPB BK1065 hg
              replace BK1061 := kBB BK1061 hb
              replace BK1062 := kBB BK1062 hb
              replace BK1063 := kBB BK1063 hb
              replace BK1064 := kBB BK1064 hb
              replace BK1065 := kBB BK1065 hb
              replace HB := bS HB hb
              clear hb hbox hg
              refine hK.out _ _ ⟨bc BK1063 0, bc BK1063 1, bc BK1063 2, bc BK1064 0, bc BK1064 1, bc BK1062 0, bc BK1062 1, bc BK1061 0, bc BK1061 1, bc BK1061 2⟩ (fun hHeld => ?_)
              clear hK K
              refine nm (some 10) ?_
              exact nrm (hCont (gb1102) _ ⟨hHeld, (qB BK1061), (qB BK1062), (qB BK1063), (qB BK1064), (qB BK1065), (qB BK1102), GW1102.out, GE1102.out, NB1061_1102.out, NB1102_1061.out, NB1062_1102.out, NB1102_1062.out, NB1063_1102.out, NB1102_1063.out, NB1064_1102.out, NB1102_1064.out, NB1065_1102.out, NB1102_1065.out, (qL HB)⟩)
            skip
            refine box_step ?hg (N := 10) ?hd (cs := #[.int .i64 0, .int .i64 0, .int .i64 0]) (t := 56) ?hr ?_; (case hd => rfl); (case hg => rfl); (case hr => first | (go_simp; done) | (go_simp; rfl))
            intro gb1102 hg w159 hbox hb
            have BK1102 := az hbox
            have GW1102 := az ((gE hg (qL HB) : w.heap.size ≤ gb1102))
            have GE1102 := GW1102
            obtain ⟨NB1061_1102, NB1102_1061⟩ := nPB BK1061 hg
            obtain ⟨NB1062_1102, NB1102_1062⟩ := nPB BK1062 hg
            obtain ⟨NB1063_1102, NB1102_1063⟩ := nPB BK1063 hg
            obtain ⟨NB1064_1102, NB1102_1064⟩ := nPB BK1064 hg
            obtain ⟨NB1065_1102, NB1102_1065⟩ := nPB BK1065 hg
            replace BK1061 := kBB BK1061 hb
            replace BK1062 := kBB BK1062 hb
            replace BK1063 := kBB BK1063 hb
            replace BK1064 := kBB BK1064 hb
            replace BK1065 := kBB BK1065 hb
            replace HB := bS HB hb
            clear hb hbox hg
            refine hK.out _ _ ⟨bc BK1063 0, bc BK1063 1, bc BK1063 2, bc BK1064 0, bc BK1064 1, bc BK1062 0, bc BK1062 1, bc BK1061 0, bc BK1061 1, bc BK1061 2⟩ (fun hHeld => ?_)
            clear hK K
            refine nm (some 10) ?_
            refine on 6 (some 87) (fl 13 1151) HT_ (fun K hK => ?_)
            refine go1 Try.func77 #[.agg #[.int .i64 t1094, .int .i64 t1095, .int .i64 t1096, .int .i64 t1097], .agg #[.int .i64 a1_0, .int .i64 a1_1], .int .i64 a0_1] ?_
            with_reducible refine (impl_boxRound.calls kj107 t1094 t1095 t1096 t1097 a1_0 a1_1 a0_1 t1098 t1099 t1100 t1101 _ A150.out).mono ?_
            rintro e w160 ⟨rfl, hb⟩
            refine ⟨_, rfl, ?_⟩
            replace BK1061 := kBB BK1061 hb
            replace BK1062 := kBB BK1062 hb
            replace BK1063 := kBB BK1063 hb
            replace BK1064 := kBB BK1064 hb
            replace BK1065 := kBB BK1065 hb
            replace BK1102 := kBB BK1102 hb
            replace HB := bS HB hb
            clear hb
            refine hK.out _ _ ⟨bc BK1063 0, bc BK1063 1, bc BK1063 2, bc BK1064 0, bc BK1064 1, bc BK1062 0, bc BK1062 1, bc BK1061 0, bc BK1061 1, bc BK1061 2⟩ (fun hHeld => ?_)
            clear hK K
            refine nm (some 87) ?_
            refine pu 7 (some 80) (fl 13 1279) HT_ ?_
            refine pu 8 (some 88) (fl 13 1535) HT_ ?_
            refine pu 9 (some 89) (fl 13 2047) HT_ ?_
            exact nrm (hCont (gb1102) _ ⟨hHeld, (qB BK1061), (qB BK1062), (qB BK1063), (qB BK1064), (qB BK1065), (qB BK1102), GW1102.out, GE1102.out, NB1061_1102.out, NB1102_1061.out, NB1062_1102.out, NB1102_1062.out, NB1063_1102.out, NB1102_1063.out, NB1064_1102.out, NB1102_1064.out, NB1065_1102.out, NB1102_1065.out, (qL HB)⟩)
          skip
          refine box_step ?hg (N := 10) ?hd (cs := #[.int .i64 0, .int .i64 0, .int .i64 0]) (t := 56) ?hr ?_; (case hd => rfl); (case hg => rfl); (case hr => first | (go_simp; done) | (go_simp; rfl))
          intro gb1102 hg w158 hbox hb
          have BK1102 := az hbox
          have GW1102 := az ((gE hg (qL HB) : w.heap.size ≤ gb1102))
          have GE1102 := GW1102
          obtain ⟨NB1061_1102, NB1102_1061⟩ := nPB BK1061 hg
          obtain ⟨NB1062_1102, NB1102_1062⟩ := nPB BK1062 hg
          obtain ⟨NB1063_1102, NB1102_1063⟩ := nPB BK1063 hg
          obtain ⟨NB1064_1102, NB1102_1064⟩ := nPB BK1064 hg
          obtain ⟨NB1065_1102, NB1102_1065⟩ := nPB BK1065 hg
          replace BK1061 := kBB BK1061 hb
          replace BK1062 := kBB BK1062 hb
          replace BK1063 := kBB BK1063 hb
          replace BK1064 := kBB BK1064 hb
          replace BK1065 := kBB BK1065 hb
          replace HB := bS HB hb
          clear hb hbox hg
          refine hK.out _ _ ⟨bc BK1063 0, bc BK1063 1, bc BK1063 2, bc BK1064 0, bc BK1064 1, bc BK1062 0, bc BK1062 1, bc BK1061 0, bc BK1061 1, bc BK1061 2⟩ (fun hHeld => ?_)
          clear hK K
          refine nm (some 10) ?_
          refine on 2 (some 83) (fl 13 1087) HT_ (fun K hK => ?_)
          refine go1 Try.func76 #[.agg #[.int .i64 a2_0, .int .i64 a2_1, .int .i64 a2_2], .agg #[.int .i64 a3_0, .int .i64 a3_1]] ?_
          with_reducible refine (impl_Shape_bounds.calls a2_0 a2_1 a2_2 a3_0 a3_1 t1094 t1095 t1096 t1097 _ A149.out).mono ?_
          rintro e w159 ⟨rfl, hb⟩
          refine ⟨_, rfl, ?_⟩
          replace BK1061 := kBB BK1061 hb
          replace BK1062 := kBB BK1062 hb
          replace BK1063 := kBB BK1063 hb
          replace BK1064 := kBB BK1064 hb
          replace BK1065 := kBB BK1065 hb
          replace BK1102 := kBB BK1102 hb
          replace HB := bS HB hb
          clear hb
          refine hK.out _ _ ⟨bc BK1063 0, bc BK1063 1, bc BK1063 2, bc BK1064 0, bc BK1064 1, bc BK1062 0, bc BK1062 1, bc BK1061 0, bc BK1061 1, bc BK1061 2⟩ (fun hHeld => ?_)
          clear hK K
          refine nm (some 83) ?_
          refine on 6 (some 87) (fl 13 1151) HT_ (fun K hK => ?_)
          refine go1 Try.func77 #[.agg #[.int .i64 t1094, .int .i64 t1095, .int .i64 t1096, .int .i64 t1097], .agg #[.int .i64 a1_0, .int .i64 a1_1], .int .i64 a0_1] ?_
          with_reducible refine (impl_boxRound.calls kj107 t1094 t1095 t1096 t1097 a1_0 a1_1 a0_1 t1098 t1099 t1100 t1101 _ A150.out).mono ?_
          rintro e w160 ⟨rfl, hb⟩
          refine ⟨_, rfl, ?_⟩
          replace BK1061 := kBB BK1061 hb
          replace BK1062 := kBB BK1062 hb
          replace BK1063 := kBB BK1063 hb
          replace BK1064 := kBB BK1064 hb
          replace BK1065 := kBB BK1065 hb
          replace BK1102 := kBB BK1102 hb
          replace HB := bS HB hb
          clear hb
          refine hK.out _ _ ⟨bc BK1063 0, bc BK1063 1, bc BK1063 2, bc BK1064 0, bc BK1064 1, bc BK1062 0, bc BK1062 1, bc BK1061 0, bc BK1061 1, bc BK1061 2⟩ (fun hHeld => ?_)
          clear hK K
          refine nm (some 87) ?_
          refine pu 7 (some 80) (fl 13 1279) HT_ ?_
          refine pu 8 (some 88) (fl 13 1535) HT_ ?_
          refine pu 9 (some 89) (fl 13 2047) HT_ ?_
          exact nrm (hCont (gb1102) _ ⟨hHeld, (qB BK1061), (qB BK1062), (qB BK1063), (qB BK1064), (qB BK1065), (qB BK1102), GW1102.out, GE1102.out, NB1061_1102.out, NB1102_1061.out, NB1062_1102.out, NB1102_1062.out, NB1063_1102.out, NB1102_1063.out, NB1064_1102.out, NB1102_1064.out, NB1065_1102.out, NB1102_1065.out, (qL HB)⟩)
        rintro gb1102 w161 ⟨hS_, h0_, h1_, h2_, h3_, h4_, h5_, h6_, h7_, h8_, h9_, h10_, h11_, h12_, h13_, h14_, h15_, h16_, h17_, h18_⟩
        have BK1102 := az h5_
        have GW1102 := az h6_
        have GE1102 := az h7_
        have NB1061_1102 := az h8_
        have NB1102_1061 := az h9_
        have NB1062_1102 := az h10_
        have NB1102_1062 := az h11_
        have NB1063_1102 := az h12_
        have NB1102_1063 := az h13_
        have NB1064_1102 := az h14_
        have NB1102_1064 := az h15_
        have NB1065_1102 := az h16_
        have NB1102_1065 := az h17_
        replace BK1061 := az h0_
        replace BK1062 := az h1_
        replace BK1063 := az h2_
        replace BK1064 := az h3_
        replace BK1065 := az h4_
        replace HB := az h18_
        clear h0_ h1_ h2_ h3_ h4_ h5_ h6_ h7_ h8_ h9_ h10_ h11_ h12_ h13_ h14_ h15_ h16_ h17_ h18_
        have hHeld := hS_
        refine nmp ?_
        refine on 11 (none) (fl 13 4095) HT_ (fun K hK => ?_)
        have hs162 : w161.cell? ⟨gb1102, 0, none⟩ = some (.int .i64 0) := bc BK1102 0
        have hfs162 := blk_frozen BK1102.out 0
        have hns162_0 := NB1061_1102.out
        have hns162_1 := NB1062_1102.out
        have hns162_2 := NB1063_1102.out
        have hns162_3 := NB1064_1102.out
        have hns162_4 := NB1065_1102.out
        have hms162_0 := NB1102_1061.out
        have hms162_1 := NB1102_1062.out
        have hms162_2 := NB1102_1063.out
        have hms162_3 := NB1102_1064.out
        have hms162_4 := NB1102_1065.out
        have hs163 : w161.cell? ⟨gb1102, 1, none⟩ = some (.int .i64 0) := bc BK1102 1
        have hfs163 := blk_frozen BK1102.out 1
        have hns163_0 := NB1061_1102.out
        have hns163_1 := NB1062_1102.out
        have hns163_2 := NB1063_1102.out
        have hns163_3 := NB1064_1102.out
        have hns163_4 := NB1065_1102.out
        have hms163_0 := NB1102_1061.out
        have hms163_1 := NB1102_1062.out
        have hms163_2 := NB1102_1063.out
        have hms163_3 := NB1102_1064.out
        have hms163_4 := NB1102_1065.out
        have hs164 : w161.cell? ⟨gb1102, 2, none⟩ = some (.int .i64 0) := bc BK1102 2
        have hfs164 := blk_frozen BK1102.out 2
        have hns164_0 := NB1061_1102.out
        have hns164_1 := NB1062_1102.out
        have hns164_2 := NB1063_1102.out
        have hns164_3 := NB1064_1102.out
        have hns164_4 := NB1065_1102.out
        have hms164_0 := NB1102_1061.out
        have hms164_1 := NB1102_1062.out
        have hms164_2 := NB1102_1063.out
        have hms164_3 := NB1102_1064.out
        have hms164_4 := NB1102_1065.out
        refine skip_ (w1 := ?_) ?hw ?hn ?_ ?_; (case hw => unfold Region.wanted; rfl); (case hn => rfl)
        rotate_left
        · go_simp
          rfl
        refine hK.out _ _ ⟨(cf NB1063_1102 ((cf NB1063_1102 ((cf NB1063_1102 (hHeld.1)))))), (cf NB1063_1102 ((cf NB1063_1102 ((cf NB1063_1102 (hHeld.2.1)))))), (cf NB1063_1102 ((cf NB1063_1102 ((cf NB1063_1102 (hHeld.2.2.1)))))), (cf NB1064_1102 ((cf NB1064_1102 ((cf NB1064_1102 (hHeld.2.2.2.1)))))), (cf NB1064_1102 ((cf NB1064_1102 ((cf NB1064_1102 (hHeld.2.2.2.2.1)))))), (cf NB1062_1102 ((cf NB1062_1102 ((cf NB1062_1102 (hHeld.2.2.2.2.2.1)))))), (cf NB1062_1102 ((cf NB1062_1102 ((cf NB1062_1102 (hHeld.2.2.2.2.2.2.1)))))), (cf NB1061_1102 ((cf NB1061_1102 ((cf NB1061_1102 (hHeld.2.2.2.2.2.2.2.1)))))), (cf NB1061_1102 ((cf NB1061_1102 ((cf NB1061_1102 (hHeld.2.2.2.2.2.2.2.2.1)))))), (cf NB1061_1102 ((cf NB1061_1102 ((cf NB1061_1102 (hHeld.2.2.2.2.2.2.2.2.2))))))⟩ (fun hHeld => ?_)
        clear hK K
        refine pu 12 (some 11) (fl 13 8191) HT_ ?_
        refine done_ (done_of HT_.out (by kernel_rfl)) ?_
        have hnb165 := NB1102_1061.out
        have hnc165 := NB1061_1102.out
        have hnb166 := NB1102_1062.out
        have hnc166 := NB1062_1102.out
        have hnb167 := NB1102_1063.out
        have hnc167 := NB1063_1102.out
        have hnb168 := NB1102_1064.out
        have hnc168 := NB1064_1102.out
        have hnb169 := NB1102_1065.out
        have hnc169 := NB1065_1102.out
        obtain ⟨hcz170_0, hcz170_1, hcz170_2⟩ := cz3 BK1102.out
        obtain ⟨hfz170_0, hfz170_1, hfz170_2⟩ := fz3 BK1102.out
        try go_wp2_with (first | ((with_reducible refine gate_callee (f := 78) rfl ?_); refine gl (some 92) Try.func78 #[.agg #[.int .i64 t1098, .int .i64 t1099]] ?_; (with_reducible refine (impl_Vec_opposite.calls t1098 t1099 t1103 t1104 _ A151.out).mono ?_); rintro e w171 ⟨rfl, hb⟩; refine ⟨_, rfl, ?_⟩; replace BK1061 := kBF BK1061 hb; replace BK1062 := kBF BK1062 hb; replace BK1063 := kBF BK1063 hb; replace BK1064 := kBF BK1064 hb; replace BK1065 := kBF BK1065 hb; replace BK1102 := kBP (o' := .cells #[.int .i64 t1098, .int .i64 t1099, .int .i64 t1100] 56 (0, 0)) BK1102 hb; replace HB := bS HB hb; clear hb; obtain ⟨hcz172_0, hcz172_1, hcz172_2⟩ := cz3 BK1102.out; obtain ⟨hfz172_0, hfz172_1, hfz172_2⟩ := fz3 BK1102.out; have hnb173 := NB1065_1062.out; have hnc173 := NB1062_1065.out; have hnb174 := NB1065_1063.out; have hnc174 := NB1063_1065.out; have hnb175 := NB1065_1064.out; have hnc175 := NB1064_1065.out; obtain ⟨hcz176_0, hcz176_1, hcz176_2⟩ := cz3 BK1065.out; obtain ⟨hfz176_0, hfz176_1, hfz176_2⟩ := fz3 BK1065.out))
        refine bodyPost_ret (results_ct rfl _ _ gb1065 56 #[.int .i64 t1103, .int .i64 t1104, .int .i64 t1100] (0, 0) _ rfl (qP BK1065) Try.underlying56 rfl (by kernel_rfl)) rfl ?_
        exact ⟨qE, qL HB⟩
end Go.Proofs.Ytihajbjkjclmoaa.PBig
