/- What these functions compute, each walked once: impl_BoxMeets, impl_ShapeBounds, impl_BoxNear, impl_ShapeHas; for all arguments and worlds, under the conditions that each theorem names. -/
import Derived.Test.YtihajbjkjclmoaaSq
import Derived.Test.YtihajbjkjclmoaaPBigx907
import Derived.Test.YtihajbjkjclmoaaPBigx927
import Derived.Test.YtihajbjkjclmoaaPBigx928
namespace Go.Proofs.Ytihajbjkjclmoaa.PBig
open Go.RowKit Go.Proofs.YtihajbjkjclmoaaW.PrintWords Go.Proofs.YtihajbjkjclmoaaW.PrintLast Go.Proofs.YtihajbjkjclmoaaW.PrintMore
attribute [local go_sem] max2_int min2_int max_two min_two max_three min_three max_four min_four   -- for this text's walks alone
set_option linter.unusedVariables false
set_option linter.unusedSimpArgs false

/-! ### impl_BoxMeets: function 38 -/
def impl_BoxMeets.f (a0_0 : Int) (a0_1 : Int) (a0_2 : Int) (a0_3 : Int) (a1_0 : Int) (a1_1 : Int) (a1_2 : Int) (a1_3 : Int) : Option (Bool) := (impl_BoxOk.f a0_0 a0_1 a0_2 a0_3).bind fun t1220 => (if t1220 = true then ((impl_BoxOk.f a1_0 a1_1 a1_2 a1_3).bind fun t1221 => (if t1221 = true then ((impl_Box_meets.f a0_0 a0_1 a0_2 a0_3 a1_0 a1_1 a1_2 a1_3).bind fun t1222 => (some t1222)) else (some false))) else (some false))
set_option maxHeartbeats 8000000 in
set_option maxRecDepth 100000 in
theorem impl_BoxMeets.calls (a0_0 : Int) (a0_1 : Int) (a0_2 : Int) (a0_3 : Int) (a1_0 : Int) (a1_1 : Int) (a1_2 : Int) (a1_3 : Int) (r : Bool) (w : World) (h : impl_BoxMeets.f a0_0 a0_1 a0_2 a0_3 a1_0 a1_1 a1_2 a1_3 = some r) :
    Calls Try.prog 38 #[.agg #[.int .i64 a0_0, .int .i64 a0_1, .int .i64 a0_2, .int .i64 a0_3], .agg #[.int .i64 a1_0, .int .i64 a1_1, .int .i64 a1_2, .int .i64 a1_3]] w fun e w' => e = .returned (.bool r) ∧ Below w.heap.size w w' := by
  have hu26 := Try.underlying26
  have HB := az (Below.refl w.heap.size w)
  have H : ((impl_BoxOk.f a0_0 a0_1 a0_2 a0_3).bind fun t1220 => (if t1220 = true then ((impl_BoxOk.f a1_0 a1_1 a1_2 a1_3).bind fun t1221 => (if t1221 = true then ((impl_Box_meets.f a0_0 a0_1 a0_2 a0_3 a1_0 a1_1 a1_2 a1_3).bind fun t1222 => (some t1222)) else (some false))) else (some false))) = some r := h
  clear h
  replace H := qH H
  obtain ⟨t1220, A3, H⟩ := H
  try dsimp only at H
  by_cases c4 : t1220 = true
  · subst c4
    replace H := qT H
    replace H := qH H
    obtain ⟨t1221, A5, H⟩ := H
    try dsimp only at H
    by_cases c6 : t1221 = true
    · subst c6
      replace H := qT H
      replace H := qH H
      obtain ⟨t1222, A7, H⟩ := H
      try dsimp only at H
      obtain rfl := Option.some.inj H
      go_enter Try.func38, Try.ntmps38
      go_wp2_with (first | ((with_reducible refine gate_dst (N := 2) rfl ?_); refine bx (N := 2) (cs := #[.int .i64 a0_0, .int .i64 a0_1, .int .i64 a0_2, .int .i64 a0_3]) (t := 26) ?_; intro gb1218 hg w8 hbox hb; have BK1218 := az hbox; have GW1218 := az ((gE hg (qL HB) : w.heap.size ≤ gb1218)); have GE1218 := GW1218; replace HB := bS HB hb; clear hb hbox hg) | ((with_reducible refine gate_dst (N := 3) rfl ?_); refine bx (N := 3) (cs := #[.int .i64 a1_0, .int .i64 a1_1, .int .i64 a1_2, .int .i64 a1_3]) (t := 26) ?_; intro gb1219 hg w9 hbox hb; have BK1219 := az hbox; have GW1219 := az ((gE hg (qL HB) : w.heap.size ≤ gb1219)); have GE1219 := GW1219; obtain ⟨NB1218_1219, NB1219_1218⟩ := nPB BK1218 hg; replace BK1218 := kBB BK1218 hb; replace HB := bS HB hb; clear hb hbox hg; have hnb10 := NB1218_1219.out; have hnc10 := NB1219_1218.out; obtain ⟨hcz11_0, hcz11_1, hcz11_2, hcz11_3⟩ := cz4 BK1218.out; obtain ⟨hfz11_0, hfz11_1, hfz11_2, hfz11_3⟩ := fz4 BK1218.out) | ((with_reducible refine gate_callee (f := 16) rfl ?_); refine gl (some 6) Try.func16 #[.agg #[.int .i64 a0_0, .int .i64 a0_1, .int .i64 a0_2, .int .i64 a0_3]] ?_; (with_reducible refine (impl_BoxOk.calls a0_0 a0_1 a0_2 a0_3 true _ A3.out).mono ?_); rintro e w12 ⟨rfl, hb⟩; refine ⟨_, rfl, ?_⟩; replace BK1218 := kBB BK1218 hb; replace BK1219 := kBB BK1219 hb; replace HB := bS HB hb; clear hb; obtain ⟨hcz13_0, hcz13_1, hcz13_2, hcz13_3⟩ := cz4 BK1219.out; obtain ⟨hfz13_0, hfz13_1, hfz13_2, hfz13_3⟩ := fz4 BK1219.out) | (go_at_call 16; (with_reducible refine (impl_BoxOk.calls a1_0 a1_1 a1_2 a1_3 true _ A5.out).mono ?_); rintro e w14 ⟨rfl, hb⟩; replace BK1218 := kBB BK1218 hb; replace BK1219 := kBB BK1219 hb; replace HB := bS HB hb; clear hb; obtain ⟨hcz15_0, hcz15_1, hcz15_2, hcz15_3⟩ := cz4 BK1218.out; obtain ⟨hfz15_0, hfz15_1, hfz15_2, hfz15_3⟩ := fz4 BK1218.out; obtain ⟨hcz16_0, hcz16_1, hcz16_2, hcz16_3⟩ := cz4 BK1219.out; obtain ⟨hfz16_0, hfz16_1, hfz16_2, hfz16_3⟩ := fz4 BK1219.out) | (go_at_call 81; (with_reducible refine (impl_Box_meets.calls a0_0 a0_1 a0_2 a0_3 a1_0 a1_1 a1_2 a1_3 t1222 _ A7.out).mono ?_); rintro e w17 ⟨rfl, hb⟩; replace BK1218 := kBB BK1218 hb; replace BK1219 := kBB BK1219 hb; replace HB := bS HB hb; clear hb))
      go_ret
      exact ⟨qE, qL HB⟩
    replace c6 := Bool.eq_false_iff.mpr c6
    subst c6
    replace H := qU H
    obtain rfl := Option.some.inj H
    go_enter Try.func38, Try.ntmps38
    go_wp2_with (first | ((with_reducible refine gate_dst (N := 2) rfl ?_); refine bx (N := 2) (cs := #[.int .i64 a0_0, .int .i64 a0_1, .int .i64 a0_2, .int .i64 a0_3]) (t := 26) ?_; intro gb1218 hg w18 hbox hb; have BK1218 := az hbox; have GW1218 := az ((gE hg (qL HB) : w.heap.size ≤ gb1218)); have GE1218 := GW1218; replace HB := bS HB hb; clear hb hbox hg) | ((with_reducible refine gate_dst (N := 3) rfl ?_); refine bx (N := 3) (cs := #[.int .i64 a1_0, .int .i64 a1_1, .int .i64 a1_2, .int .i64 a1_3]) (t := 26) ?_; intro gb1219 hg w19 hbox hb; have BK1219 := az hbox; have GW1219 := az ((gE hg (qL HB) : w.heap.size ≤ gb1219)); have GE1219 := GW1219; obtain ⟨NB1218_1219, NB1219_1218⟩ := nPB BK1218 hg; replace BK1218 := kBB BK1218 hb; replace HB := bS HB hb; clear hb hbox hg; have hnb20 := NB1218_1219.out; have hnc20 := NB1219_1218.out; obtain ⟨hcz21_0, hcz21_1, hcz21_2, hcz21_3⟩ := cz4 BK1218.out; obtain ⟨hfz21_0, hfz21_1, hfz21_2, hfz21_3⟩ := fz4 BK1218.out) | ((with_reducible refine gate_callee (f := 16) rfl ?_); refine gl (some 6) Try.func16 #[.agg #[.int .i64 a0_0, .int .i64 a0_1, .int .i64 a0_2, .int .i64 a0_3]] ?_; (with_reducible refine (impl_BoxOk.calls a0_0 a0_1 a0_2 a0_3 true _ A3.out).mono ?_); rintro e w22 ⟨rfl, hb⟩; refine ⟨_, rfl, ?_⟩; replace BK1218 := kBB BK1218 hb; replace BK1219 := kBB BK1219 hb; replace HB := bS HB hb; clear hb; obtain ⟨hcz23_0, hcz23_1, hcz23_2, hcz23_3⟩ := cz4 BK1219.out; obtain ⟨hfz23_0, hfz23_1, hfz23_2, hfz23_3⟩ := fz4 BK1219.out) | (go_at_call 16; (with_reducible refine (impl_BoxOk.calls a1_0 a1_1 a1_2 a1_3 false _ A5.out).mono ?_); rintro e w24 ⟨rfl, hb⟩; replace BK1218 := kBB BK1218 hb; replace BK1219 := kBB BK1219 hb; replace HB := bS HB hb; clear hb))
    go_ret
    exact ⟨qE, qL HB⟩
  replace c4 := Bool.eq_false_iff.mpr c4
  subst c4
  replace H := qU H
  obtain rfl := Option.some.inj H
  go_enter Try.func38, Try.ntmps38
  go_wp2_with (first | ((with_reducible refine gate_dst (N := 2) rfl ?_); refine bx (N := 2) (cs := #[.int .i64 a0_0, .int .i64 a0_1, .int .i64 a0_2, .int .i64 a0_3]) (t := 26) ?_; intro gb1218 hg w25 hbox hb; have BK1218 := az hbox; have GW1218 := az ((gE hg (qL HB) : w.heap.size ≤ gb1218)); have GE1218 := GW1218; replace HB := bS HB hb; clear hb hbox hg) | ((with_reducible refine gate_dst (N := 3) rfl ?_); refine bx (N := 3) (cs := #[.int .i64 a1_0, .int .i64 a1_1, .int .i64 a1_2, .int .i64 a1_3]) (t := 26) ?_; intro gb1219 hg w26 hbox hb; have BK1219 := az hbox; have GW1219 := az ((gE hg (qL HB) : w.heap.size ≤ gb1219)); have GE1219 := GW1219; obtain ⟨NB1218_1219, NB1219_1218⟩ := nPB BK1218 hg; replace BK1218 := kBB BK1218 hb; replace HB := bS HB hb; clear hb hbox hg; have hnb27 := NB1218_1219.out; have hnc27 := NB1219_1218.out; obtain ⟨hcz28_0, hcz28_1, hcz28_2, hcz28_3⟩ := cz4 BK1218.out; obtain ⟨hfz28_0, hfz28_1, hfz28_2, hfz28_3⟩ := fz4 BK1218.out) | ((with_reducible refine gate_callee (f := 16) rfl ?_); refine gl (some 6) Try.func16 #[.agg #[.int .i64 a0_0, .int .i64 a0_1, .int .i64 a0_2, .int .i64 a0_3]] ?_; (with_reducible refine (impl_BoxOk.calls a0_0 a0_1 a0_2 a0_3 false _ A3.out).mono ?_); rintro e w29 ⟨rfl, hb⟩; refine ⟨_, rfl, ?_⟩; replace BK1218 := kBB BK1218 hb; replace BK1219 := kBB BK1219 hb; replace HB := bS HB hb; clear hb))
  go_ret
  exact ⟨qE, qL HB⟩

/-! ### impl_ShapeBounds: function 39 -/
def impl_ShapeBounds.f (a0_0 : Int) (a0_1 : Int) (a0_2 : Int) (a1_0 : Int) (a1_1 : Int) : Option (Int × Int × Int × Int) := (impl_ShapeOk.f a0_0 a0_1 a0_2).bind fun t1226 => (if t1226 = true then ((impl_isPlace.f a1_0 a1_1).bind fun t1227 => (if t1227 = true then ((impl_Shape_bounds.f a0_0 a0_1 a0_2 a1_0 a1_1).bind fun bt1228 => (some (bt1228.1, bt1228.2.1, bt1228.2.2.1, bt1228.2.2.2))) else (some (0, 0, 0, 0)))) else (some (0, 0, 0, 0)))
set_option maxHeartbeats 8000000 in
set_option maxRecDepth 100000 in
theorem impl_ShapeBounds.calls (a0_0 : Int) (a0_1 : Int) (a0_2 : Int) (a1_0 : Int) (a1_1 : Int) (r1 : Int) (r2 : Int) (r3 : Int) (r4 : Int) (w : World) (h : impl_ShapeBounds.f a0_0 a0_1 a0_2 a1_0 a1_1 = some (r1, r2, r3, r4)) :
    Calls Try.prog 39 #[.agg #[.int .i64 a0_0, .int .i64 a0_1, .int .i64 a0_2], .agg #[.int .i64 a1_0, .int .i64 a1_1]] w fun e w' => e = .returned (.agg #[.int .i64 r1, .int .i64 r2, .int .i64 r3, .int .i64 r4]) ∧ Below w.heap.size w w' := by
  have hu38 := Try.underlying38
  have hu24 := Try.underlying24
  have hu26 := Try.underlying26
  have HB := az (Below.refl w.heap.size w)
  have H : ((impl_ShapeOk.f a0_0 a0_1 a0_2).bind fun t1226 => (if t1226 = true then ((impl_isPlace.f a1_0 a1_1).bind fun t1227 => (if t1227 = true then ((impl_Shape_bounds.f a0_0 a0_1 a0_2 a1_0 a1_1).bind fun bt1228 => (some (bt1228.1, bt1228.2.1, bt1228.2.2.1, bt1228.2.2.2))) else (some (0, 0, 0, 0)))) else (some (0, 0, 0, 0)))) = some (r1, r2, r3, r4) := h
  clear h
  replace H := qH H
  obtain ⟨t1226, A3, H⟩ := H
  try dsimp only at H
  by_cases c4 : t1226 = true
  · subst c4
    replace H := qT H
    replace H := qH H
    obtain ⟨t1227, A5, H⟩ := H
    try dsimp only at H
    by_cases c6 : t1227 = true
    · subst c6
      replace H := qT H
      replace H := qH H
      obtain ⟨⟨t1228, t1229, t1230, t1231⟩, A7, H⟩ := H
      try dsimp only at H
      simp only [Option.some.injEq, Prod.mk.injEq] at H
      obtain ⟨rfl, rfl, rfl, rfl⟩ := H
      go_enter Try.func39, Try.ntmps39
      go_wp2_with (first | ((with_reducible refine gate_dst (N := 2) rfl ?_); refine bx (N := 2) (cs := #[.int .i64 a0_0, .int .i64 a0_1, .int .i64 a0_2]) (t := 38) ?_; intro gb1223 hg w8 hbox hb; have BK1223 := az hbox; have GW1223 := az ((gE hg (qL HB) : w.heap.size ≤ gb1223)); have GE1223 := GW1223; replace HB := bS HB hb; clear hb hbox hg) | ((with_reducible refine gate_dst (N := 3) rfl ?_); refine bx (N := 3) (cs := #[.int .i64 a1_0, .int .i64 a1_1]) (t := 24) ?_; intro gb1224 hg w9 hbox hb; have BK1224 := az hbox; have GW1224 := az ((gE hg (qL HB) : w.heap.size ≤ gb1224)); have GE1224 := GW1224; obtain ⟨NB1223_1224, NB1224_1223⟩ := nPB BK1223 hg; replace BK1223 := kBB BK1223 hb; replace HB := bS HB hb; clear hb hbox hg) | ((with_reducible refine gate_dst (N := 4) rfl ?_); refine bx (N := 4) (cs := #[.int .i64 0, .int .i64 0, .int .i64 0, .int .i64 0]) (t := 26) ?_; intro gb1225 hg w10 hbox hb; have BK1225 := az hbox; have GW1225 := az ((gE hg (qL HB) : w.heap.size ≤ gb1225)); have GE1225 := GW1225; obtain ⟨NB1223_1225, NB1225_1223⟩ := nPB BK1223 hg; obtain ⟨NB1224_1225, NB1225_1224⟩ := nPB BK1224 hg; replace BK1223 := kBB BK1223 hb; replace BK1224 := kBB BK1224 hb; replace HB := bS HB hb; clear hb hbox hg; have hnb11 := NB1223_1224.out; have hnc11 := NB1224_1223.out; have hnb12 := NB1223_1225.out; have hnc12 := NB1225_1223.out; obtain ⟨hcz13_0, hcz13_1, hcz13_2⟩ := cz3 BK1223.out; obtain ⟨hfz13_0, hfz13_1, hfz13_2⟩ := fz3 BK1223.out) | ((with_reducible refine gate_callee (f := 67) rfl ?_); refine gl (some 6) Try.func67 #[.agg #[.int .i64 a0_0, .int .i64 a0_1, .int .i64 a0_2]] ?_; (with_reducible refine (impl_ShapeOk.calls a0_0 a0_1 a0_2 true _ A3.out).mono ?_); rintro e w14 ⟨rfl, hb⟩; refine ⟨_, rfl, ?_⟩; replace BK1223 := kBB BK1223 hb; replace BK1224 := kBB BK1224 hb; replace BK1225 := kBB BK1225 hb; replace HB := bS HB hb; clear hb; have hnb15 := NB1224_1225.out; have hnc15 := NB1225_1224.out; obtain ⟨hcz16_0, hcz16_1⟩ := cz2 BK1224.out; have hfz16_0 := blk_frozen BK1224.out 0; have hfz16_1 := blk_frozen BK1224.out 1) | (go_at_call 68; (with_reducible refine (impl_isPlace.calls a1_0 a1_1 true _ A5.out).mono ?_); rintro e w17 ⟨rfl, hb⟩; replace BK1223 := kBB BK1223 hb; replace BK1224 := kBB BK1224 hb; replace BK1225 := kBB BK1225 hb; replace HB := bS HB hb; clear hb; obtain ⟨hcz18_0, hcz18_1, hcz18_2⟩ := cz3 BK1223.out; obtain ⟨hfz18_0, hfz18_1, hfz18_2⟩ := fz3 BK1223.out; obtain ⟨hcz19_0, hcz19_1⟩ := cz2 BK1224.out; have hfz19_0 := blk_frozen BK1224.out 0; have hfz19_1 := blk_frozen BK1224.out 1) | ((with_reducible refine gate_callee (f := 76) rfl ?_); refine gl (some 16) Try.func76 #[.agg #[.int .i64 a0_0, .int .i64 a0_1, .int .i64 a0_2], .agg #[.int .i64 a1_0, .int .i64 a1_1]] ?_; (with_reducible refine (impl_Shape_bounds.calls a0_0 a0_1 a0_2 a1_0 a1_1 t1228 t1229 t1230 t1231 _ A7.out).mono ?_); rintro e w20 ⟨rfl, hb⟩; refine ⟨_, rfl, ?_⟩; replace BK1223 := kBB BK1223 hb; replace BK1224 := kBB BK1224 hb; replace BK1225 := kBB BK1225 hb; replace HB := bS HB hb; clear hb; obtain ⟨hcz21_0, hcz21_1, hcz21_2, hcz21_3⟩ := cz4 BK1225.out; obtain ⟨hfz21_0, hfz21_1, hfz21_2, hfz21_3⟩ := fz4 BK1225.out))
      refine bodyPost_ret (results_cell_row rfl _ _ gb1225 26 #[.int .i64 t1228, .int .i64 t1229, .int .i64 t1230, .int .i64 t1231] (0, 0) _ rfl (qP BK1225) Try.underlying26 rfl (by kernel_rfl)) rfl ?_
      exact ⟨qE, qL HB⟩
    replace c6 := Bool.eq_false_iff.mpr c6
    subst c6
    replace H := qU H
    simp only [Option.some.injEq, Prod.mk.injEq] at H
    obtain ⟨rfl, rfl, rfl, rfl⟩ := H
    go_enter Try.func39, Try.ntmps39
    go_wp2_with (first | ((with_reducible refine gate_dst (N := 2) rfl ?_); refine bx (N := 2) (cs := #[.int .i64 a0_0, .int .i64 a0_1, .int .i64 a0_2]) (t := 38) ?_; intro gb1223 hg w22 hbox hb; have BK1223 := az hbox; have GW1223 := az ((gE hg (qL HB) : w.heap.size ≤ gb1223)); have GE1223 := GW1223; replace HB := bS HB hb; clear hb hbox hg) | ((with_reducible refine gate_dst (N := 3) rfl ?_); refine bx (N := 3) (cs := #[.int .i64 a1_0, .int .i64 a1_1]) (t := 24) ?_; intro gb1224 hg w23 hbox hb; have BK1224 := az hbox; have GW1224 := az ((gE hg (qL HB) : w.heap.size ≤ gb1224)); have GE1224 := GW1224; obtain ⟨NB1223_1224, NB1224_1223⟩ := nPB BK1223 hg; replace BK1223 := kBB BK1223 hb; replace HB := bS HB hb; clear hb hbox hg) | ((with_reducible refine gate_dst (N := 4) rfl ?_); refine bx (N := 4) (cs := #[.int .i64 0, .int .i64 0, .int .i64 0, .int .i64 0]) (t := 26) ?_; intro gb1225 hg w24 hbox hb; have BK1225 := az hbox; have GW1225 := az ((gE hg (qL HB) : w.heap.size ≤ gb1225)); have GE1225 := GW1225; obtain ⟨NB1223_1225, NB1225_1223⟩ := nPB BK1223 hg; obtain ⟨NB1224_1225, NB1225_1224⟩ := nPB BK1224 hg; replace BK1223 := kBB BK1223 hb; replace BK1224 := kBB BK1224 hb; replace HB := bS HB hb; clear hb hbox hg; have hnb25 := NB1223_1224.out; have hnc25 := NB1224_1223.out; have hnb26 := NB1223_1225.out; have hnc26 := NB1225_1223.out; obtain ⟨hcz27_0, hcz27_1, hcz27_2⟩ := cz3 BK1223.out; obtain ⟨hfz27_0, hfz27_1, hfz27_2⟩ := fz3 BK1223.out) | ((with_reducible refine gate_callee (f := 67) rfl ?_); refine gl (some 6) Try.func67 #[.agg #[.int .i64 a0_0, .int .i64 a0_1, .int .i64 a0_2]] ?_; (with_reducible refine (impl_ShapeOk.calls a0_0 a0_1 a0_2 true _ A3.out).mono ?_); rintro e w28 ⟨rfl, hb⟩; refine ⟨_, rfl, ?_⟩; replace BK1223 := kBB BK1223 hb; replace BK1224 := kBB BK1224 hb; replace BK1225 := kBB BK1225 hb; replace HB := bS HB hb; clear hb; have hnb29 := NB1224_1225.out; have hnc29 := NB1225_1224.out; obtain ⟨hcz30_0, hcz30_1⟩ := cz2 BK1224.out; have hfz30_0 := blk_frozen BK1224.out 0; have hfz30_1 := blk_frozen BK1224.out 1) | (go_at_call 68; (with_reducible refine (impl_isPlace.calls a1_0 a1_1 false _ A5.out).mono ?_); rintro e w31 ⟨rfl, hb⟩; replace BK1223 := kBB BK1223 hb; replace BK1224 := kBB BK1224 hb; replace BK1225 := kBB BK1225 hb; replace HB := bS HB hb; clear hb; obtain ⟨hcz32_0, hcz32_1, hcz32_2, hcz32_3⟩ := cz4 BK1225.out; obtain ⟨hfz32_0, hfz32_1, hfz32_2, hfz32_3⟩ := fz4 BK1225.out))
    refine bodyPost_ret (results_cell_row rfl _ _ gb1225 26 #[.int .i64 0, .int .i64 0, .int .i64 0, .int .i64 0] (0, 0) _ rfl (qP BK1225) Try.underlying26 rfl (by kernel_rfl)) rfl ?_
    exact ⟨qE, qL HB⟩
  replace c4 := Bool.eq_false_iff.mpr c4
  subst c4
  replace H := qU H
  simp only [Option.some.injEq, Prod.mk.injEq] at H
  obtain ⟨rfl, rfl, rfl, rfl⟩ := H
  go_enter Try.func39, Try.ntmps39
  go_wp2_with (first | ((with_reducible refine gate_dst (N := 2) rfl ?_); refine bx (N := 2) (cs := #[.int .i64 a0_0, .int .i64 a0_1, .int .i64 a0_2]) (t := 38) ?_; intro gb1223 hg w33 hbox hb; have BK1223 := az hbox; have GW1223 := az ((gE hg (qL HB) : w.heap.size ≤ gb1223)); have GE1223 := GW1223; replace HB := bS HB hb; clear hb hbox hg) | ((with_reducible refine gate_dst (N := 3) rfl ?_); refine bx (N := 3) (cs := #[.int .i64 a1_0, .int .i64 a1_1]) (t := 24) ?_; intro gb1224 hg w34 hbox hb; have BK1224 := az hbox; have GW1224 := az ((gE hg (qL HB) : w.heap.size ≤ gb1224)); have GE1224 := GW1224; obtain ⟨NB1223_1224, NB1224_1223⟩ := nPB BK1223 hg; replace BK1223 := kBB BK1223 hb; replace HB := bS HB hb; clear hb hbox hg) | ((with_reducible refine gate_dst (N := 4) rfl ?_); refine bx (N := 4) (cs := #[.int .i64 0, .int .i64 0, .int .i64 0, .int .i64 0]) (t := 26) ?_; intro gb1225 hg w35 hbox hb; have BK1225 := az hbox; have GW1225 := az ((gE hg (qL HB) : w.heap.size ≤ gb1225)); have GE1225 := GW1225; obtain ⟨NB1223_1225, NB1225_1223⟩ := nPB BK1223 hg; obtain ⟨NB1224_1225, NB1225_1224⟩ := nPB BK1224 hg; replace BK1223 := kBB BK1223 hb; replace BK1224 := kBB BK1224 hb; replace HB := bS HB hb; clear hb hbox hg; have hnb36 := NB1223_1224.out; have hnc36 := NB1224_1223.out; have hnb37 := NB1223_1225.out; have hnc37 := NB1225_1223.out; obtain ⟨hcz38_0, hcz38_1, hcz38_2⟩ := cz3 BK1223.out; obtain ⟨hfz38_0, hfz38_1, hfz38_2⟩ := fz3 BK1223.out) | ((with_reducible refine gate_callee (f := 67) rfl ?_); refine gl (some 6) Try.func67 #[.agg #[.int .i64 a0_0, .int .i64 a0_1, .int .i64 a0_2]] ?_; (with_reducible refine (impl_ShapeOk.calls a0_0 a0_1 a0_2 false _ A3.out).mono ?_); rintro e w39 ⟨rfl, hb⟩; refine ⟨_, rfl, ?_⟩; replace BK1223 := kBB BK1223 hb; replace BK1224 := kBB BK1224 hb; replace BK1225 := kBB BK1225 hb; replace HB := bS HB hb; clear hb; have hnb40 := NB1225_1224.out; have hnc40 := NB1224_1225.out; obtain ⟨hcz41_0, hcz41_1, hcz41_2, hcz41_3⟩ := cz4 BK1225.out; obtain ⟨hfz41_0, hfz41_1, hfz41_2, hfz41_3⟩ := fz4 BK1225.out))
  refine bodyPost_ret (results_cell_row rfl _ _ gb1225 26 #[.int .i64 0, .int .i64 0, .int .i64 0, .int .i64 0] (0, 0) _ rfl (qP BK1225) Try.underlying26 rfl (by kernel_rfl)) rfl ?_
  exact ⟨qE, qL HB⟩

/-! ### impl_BoxNear: function 41 -/
def impl_BoxNear.f (a0_0 : Int) (a0_1 : Int) (a0_2 : Int) (a0_3 : Int) (a1_0 : Int) (a1_1 : Int) : Option (Int × Int) := (impl_BoxOk.f a0_0 a0_1 a0_2 a0_3).bind fun t1273 => (if t1273 = true then ((impl_VecOk.f a1_0 a1_1).bind fun t1274 => (if t1274 = true then ((impl_Box_near.f a0_0 a0_1 a0_2 a0_3 a1_0 a1_1).bind fun bt1275 => (some (bt1275.1, bt1275.2))) else (some (0, 0)))) else (some (0, 0)))
set_option maxHeartbeats 8000000 in
set_option maxRecDepth 100000 in
theorem impl_BoxNear.calls (a0_0 : Int) (a0_1 : Int) (a0_2 : Int) (a0_3 : Int) (a1_0 : Int) (a1_1 : Int) (r1 : Int) (r2 : Int) (w : World) (h : impl_BoxNear.f a0_0 a0_1 a0_2 a0_3 a1_0 a1_1 = some (r1, r2)) :
    Calls Try.prog 41 #[.agg #[.int .i64 a0_0, .int .i64 a0_1, .int .i64 a0_2, .int .i64 a0_3], .agg #[.int .i64 a1_0, .int .i64 a1_1]] w fun e w' => e = .returned (.agg #[.int .i64 r1, .int .i64 r2]) ∧ Below w.heap.size w w' := by
  have hu26 := Try.underlying26
  have hu24 := Try.underlying24
  have HB := az (Below.refl w.heap.size w)
  have H : ((impl_BoxOk.f a0_0 a0_1 a0_2 a0_3).bind fun t1273 => (if t1273 = true then ((impl_VecOk.f a1_0 a1_1).bind fun t1274 => (if t1274 = true then ((impl_Box_near.f a0_0 a0_1 a0_2 a0_3 a1_0 a1_1).bind fun bt1275 => (some (bt1275.1, bt1275.2))) else (some (0, 0)))) else (some (0, 0)))) = some (r1, r2) := h
  clear h
  replace H := qH H
  obtain ⟨t1273, A3, H⟩ := H
  try dsimp only at H
  by_cases c4 : t1273 = true
  · subst c4
    replace H := qT H
    replace H := qH H
    obtain ⟨t1274, A5, H⟩ := H
    try dsimp only at H
    by_cases c6 : t1274 = true
    · subst c6
      replace H := qT H
      replace H := qH H
      obtain ⟨⟨t1275, t1276⟩, A7, H⟩ := H
      try dsimp only at H
      simp only [Option.some.injEq, Prod.mk.injEq] at H
      obtain ⟨rfl, rfl⟩ := H
      go_enter Try.func41, Try.ntmps41
      go_wp2_with (first | ((with_reducible refine gate_dst (N := 2) rfl ?_); refine bx (N := 2) (cs := #[.int .i64 a0_0, .int .i64 a0_1, .int .i64 a0_2, .int .i64 a0_3]) (t := 26) ?_; intro gb1270 hg w8 hbox hb; have BK1270 := az hbox; have GW1270 := az ((gE hg (qL HB) : w.heap.size ≤ gb1270)); have GE1270 := GW1270; replace HB := bS HB hb; clear hb hbox hg) | ((with_reducible refine gate_dst (N := 3) rfl ?_); refine bx (N := 3) (cs := #[.int .i64 a1_0, .int .i64 a1_1]) (t := 24) ?_; intro gb1271 hg w9 hbox hb; have BK1271 := az hbox; have GW1271 := az ((gE hg (qL HB) : w.heap.size ≤ gb1271)); have GE1271 := GW1271; obtain ⟨NB1270_1271, NB1271_1270⟩ := nPB BK1270 hg; replace BK1270 := kBB BK1270 hb; replace HB := bS HB hb; clear hb hbox hg) | ((with_reducible refine gate_dst (N := 4) rfl ?_); refine bx (N := 4) (cs := #[.int .i64 0, .int .i64 0]) (t := 24) ?_; intro gb1272 hg w10 hbox hb; have BK1272 := az hbox; have GW1272 := az ((gE hg (qL HB) : w.heap.size ≤ gb1272)); have GE1272 := GW1272; obtain ⟨NB1270_1272, NB1272_1270⟩ := nPB BK1270 hg; obtain ⟨NB1271_1272, NB1272_1271⟩ := nPB BK1271 hg; replace BK1270 := kBB BK1270 hb; replace BK1271 := kBB BK1271 hb; replace HB := bS HB hb; clear hb hbox hg; have hnb11 := NB1270_1271.out; have hnc11 := NB1271_1270.out; have hnb12 := NB1270_1272.out; have hnc12 := NB1272_1270.out; obtain ⟨hcz13_0, hcz13_1, hcz13_2, hcz13_3⟩ := cz4 BK1270.out; obtain ⟨hfz13_0, hfz13_1, hfz13_2, hfz13_3⟩ := fz4 BK1270.out) | ((with_reducible refine gate_callee (f := 16) rfl ?_); refine gl (some 6) Try.func16 #[.agg #[.int .i64 a0_0, .int .i64 a0_1, .int .i64 a0_2, .int .i64 a0_3]] ?_; (with_reducible refine (impl_BoxOk.calls a0_0 a0_1 a0_2 a0_3 true _ A3.out).mono ?_); rintro e w14 ⟨rfl, hb⟩; refine ⟨_, rfl, ?_⟩; replace BK1270 := kBB BK1270 hb; replace BK1271 := kBB BK1271 hb; replace BK1272 := kBB BK1272 hb; replace HB := bS HB hb; clear hb; have hnb15 := NB1271_1272.out; have hnc15 := NB1272_1271.out; obtain ⟨hcz16_0, hcz16_1⟩ := cz2 BK1271.out; have hfz16_0 := blk_frozen BK1271.out 0; have hfz16_1 := blk_frozen BK1271.out 1) | (go_at_call 47; (with_reducible refine (impl_VecOk.calls a1_0 a1_1 true _ A5.out).mono ?_); rintro e w17 ⟨rfl, hb⟩; replace BK1270 := kBB BK1270 hb; replace BK1271 := kBB BK1271 hb; replace BK1272 := kBB BK1272 hb; replace HB := bS HB hb; clear hb; obtain ⟨hcz18_0, hcz18_1, hcz18_2, hcz18_3⟩ := cz4 BK1270.out; obtain ⟨hfz18_0, hfz18_1, hfz18_2, hfz18_3⟩ := fz4 BK1270.out; obtain ⟨hcz19_0, hcz19_1⟩ := cz2 BK1271.out; have hfz19_0 := blk_frozen BK1271.out 0; have hfz19_1 := blk_frozen BK1271.out 1) | ((with_reducible refine gate_callee (f := 82) rfl ?_); refine gl (some 16) Try.func82 #[.agg #[.int .i64 a0_0, .int .i64 a0_1, .int .i64 a0_2, .int .i64 a0_3], .agg #[.int .i64 a1_0, .int .i64 a1_1]] ?_; (with_reducible refine (impl_Box_near.calls a0_0 a0_1 a0_2 a0_3 a1_0 a1_1 t1275 t1276 _ A7.out).mono ?_); rintro e w20 ⟨rfl, hb⟩; refine ⟨_, rfl, ?_⟩; replace BK1270 := kBB BK1270 hb; replace BK1271 := kBB BK1271 hb; replace BK1272 := kBB BK1272 hb; replace HB := bS HB hb; clear hb; obtain ⟨hcz21_0, hcz21_1⟩ := cz2 BK1272.out; have hfz21_0 := blk_frozen BK1272.out 0; have hfz21_1 := blk_frozen BK1272.out 1))
      refine bodyPost_ret (results_cell_row rfl _ _ gb1272 24 #[.int .i64 t1275, .int .i64 t1276] (0, 0) _ rfl (qP BK1272) Try.underlying24 rfl (by kernel_rfl)) rfl ?_
      exact ⟨qE, qL HB⟩
    replace c6 := Bool.eq_false_iff.mpr c6
    subst c6
    replace H := qU H
    simp only [Option.some.injEq, Prod.mk.injEq] at H
    obtain ⟨rfl, rfl⟩ := H
    go_enter Try.func41, Try.ntmps41
    go_wp2_with (first | ((with_reducible refine gate_dst (N := 2) rfl ?_); refine bx (N := 2) (cs := #[.int .i64 a0_0, .int .i64 a0_1, .int .i64 a0_2, .int .i64 a0_3]) (t := 26) ?_; intro gb1270 hg w22 hbox hb; have BK1270 := az hbox; have GW1270 := az ((gE hg (qL HB) : w.heap.size ≤ gb1270)); have GE1270 := GW1270; replace HB := bS HB hb; clear hb hbox hg) | ((with_reducible refine gate_dst (N := 3) rfl ?_); refine bx (N := 3) (cs := #[.int .i64 a1_0, .int .i64 a1_1]) (t := 24) ?_; intro gb1271 hg w23 hbox hb; have BK1271 := az hbox; have GW1271 := az ((gE hg (qL HB) : w.heap.size ≤ gb1271)); have GE1271 := GW1271; obtain ⟨NB1270_1271, NB1271_1270⟩ := nPB BK1270 hg; replace BK1270 := kBB BK1270 hb; replace HB := bS HB hb; clear hb hbox hg) | ((with_reducible refine gate_dst (N := 4) rfl ?_); refine bx (N := 4) (cs := #[.int .i64 0, .int .i64 0]) (t := 24) ?_; intro gb1272 hg w24 hbox hb; have BK1272 := az hbox; have GW1272 := az ((gE hg (qL HB) : w.heap.size ≤ gb1272)); have GE1272 := GW1272; obtain ⟨NB1270_1272, NB1272_1270⟩ := nPB BK1270 hg; obtain ⟨NB1271_1272, NB1272_1271⟩ := nPB BK1271 hg; replace BK1270 := kBB BK1270 hb; replace BK1271 := kBB BK1271 hb; replace HB := bS HB hb; clear hb hbox hg; have hnb25 := NB1270_1271.out; have hnc25 := NB1271_1270.out; have hnb26 := NB1270_1272.out; have hnc26 := NB1272_1270.out; obtain ⟨hcz27_0, hcz27_1, hcz27_2, hcz27_3⟩ := cz4 BK1270.out; obtain ⟨hfz27_0, hfz27_1, hfz27_2, hfz27_3⟩ := fz4 BK1270.out) | ((with_reducible refine gate_callee (f := 16) rfl ?_); refine gl (some 6) Try.func16 #[.agg #[.int .i64 a0_0, .int .i64 a0_1, .int .i64 a0_2, .int .i64 a0_3]] ?_; (with_reducible refine (impl_BoxOk.calls a0_0 a0_1 a0_2 a0_3 true _ A3.out).mono ?_); rintro e w28 ⟨rfl, hb⟩; refine ⟨_, rfl, ?_⟩; replace BK1270 := kBB BK1270 hb; replace BK1271 := kBB BK1271 hb; replace BK1272 := kBB BK1272 hb; replace HB := bS HB hb; clear hb; have hnb29 := NB1271_1272.out; have hnc29 := NB1272_1271.out; obtain ⟨hcz30_0, hcz30_1⟩ := cz2 BK1271.out; have hfz30_0 := blk_frozen BK1271.out 0; have hfz30_1 := blk_frozen BK1271.out 1) | (go_at_call 47; (with_reducible refine (impl_VecOk.calls a1_0 a1_1 false _ A5.out).mono ?_); rintro e w31 ⟨rfl, hb⟩; replace BK1270 := kBB BK1270 hb; replace BK1271 := kBB BK1271 hb; replace BK1272 := kBB BK1272 hb; replace HB := bS HB hb; clear hb; obtain ⟨hcz32_0, hcz32_1⟩ := cz2 BK1272.out; have hfz32_0 := blk_frozen BK1272.out 0; have hfz32_1 := blk_frozen BK1272.out 1))
    refine bodyPost_ret (results_cell_row rfl _ _ gb1272 24 #[.int .i64 0, .int .i64 0] (0, 0) _ rfl (qP BK1272) Try.underlying24 rfl (by kernel_rfl)) rfl ?_
    exact ⟨qE, qL HB⟩
  replace c4 := Bool.eq_false_iff.mpr c4
  subst c4
  replace H := qU H
  simp only [Option.some.injEq, Prod.mk.injEq] at H
  obtain ⟨rfl, rfl⟩ := H
  go_enter Try.func41, Try.ntmps41
  go_wp2_with (first | ((with_reducible refine gate_dst (N := 2) rfl ?_); refine bx (N := 2) (cs := #[.int .i64 a0_0, .int .i64 a0_1, .int .i64 a0_2, .int .i64 a0_3]) (t := 26) ?_; intro gb1270 hg w33 hbox hb; have BK1270 := az hbox; have GW1270 := az ((gE hg (qL HB) : w.heap.size ≤ gb1270)); have GE1270 := GW1270; replace HB := bS HB hb; clear hb hbox hg) | ((with_reducible refine gate_dst (N := 3) rfl ?_); refine bx (N := 3) (cs := #[.int .i64 a1_0, .int .i64 a1_1]) (t := 24) ?_; intro gb1271 hg w34 hbox hb; have BK1271 := az hbox; have GW1271 := az ((gE hg (qL HB) : w.heap.size ≤ gb1271)); have GE1271 := GW1271; obtain ⟨NB1270_1271, NB1271_1270⟩ := nPB BK1270 hg; replace BK1270 := kBB BK1270 hb; replace HB := bS HB hb; clear hb hbox hg) | ((with_reducible refine gate_dst (N := 4) rfl ?_); refine bx (N := 4) (cs := #[.int .i64 0, .int .i64 0]) (t := 24) ?_; intro gb1272 hg w35 hbox hb; have BK1272 := az hbox; have GW1272 := az ((gE hg (qL HB) : w.heap.size ≤ gb1272)); have GE1272 := GW1272; obtain ⟨NB1270_1272, NB1272_1270⟩ := nPB BK1270 hg; obtain ⟨NB1271_1272, NB1272_1271⟩ := nPB BK1271 hg; replace BK1270 := kBB BK1270 hb; replace BK1271 := kBB BK1271 hb; replace HB := bS HB hb; clear hb hbox hg; have hnb36 := NB1270_1271.out; have hnc36 := NB1271_1270.out; have hnb37 := NB1270_1272.out; have hnc37 := NB1272_1270.out; obtain ⟨hcz38_0, hcz38_1, hcz38_2, hcz38_3⟩ := cz4 BK1270.out; obtain ⟨hfz38_0, hfz38_1, hfz38_2, hfz38_3⟩ := fz4 BK1270.out) | ((with_reducible refine gate_callee (f := 16) rfl ?_); refine gl (some 6) Try.func16 #[.agg #[.int .i64 a0_0, .int .i64 a0_1, .int .i64 a0_2, .int .i64 a0_3]] ?_; (with_reducible refine (impl_BoxOk.calls a0_0 a0_1 a0_2 a0_3 false _ A3.out).mono ?_); rintro e w39 ⟨rfl, hb⟩; refine ⟨_, rfl, ?_⟩; replace BK1270 := kBB BK1270 hb; replace BK1271 := kBB BK1271 hb; replace BK1272 := kBB BK1272 hb; replace HB := bS HB hb; clear hb; have hnb40 := NB1272_1271.out; have hnc40 := NB1271_1272.out; obtain ⟨hcz41_0, hcz41_1⟩ := cz2 BK1272.out; have hfz41_0 := blk_frozen BK1272.out 0; have hfz41_1 := blk_frozen BK1272.out 1))
  refine bodyPost_ret (results_cell_row rfl _ _ gb1272 24 #[.int .i64 0, .int .i64 0] (0, 0) _ rfl (qP BK1272) Try.underlying24 rfl (by kernel_rfl)) rfl ?_
  exact ⟨qE, qL HB⟩

/-! ### impl_ShapeHas: function 42 -/
def impl_ShapeHas.j0 : Nat → Bool → Int → Int → Int → Int → Int → Int → Int → Option (Bool)
  | 0, _, _, _, _, _, _, _, _ => none
  | k + 1, x19, x1278000, x1278001, x1278002, x1279000, x1279001, x1280000, x1280001 => if x19 = true then (some false) else (if x1278000 = 1 then ((impl_Vec_minus.f x1280000 x1280001 x1279000 x1279001).bind fun bt1283 => ((impl_Vec_square.f bt1283.1 bt1283.2).bind fun t1285 => (some (decide (t1285 ≤ (wrap64 (x1278001 * x1278001))))))) else ((impl_Shape_bounds.f x1278000 x1278001 x1278002 x1279000 x1279001).bind fun bt1286 => ((impl_Box_has.f bt1286.1 bt1286.2.1 bt1286.2.2.1 bt1286.2.2.2 x1280000 x1280001).bind fun t1290 => (some t1290))))
def impl_ShapeHas.f (k : Nat) (a0_0 : Int) (a0_1 : Int) (a0_2 : Int) (a1_0 : Int) (a1_1 : Int) (a2_0 : Int) (a2_1 : Int) : Option (Bool) := (impl_ShapeOk.f a0_0 a0_1 a0_2).bind fun t1280 => (if t1280 = true then ((impl_isPlace.f a1_0 a1_1).bind fun t1281 => (if t1281 = true then ((impl_isPlace.f a2_0 a2_1).bind fun t1282 => (impl_ShapeHas.j0 k (!t1282) a0_0 a0_1 a0_2 a1_0 a1_1 a2_0 a2_1)) else (impl_ShapeHas.j0 k true a0_0 a0_1 a0_2 a1_0 a1_1 a2_0 a2_1))) else (impl_ShapeHas.j0 k true a0_0 a0_1 a0_2 a1_0 a1_1 a2_0 a2_1))
theorem impl_ShapeHas.mono_l : ∀ k, (∀ y0 y1 y2 y3 y4 y5 y6 y7, LeO (impl_ShapeHas.j0 k y0 y1 y2 y3 y4 y5 y6 y7) (impl_ShapeHas.j0 (k + 1) y0 y1 y2 y3 y4 y5 y6 y7))
  | 0 => fun _ _ _ _ _ _ _ _ r h => by simp [impl_ShapeHas.j0] at h
  | k + 1 => by
    have ih0 := impl_ShapeHas.mono_l k
    · intro y0 y1 y2 y3 y4 y5 y6 y7
      unfold impl_ShapeHas.j0
      repeat' first
      | (with_reducible exact ih0 _ _ _ _ _ _ _ _)
      | (with_reducible exact LeO.refl _)
      | (with_reducible exact LeO.none _)
      | (with_reducible refine LeO.ite ?_ ?_)
      | (with_reducible refine LeO.bind ?_ (fun _ => ?_))
theorem impl_ShapeHas.mono : ∀ a0 a1 a2 a3 a4 a5 a6 k, LeO (impl_ShapeHas.f k a0 a1 a2 a3 a4 a5 a6) (impl_ShapeHas.f (k + 1) a0 a1 a2 a3 a4 a5 a6) := by
  intro a0 a1 a2 a3 a4 a5 a6 k
  have ih0 := impl_ShapeHas.mono_l k
  unfold impl_ShapeHas.f
  repeat' first
      | (with_reducible exact ih0 _ _ _ _ _ _ _ _)
      | (with_reducible exact LeO.refl _)
      | (with_reducible exact LeO.none _)
      | (with_reducible refine LeO.ite ?_ ?_)
      | (with_reducible refine LeO.bind ?_ (fun _ => ?_))
def impl_ShapeHas.T4 : Bool × List (List Nat × List Nat) := (true, [([], []), ([], []), ([0, 1], [0, 1]), ([2, 2], [2]), ([], []), ([4], [4]), ([], []), ([6], [6]), ([5, 7], [5, 7]), ([3, 8], [3, 8]), ([9, 3, 0, 1, 2, 3, 4, 5, 6, 7, 8, 9], [9])])
def impl_ShapeHas.B4 : List Nat := [0, 0, 3, 7, 0, 16, 0, 64, 240, 511, 1023]
theorem impl_ShapeHas.tab4 : rtab .any (opsOf Try.f42 4) = impl_ShapeHas.T4 := by kernel_rfl
theorem impl_ShapeHas.bits4 : waitsOk impl_ShapeHas.T4.2 impl_ShapeHas.B4 = true := by kernel_rfl
set_option maxHeartbeats 8000000 in
set_option maxRecDepth 100000 in
theorem impl_ShapeHas.calls (k : Nat) (a0_0 : Int) (a0_1 : Int) (a0_2 : Int) (a1_0 : Int) (a1_1 : Int) (a2_0 : Int) (a2_1 : Int) (r : Bool) (w : World) (h : impl_ShapeHas.f k a0_0 a0_1 a0_2 a1_0 a1_1 a2_0 a2_1 = some r) :
    Calls Try.prog 42 #[.agg #[.int .i64 a0_0, .int .i64 a0_1, .int .i64 a0_2], .agg #[.int .i64 a1_0, .int .i64 a1_1], .agg #[.int .i64 a2_0, .int .i64 a2_1]] w fun e w' => e = .returned (.bool r) ∧ Below w.heap.size w w' := by
  have hu38 := Try.underlying38
  have hu24 := Try.underlying24
  have HB := az (Below.refl w.heap.size w)
  have H : ((impl_ShapeOk.f a0_0 a0_1 a0_2).bind fun t1280 => (if t1280 = true then ((impl_isPlace.f a1_0 a1_1).bind fun t1281 => (if t1281 = true then ((impl_isPlace.f a2_0 a2_1).bind fun t1282 => (impl_ShapeHas.j0 k (!t1282) a0_0 a0_1 a0_2 a1_0 a1_1 a2_0 a2_1)) else (impl_ShapeHas.j0 k true a0_0 a0_1 a0_2 a1_0 a1_1 a2_0 a2_1))) else (impl_ShapeHas.j0 k true a0_0 a0_1 a0_2 a1_0 a1_1 a2_0 a2_1))) = some r := h
  clear h
  have HC4 := az H
  clear H
  go_enter Try.func42, Try.ntmps42
  go_upto_region 1 with (first | ((with_reducible refine gate_dst (N := 3) rfl ?_); refine bx (N := 3) (cs := #[.int .i64 a0_0, .int .i64 a0_1, .int .i64 a0_2]) (t := 38) ?_; intro gb1277 hg w5 hbox hb; have BK1277 := az hbox; have GW1277 := az ((gE hg (qL HB) : w.heap.size ≤ gb1277)); have GE1277 := GW1277; replace HB := bS HB hb; clear hb hbox hg) | ((with_reducible refine gate_dst (N := 4) rfl ?_); refine bx (N := 4) (cs := #[.int .i64 a1_0, .int .i64 a1_1]) (t := 24) ?_; intro gb1278 hg w6 hbox hb; have BK1278 := az hbox; have GW1278 := az ((gE hg (qL HB) : w.heap.size ≤ gb1278)); have GE1278 := GW1278; obtain ⟨NB1277_1278, NB1278_1277⟩ := nPB BK1277 hg; replace BK1277 := kBB BK1277 hb; replace HB := bS HB hb; clear hb hbox hg) | ((with_reducible refine gate_dst (N := 5) rfl ?_); refine bx (N := 5) (cs := #[.int .i64 a2_0, .int .i64 a2_1]) (t := 24) ?_; intro gb1279 hg w7 hbox hb; have BK1279 := az hbox; have GW1279 := az ((gE hg (qL HB) : w.heap.size ≤ gb1279)); have GE1279 := GW1279; obtain ⟨NB1277_1279, NB1279_1277⟩ := nPB BK1277 hg; obtain ⟨NB1278_1279, NB1279_1278⟩ := nPB BK1278 hg; replace BK1277 := kBB BK1277 hb; replace BK1278 := kBB BK1278 hb; replace HB := bS HB hb; clear hb hbox hg))
  (try simp only [Act.put, List.setIfInBounds_toArray, List.set_cons_zero, List.set_cons_succ])
  go_cut [19] (fun v19 wc => ∃ (kq : Nat) (x19_3 : Bool), v19 = .bool x19_3 ∧ Aside0 (impl_ShapeHas.j0 kq x19_3 a0_0 a0_1 a0_2 a1_0 a1_1 a2_0 a2_1 = some r) ∧ Aside0 (kq ≤ k) ∧ Aside0 (wc.heap[gb1277]? = some (.cells #[.int .i64 a0_0, .int .i64 a0_1, .int .i64 a0_2] 38 (0, 0))) ∧ Aside0 (wc.heap[gb1278]? = some (.cells #[.int .i64 a1_0, .int .i64 a1_1] 24 (0, 0))) ∧ Aside0 (wc.heap[gb1279]? = some (.cells #[.int .i64 a2_0, .int .i64 a2_1] 24 (0, 0))) ∧ Aside0 (Below w.heap.size w wc))
  case first =>
    have H := HC4.out
    clear HC4
    replace H := qH H
    obtain ⟨t1280, A8, H⟩ := H
    try dsimp only at H
    by_cases c9 : t1280 = true
    · subst c9
      replace H := qT H
      replace H := qH H
      obtain ⟨t1281, A10, H⟩ := H
      try dsimp only at H
      by_cases c11 : t1281 = true
      · subst c11
        replace H := qT H
        replace H := qH H
        obtain ⟨t1282, A12, H⟩ := H
        try dsimp only at H
        have H' := az H
        clear H
        have hnb13 := NB1277_1278.out
        have hnc13 := NB1278_1277.out
        have hnb14 := NB1277_1279.out
        have hnc14 := NB1279_1277.out
        obtain ⟨hcz15_0, hcz15_1, hcz15_2⟩ := cz3 BK1277.out
        obtain ⟨hfz15_0, hfz15_1, hfz15_2⟩ := fz3 BK1277.out
        go_wp2_with (first | ((with_reducible refine gate_callee (f := 67) rfl ?_); refine gl (some 8) Try.func67 #[.agg #[.int .i64 a0_0, .int .i64 a0_1, .int .i64 a0_2]] ?_; (with_reducible refine (impl_ShapeOk.calls a0_0 a0_1 a0_2 true _ A8.out).mono ?_); rintro e w16 ⟨rfl, hb⟩; refine ⟨_, rfl, ?_⟩; replace BK1277 := kBB BK1277 hb; replace BK1278 := kBB BK1278 hb; replace BK1279 := kBB BK1279 hb; replace HB := bS HB hb; clear hb; have hnb17 := NB1278_1279.out; have hnc17 := NB1279_1278.out; obtain ⟨hcz18_0, hcz18_1⟩ := cz2 BK1278.out; have hfz18_0 := blk_frozen BK1278.out 0; have hfz18_1 := blk_frozen BK1278.out 1) | (go_at_call 68; (with_reducible refine (impl_isPlace.calls a1_0 a1_1 true _ A10.out).mono ?_); rintro e w19 ⟨rfl, hb⟩; replace BK1277 := kBB BK1277 hb; replace BK1278 := kBB BK1278 hb; replace BK1279 := kBB BK1279 hb; replace HB := bS HB hb; clear hb; obtain ⟨hcz20_0, hcz20_1⟩ := cz2 BK1279.out; have hfz20_0 := blk_frozen BK1279.out 0; have hfz20_1 := blk_frozen BK1279.out 1) | (go_at_call 68; (with_reducible refine (impl_isPlace.calls a2_0 a2_1 t1282 _ A12.out).mono ?_); rintro e w21 ⟨rfl, hb⟩; replace BK1277 := kBB BK1277 hb; replace BK1278 := kBB BK1278 hb; replace BK1279 := kBB BK1279 hb; replace HB := bS HB hb; clear hb))
        go_meet
        case rel => exact ⟨_, (!t1282), (by first | rfl | (simp; done) | (simp [*]; done)), H', ⟨by first | omega | exact Nat.le_refl _⟩, ⟨qF BK1277⟩, ⟨qF BK1278⟩, ⟨qF BK1279⟩, ⟨qL HB⟩⟩
      replace c11 := Bool.eq_false_iff.mpr c11
      subst c11
      replace H := qU H
      have H' := az H
      clear H
      have hnb22 := NB1277_1278.out
      have hnc22 := NB1278_1277.out
      have hnb23 := NB1277_1279.out
      have hnc23 := NB1279_1277.out
      obtain ⟨hcz24_0, hcz24_1, hcz24_2⟩ := cz3 BK1277.out
      obtain ⟨hfz24_0, hfz24_1, hfz24_2⟩ := fz3 BK1277.out
      go_wp2_with (first | ((with_reducible refine gate_callee (f := 67) rfl ?_); refine gl (some 8) Try.func67 #[.agg #[.int .i64 a0_0, .int .i64 a0_1, .int .i64 a0_2]] ?_; (with_reducible refine (impl_ShapeOk.calls a0_0 a0_1 a0_2 true _ A8.out).mono ?_); rintro e w25 ⟨rfl, hb⟩; refine ⟨_, rfl, ?_⟩; replace BK1277 := kBB BK1277 hb; replace BK1278 := kBB BK1278 hb; replace BK1279 := kBB BK1279 hb; replace HB := bS HB hb; clear hb; have hnb26 := NB1278_1279.out; have hnc26 := NB1279_1278.out; obtain ⟨hcz27_0, hcz27_1⟩ := cz2 BK1278.out; have hfz27_0 := blk_frozen BK1278.out 0; have hfz27_1 := blk_frozen BK1278.out 1) | (go_at_call 68; (with_reducible refine (impl_isPlace.calls a1_0 a1_1 false _ A10.out).mono ?_); rintro e w28 ⟨rfl, hb⟩; replace BK1277 := kBB BK1277 hb; replace BK1278 := kBB BK1278 hb; replace BK1279 := kBB BK1279 hb; replace HB := bS HB hb; clear hb))
      go_meet
      case rel => exact ⟨_, (true), (by first | rfl | (simp; done) | (simp [*]; done)), H', ⟨by first | omega | exact Nat.le_refl _⟩, ⟨qF BK1277⟩, ⟨qF BK1278⟩, ⟨qF BK1279⟩, ⟨qL HB⟩⟩
    replace c9 := Bool.eq_false_iff.mpr c9
    subst c9
    replace H := qU H
    have H' := az H
    clear H
    have hnb29 := NB1277_1278.out
    have hnc29 := NB1278_1277.out
    have hnb30 := NB1277_1279.out
    have hnc30 := NB1279_1277.out
    obtain ⟨hcz31_0, hcz31_1, hcz31_2⟩ := cz3 BK1277.out
    obtain ⟨hfz31_0, hfz31_1, hfz31_2⟩ := fz3 BK1277.out
    go_wp2_with (first | ((with_reducible refine gate_callee (f := 67) rfl ?_); refine gl (some 8) Try.func67 #[.agg #[.int .i64 a0_0, .int .i64 a0_1, .int .i64 a0_2]] ?_; (with_reducible refine (impl_ShapeOk.calls a0_0 a0_1 a0_2 false _ A8.out).mono ?_); rintro e w32 ⟨rfl, hb⟩; refine ⟨_, rfl, ?_⟩; replace BK1277 := kBB BK1277 hb; replace BK1278 := kBB BK1278 hb; replace BK1279 := kBB BK1279 hb; replace HB := bS HB hb; clear hb))
    go_meet
    case rel => exact ⟨_, (true), (by first | rfl | (simp; done) | (simp [*]; done)), H', ⟨by first | omega | exact Nat.le_refl _⟩, ⟨qF BK1277⟩, ⟨qF BK1278⟩, ⟨qF BK1279⟩, ⟨qL HB⟩⟩
  case rest =>
    clear HC4
    obtain ⟨kq, x19_3, rfl, HA, HJ3, BK1277, BK1278, BK1279, HB⟩ := hcut
    cases kq with
    | zero => exact absurd HA.out (by simp [impl_ShapeHas.j0])
    | succ kj3 => ?_
    have H := HA.out
    clear HA
    simp only [impl_ShapeHas.j0] at H
    by_cases c33 : x19_3 = true
    · subst c33
      replace H := qT H
      obtain rfl := Option.some.inj H
      go_wp2
      go_ret
      exact ⟨qE, qL HB⟩
    replace c33 := Bool.eq_false_iff.mpr c33
    subst c33
    replace H := qU H
    by_cases c34 : a0_0 = 1
    · rw [if_pos c34] at H
      have c34b0 : (a0_0 == 1) = true := beq_iff_eq.mpr c34
      have c34b1 : (a0_0 != 1) = false := bne_eq_false_iff_eq.mpr c34
      clear c34
      replace H := qH H
      obtain ⟨⟨t1283, t1284⟩, A35, H⟩ := H
      try dsimp only at H
      replace H := qH H
      obtain ⟨t1285, A36, H⟩ := H
      try dsimp only at H
      obtain rfl := Option.some.inj H
      have hnb37 := NB1277_1278.out
      have hnc37 := NB1278_1277.out
      have hnb38 := NB1277_1279.out
      have hnc38 := NB1279_1277.out
      obtain ⟨hcz39_0, hcz39_1, hcz39_2⟩ := cz3 BK1277.out
      obtain ⟨hfz39_0, hfz39_1, hfz39_2⟩ := fz3 BK1277.out
      try go_wp2
      replace BK1277 := az (blk_drew BK1277.out)
      replace BK1278 := az (blk_drew BK1278.out)
      replace BK1279 := az (blk_drew BK1279.out)
      replace HB := az (below_drew1 HB.out)
      refine start_ (n := 11) (S := fun w' => w'.cell? ⟨gb1279, 0, none⟩ = some (.int .i64 a2_0) ∧ w'.cell? ⟨gb1279, 1, none⟩ = some (.int .i64 a2_1) ∧ w'.cell? ⟨gb1278, 0, none⟩ = some (.int .i64 a1_0) ∧ w'.cell? ⟨gb1278, 1, none⟩ = some (.int .i64 a1_1) ∧ w'.cell? ⟨gb1277, 0, none⟩ = some (.int .i64 a0_0) ∧ w'.cell? ⟨gb1277, 1, none⟩ = some (.int .i64 a0_1) ∧ w'.cell? ⟨gb1277, 2, none⟩ = some (.int .i64 a0_2)) (ds := []) #[false, false, false, false, false, false, false, false, false, false, false] (by kernel_rfl) rfl rfl ⟨bc BK1279 0, bc BK1279 1, bc BK1278 0, bc BK1278 1, bc BK1277 0, bc BK1277 1, bc BK1277 2⟩ (fun hHeld => ?_); refine with_tabW impl_ShapeHas.tab4 impl_ShapeHas.bits4 (fun HT_ HW_ => ?_)
      generalize wc.drew = w40 at BK1277 BK1278 BK1279 HB hHeld ⊢
      refine pu 4 (some 27) (fl 11 16) HT_ ?_
      refine pu 6 (some 29) (fl 11 80) HT_ ?_
      refine tk7 0 (some 23) (fl 11 81) HT_ HW_ hHeld ?_
      refine tk7 1 (some 24) (fl 11 83) HT_ HW_ hHeld ?_
      refine tk7 5 (some 28) (fl 11 115) HT_ HW_ hHeld ?_
      refine tk7 7 (some 30) (fl 11 243) HT_ HW_ hHeld ?_
      refine pu 8 (some 31) (fl 11 499) HT_ ?_
      refine on 2 (some 25) (fl 11 503) HT_ (fun K hK => ?_)
      refine go1 Try.func83 #[.agg #[.int .i64 a2_0, .int .i64 a2_1], .agg #[.int .i64 a1_0, .int .i64 a1_1]] ?_
      with_reducible refine (impl_Vec_minus.calls a2_0 a2_1 a1_0 a1_1 t1283 t1284 _ A35.out).mono ?_
      rintro e w41 ⟨rfl, hb⟩
      refine ⟨_, rfl, ?_⟩
      replace BK1277 := kBB BK1277 hb
      replace BK1278 := kBB BK1278 hb
      replace BK1279 := kBB BK1279 hb
      replace HB := bS HB hb
      clear hb
      refine hK.out _ _ ⟨bc BK1279 0, bc BK1279 1, bc BK1278 0, bc BK1278 1, bc BK1277 0, bc BK1277 1, bc BK1277 2⟩ (fun hHeld => ?_)
      clear hK K
      refine nm (some 25) ?_
      refine on 3 (some 26) (fl 11 511) HT_ (fun K hK => ?_)
      refine go1 Try.func84 #[.agg #[.int .i64 t1283, .int .i64 t1284]] ?_
      with_reducible refine (impl_Vec_square.calls t1283 t1284 t1285 _ A36.out).mono ?_
      rintro e w42 ⟨rfl, hb⟩
      refine ⟨_, rfl, ?_⟩
      replace BK1277 := kBB BK1277 hb
      replace BK1278 := kBB BK1278 hb
      replace BK1279 := kBB BK1279 hb
      replace HB := bS HB hb
      clear hb
      refine hK.out _ _ ⟨bc BK1279 0, bc BK1279 1, bc BK1278 0, bc BK1278 1, bc BK1277 0, bc BK1277 1, bc BK1277 2⟩ (fun hHeld => ?_)
      clear hK K
      refine nm (some 26) ?_
      refine pu 9 (some 32) (fl 11 1023) HT_ ?_
      refine pu 10 (some 6) (fl 11 2047) HT_ ?_
      refine done_ (done_of HT_.out (by kernel_rfl)) ?_
      try go_wp2
      go_ret
      exact ⟨qE, qL HB⟩
    rw [if_neg c34] at H
    have c34b0 : (a0_0 == 1) = false := beq_eq_false_iff_ne.mpr c34
    have c34b1 : (a0_0 != 1) = true := bne_iff_ne.mpr c34
    replace H := qH H
    obtain ⟨⟨t1286, t1287, t1288, t1289⟩, A43, H⟩ := H
    try dsimp only at H
    replace H := qH H
    obtain ⟨t1290, A44, H⟩ := H
    try dsimp only at H
    obtain rfl := Option.some.inj H
    have hnb45 := NB1277_1278.out
    have hnc45 := NB1278_1277.out
    have hnb46 := NB1277_1279.out
    have hnc46 := NB1279_1277.out
    obtain ⟨hcz47_0, hcz47_1, hcz47_2⟩ := cz3 BK1277.out
    obtain ⟨hfz47_0, hfz47_1, hfz47_2⟩ := fz3 BK1277.out
    try go_wp2
    replace BK1277 := az (blk_drew BK1277.out)
    replace BK1278 := az (blk_drew BK1278.out)
    replace BK1279 := az (blk_drew BK1279.out)
    replace HB := az (below_drew1 HB.out)
    refine start_ (n := 6) (S := fun w' => w'.cell? ⟨gb1277, 0, none⟩ = some (.int .i64 a0_0) ∧ w'.cell? ⟨gb1277, 1, none⟩ = some (.int .i64 a0_1) ∧ w'.cell? ⟨gb1277, 2, none⟩ = some (.int .i64 a0_2) ∧ w'.cell? ⟨gb1278, 0, none⟩ = some (.int .i64 a1_0) ∧ w'.cell? ⟨gb1278, 1, none⟩ = some (.int .i64 a1_1) ∧ w'.cell? ⟨gb1279, 0, none⟩ = some (.int .i64 a2_0) ∧ w'.cell? ⟨gb1279, 1, none⟩ = some (.int .i64 a2_1)) (ds := []) #[false, false, false, false, false, false] (by kernel_rfl) rfl rfl ⟨bc BK1277 0, bc BK1277 1, bc BK1277 2, bc BK1278 0, bc BK1278 1, bc BK1279 0, bc BK1279 1⟩ (fun hHeld => ?_)
    generalize wc.drew = w48 at BK1277 BK1278 BK1279 HB hHeld ⊢
    refine take_ (i := 0) (N := some 33) (v := ?_) (a' := ?_) #[true, false, false, false, false, false] rfl rfl (by kernel_rfl) (fun _ _ _ h => h) (Or.inl ⟨by rfl, ?_⟩) hHeld ?_ ?_
    rotate_left
    · rintro w' ⟨s0, s1, s2, s3, s4, s5, s6⟩
      go_simp
      with_reducible rfl
    rotate_left
    · simp only [Act.put, List.setIfInBounds_toArray, List.set_cons_zero, List.set_cons_succ, i64_w, i32_w]
      rfl
    refine take_ (i := 1) (N := some 34) (v := ?_) (a' := ?_) #[true, true, false, false, false, false] rfl rfl (by kernel_rfl) (fun _ _ _ h => h) (Or.inl ⟨by rfl, ?_⟩) hHeld ?_ ?_
    rotate_left
    · rintro w' ⟨s0, s1, s2, s3, s4, s5, s6⟩
      go_simp
      with_reducible rfl
    rotate_left
    · simp only [Act.put, List.setIfInBounds_toArray, List.set_cons_zero, List.set_cons_succ, i64_w, i32_w]
      rfl
    refine take_ (i := 3) (N := some 36) (v := ?_) (a' := ?_) #[true, true, false, true, false, false] rfl rfl (by kernel_rfl) (fun _ _ _ h => h) (Or.inl ⟨by rfl, ?_⟩) hHeld ?_ ?_
    rotate_left
    · rintro w' ⟨s0, s1, s2, s3, s4, s5, s6⟩
      go_simp
      with_reducible rfl
    rotate_left
    · simp only [Act.put, List.setIfInBounds_toArray, List.set_cons_zero, List.set_cons_succ, i64_w, i32_w]
      rfl
    refine one_ (i := 2) (N := some 35) #[true, true, true, true, false, false] rfl rfl (by kernel_rfl) (by decide) (fun K hK => ?_)
    refine go1 Try.func76 #[.agg #[.int .i64 a0_0, .int .i64 a0_1, .int .i64 a0_2], .agg #[.int .i64 a1_0, .int .i64 a1_1]] ?_
    with_reducible refine (impl_Shape_bounds.calls a0_0 a0_1 a0_2 a1_0 a1_1 t1286 t1287 t1288 t1289 _ A43.out).mono ?_
    rintro e w49 ⟨rfl, hb⟩
    refine ⟨_, rfl, ?_⟩
    replace BK1277 := kBB BK1277 hb
    replace BK1278 := kBB BK1278 hb
    replace BK1279 := kBB BK1279 hb
    replace HB := bS HB hb
    clear hb
    refine hK.out _ _ ⟨bc BK1277 0, bc BK1277 1, bc BK1277 2, bc BK1278 0, bc BK1278 1, bc BK1279 0, bc BK1279 1⟩ (fun hHeld => ?_)
    clear hK K
    refine nm (some 35) ?_
    refine one_ (i := 4) (N := some 37) #[true, true, true, true, true, false] rfl rfl (by kernel_rfl) (by decide) (fun K hK => ?_)
    refine go1 Try.func48 #[.agg #[.int .i64 t1286, .int .i64 t1287, .int .i64 t1288, .int .i64 t1289], .agg #[.int .i64 a2_0, .int .i64 a2_1]] ?_
    with_reducible refine (impl_Box_has.calls t1286 t1287 t1288 t1289 a2_0 a2_1 t1290 _ A44.out).mono ?_
    rintro e w50 ⟨rfl, hb⟩
    refine ⟨_, rfl, ?_⟩
    replace BK1277 := kBB BK1277 hb
    replace BK1278 := kBB BK1278 hb
    replace BK1279 := kBB BK1279 hb
    replace HB := bS HB hb
    clear hb
    refine hK.out _ _ ⟨bc BK1277 0, bc BK1277 1, bc BK1277 2, bc BK1278 0, bc BK1278 1, bc BK1279 0, bc BK1279 1⟩ (fun hHeld => ?_)
    clear hK K
    refine nm (some 37) ?_
    refine pure_ (i := 5) (N := some 6) (v := ?_) (a' := ?_) #[true, true, true, true, true, true] rfl rfl (by kernel_rfl) (fun _ _ _ h => h) (Or.inl ⟨by rfl, ?_⟩) ?_ ?_
    rotate_left
    · intro w'
      go_simp
      with_reducible rfl
    rotate_left
    · simp only [Act.put, List.setIfInBounds_toArray, List.set_cons_zero, List.set_cons_succ, i64_w, i32_w]
      rfl
    refine done_ (by kernel_rfl) ?_
    try go_wp2
    go_ret
    exact ⟨qE, qL HB⟩
end Go.Proofs.Ytihajbjkjclmoaa.PBig
