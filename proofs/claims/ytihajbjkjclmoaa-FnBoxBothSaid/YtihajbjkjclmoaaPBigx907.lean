/- What these functions compute, each walked once: impl_in, impl_VecOk, impl_BoxOk, impl_BoxBoth, impl_Box_has, impl_BoxHas, impl_within, impl_Vec_clamped, impl_isDrive, impl_ShapeOk, impl_isPlace, impl_Body_fixed; for all arguments and worlds, under the conditions that each theorem names. -/
import Derived.Test.YtihajbjkjclmoaaSq
import Derived.Test.YtihajbjkjclmoaaPBigx900
namespace Go.Proofs.Ytihajbjkjclmoaa.PBig
open Go.RowKit Go.Proofs.YtihajbjkjclmoaaW.PrintWords Go.Proofs.YtihajbjkjclmoaaW.PrintLast Go.Proofs.YtihajbjkjclmoaaW.PrintMore
attribute [local go_sem] max2_int min2_int max_two min_two max_three min_three max_four min_four   -- for this text's walks alone
set_option linter.unusedVariables false
set_option linter.unusedSimpArgs false

/-! ### impl_in: function 66 -/
def impl_in.f (a0 : Int) (a1 : Int) (a2 : Int) : Option (Bool) := if a0 ≥ a1 then (some (decide (a0 ≤ a2))) else (some false)
set_option maxHeartbeats 8000000 in
set_option maxRecDepth 100000 in
theorem impl_in.calls (a0 : Int) (a1 : Int) (a2 : Int) (r : Bool) (w : World) (h : impl_in.f a0 a1 a2 = some r) :
    Calls Try.prog 66 #[.int .i64 a0, .int .i64 a1, .int .i64 a2] w fun e w' => e = .returned (.bool r) ∧ Drawn0 w w' := by
  have H : (if a0 ≥ a1 then (some (decide (a0 ≤ a2))) else (some false)) = some r := h
  clear h
  by_cases c4 : a0 ≥ a1
  · rw [if_pos c4] at H
    have c4b0 : decide (a1 ≤ a0) = true := decide_eq_true c4
    clear c4
    obtain rfl := Option.some.inj H
    go_enter Try.func66, Try.ntmps66
    go_wp2
    go_ret
    exact ⟨by first | rfl | (simp; done) | (simp [*]; done), by repeat (first | exact Drawn0.refl _ | apply Drawn0.step)⟩
  rw [if_neg c4] at H
  have c4b0 : decide (a1 ≤ a0) = false := decide_eq_false c4
  clear c4
  obtain rfl := Option.some.inj H
  go_enter Try.func66, Try.ntmps66
  go_wp2
  go_ret
  exact ⟨by first | rfl | (simp; done) | (simp [*]; done), by repeat (first | exact Drawn0.refl _ | apply Drawn0.step)⟩

/-! ### impl_VecOk: function 47 -/
def impl_VecOk.f (a0_0 : Int) (a0_1 : Int) : Option (Bool) := (impl_in.f a0_0 (-1000000000) 1000000000).bind fun t189 => (if t189 = true then ((impl_in.f a0_1 (-1000000000) 1000000000).bind fun t190 => (some t190)) else (some false))
set_option maxHeartbeats 8000000 in
set_option maxRecDepth 100000 in
theorem impl_VecOk.calls (a0_0 : Int) (a0_1 : Int) (r : Bool) (w : World) (h : impl_VecOk.f a0_0 a0_1 = some r) :
    Calls Try.prog 47 #[.agg #[.int .i64 a0_0, .int .i64 a0_1]] w fun e w' => e = .returned (.bool r) ∧ Below w.heap.size w w' := by
  have hu24 := Try.underlying24
  have HB := az (Below.refl w.heap.size w)
  have H : ((impl_in.f a0_0 (-1000000000) 1000000000).bind fun t189 => (if t189 = true then ((impl_in.f a0_1 (-1000000000) 1000000000).bind fun t190 => (some t190)) else (some false))) = some r := h
  clear h
  replace H := qH H
  obtain ⟨t189, A2, H⟩ := H
  try dsimp only at H
  by_cases c3 : t189 = true
  · subst c3
    replace H := qT H
    replace H := qH H
    obtain ⟨t190, A4, H⟩ := H
    try dsimp only at H
    obtain rfl := Option.some.inj H
    go_enter Try.func47, Try.ntmps47
    go_wp2_with (first | ((with_reducible refine gate_dst (N := 1) rfl ?_); refine bx (N := 1) (cs := #[.int .i64 a0_0, .int .i64 a0_1]) (t := 24) ?_; intro gb188 hg w5 hbox hb; have BK188 := az hbox; have GW188 := az ((gE hg (qL HB) : w.heap.size ≤ gb188)); have GE188 := GW188; replace HB := bS HB hb; clear hb hbox hg; obtain ⟨hcz6_0, hcz6_1⟩ := cz2 BK188.out; have hfz6_0 := blk_frozen BK188.out 0; have hfz6_1 := blk_frozen BK188.out 1) | ((with_reducible refine gate_callee (f := 66) rfl ?_); refine gl (some 5) Try.func66 #[.int .i64 a0_0, .int .i64 (-1000000000), .int .i64 1000000000] ?_; (with_reducible refine (impl_in.calls a0_0 (-1000000000) 1000000000 true _ A2.out).mono ?_); rintro e w' ⟨rfl, ⟨nd, rfl⟩⟩; refine ⟨_, rfl, ?_⟩) | (go_at_call 66; (with_reducible refine (impl_in.calls a0_1 (-1000000000) 1000000000 t190 _ A4.out).mono ?_); rintro e w' ⟨rfl, ⟨nd, rfl⟩⟩))
    go_ret
    exact ⟨qE, qL HB⟩
  replace c3 := Bool.eq_false_iff.mpr c3
  subst c3
  replace H := qU H
  obtain rfl := Option.some.inj H
  go_enter Try.func47, Try.ntmps47
  go_wp2_with (first | ((with_reducible refine gate_dst (N := 1) rfl ?_); refine bx (N := 1) (cs := #[.int .i64 a0_0, .int .i64 a0_1]) (t := 24) ?_; intro gb188 hg w7 hbox hb; have BK188 := az hbox; have GW188 := az ((gE hg (qL HB) : w.heap.size ≤ gb188)); have GE188 := GW188; replace HB := bS HB hb; clear hb hbox hg; obtain ⟨hcz8_0, hcz8_1⟩ := cz2 BK188.out; have hfz8_0 := blk_frozen BK188.out 0; have hfz8_1 := blk_frozen BK188.out 1) | ((with_reducible refine gate_callee (f := 66) rfl ?_); refine gl (some 5) Try.func66 #[.int .i64 a0_0, .int .i64 (-1000000000), .int .i64 1000000000] ?_; (with_reducible refine (impl_in.calls a0_0 (-1000000000) 1000000000 false _ A2.out).mono ?_); rintro e w' ⟨rfl, ⟨nd, rfl⟩⟩; refine ⟨_, rfl, ?_⟩))
  go_ret
  exact ⟨qE, qL HB⟩

/-! ### impl_BoxOk: function 16 -/
def impl_BoxOk.f (a0_0 : Int) (a0_1 : Int) (a0_2 : Int) (a0_3 : Int) : Option (Bool) := (impl_VecOk.f a0_0 a0_1).bind fun t192 => (if t192 = true then ((impl_VecOk.f a0_2 a0_3).bind fun t193 => (if t193 = true then (if a0_0 ≤ a0_2 then (some (decide (a0_1 ≤ a0_3))) else (some false)) else (some false))) else (some false))
set_option maxHeartbeats 8000000 in
set_option maxRecDepth 100000 in
theorem impl_BoxOk.calls (a0_0 : Int) (a0_1 : Int) (a0_2 : Int) (a0_3 : Int) (r : Bool) (w : World) (h : impl_BoxOk.f a0_0 a0_1 a0_2 a0_3 = some r) :
    Calls Try.prog 16 #[.agg #[.int .i64 a0_0, .int .i64 a0_1, .int .i64 a0_2, .int .i64 a0_3]] w fun e w' => e = .returned (.bool r) ∧ Below w.heap.size w w' := by
  have hu26 := Try.underlying26
  have hu24 := Try.underlying24
  have HB := az (Below.refl w.heap.size w)
  have H : ((impl_VecOk.f a0_0 a0_1).bind fun t192 => (if t192 = true then ((impl_VecOk.f a0_2 a0_3).bind fun t193 => (if t193 = true then (if a0_0 ≤ a0_2 then (some (decide (a0_1 ≤ a0_3))) else (some false)) else (some false))) else (some false))) = some r := h
  clear h
  replace H := qH H
  obtain ⟨t192, A2, H⟩ := H
  try dsimp only at H
  by_cases c3 : t192 = true
  · subst c3
    replace H := qT H
    replace H := qH H
    obtain ⟨t193, A4, H⟩ := H
    try dsimp only at H
    by_cases c5 : t193 = true
    · subst c5
      replace H := qT H
      by_cases c6 : a0_0 ≤ a0_2
      · rw [if_pos c6] at H
        have c6b0 : decide (a0_0 ≤ a0_2) = true := decide_eq_true c6
        clear c6
        obtain rfl := Option.some.inj H
        go_enter Try.func16, Try.ntmps16
        go_wp2_with (first | ((with_reducible refine gate_dst (N := 1) rfl ?_); refine bx (N := 1) (cs := #[.int .i64 a0_0, .int .i64 a0_1, .int .i64 a0_2, .int .i64 a0_3]) (t := 26) ?_; intro gb191 hg w7 hbox hb; have BK191 := az hbox; have GW191 := az ((gE hg (qL HB) : w.heap.size ≤ gb191)); have GE191 := GW191; replace HB := bS HB hb; clear hb hbox hg; obtain ⟨hcz8_0, hcz8_1, hcz8_2, hcz8_3⟩ := cz4 BK191.out; obtain ⟨hfz8_0, hfz8_1, hfz8_2, hfz8_3⟩ := fz4 BK191.out) | ((with_reducible refine gate_callee (f := 47) rfl ?_); refine gl (some 5) Try.func47 #[.agg #[.int .i64 a0_0, .int .i64 a0_1]] ?_; (with_reducible refine (impl_VecOk.calls a0_0 a0_1 true _ A2.out).mono ?_); rintro e w9 ⟨rfl, hb⟩; refine ⟨_, rfl, ?_⟩; replace BK191 := kBB BK191 hb; replace HB := bS HB hb; clear hb; obtain ⟨hcz10_0, hcz10_1, hcz10_2, hcz10_3⟩ := cz4 BK191.out; obtain ⟨hfz10_0, hfz10_1, hfz10_2, hfz10_3⟩ := fz4 BK191.out) | (go_at_call 47; (with_reducible refine (impl_VecOk.calls a0_2 a0_3 true _ A4.out).mono ?_); rintro e w11 ⟨rfl, hb⟩; replace BK191 := kBB BK191 hb; replace HB := bS HB hb; clear hb; obtain ⟨hcz12_0, hcz12_1, hcz12_2, hcz12_3⟩ := cz4 BK191.out; obtain ⟨hfz12_0, hfz12_1, hfz12_2, hfz12_3⟩ := fz4 BK191.out))
        go_ret
        exact ⟨qE, qL HB⟩
      rw [if_neg c6] at H
      have c6b0 : decide (a0_0 ≤ a0_2) = false := decide_eq_false c6
      clear c6
      obtain rfl := Option.some.inj H
      go_enter Try.func16, Try.ntmps16
      go_wp2_with (first | ((with_reducible refine gate_dst (N := 1) rfl ?_); refine bx (N := 1) (cs := #[.int .i64 a0_0, .int .i64 a0_1, .int .i64 a0_2, .int .i64 a0_3]) (t := 26) ?_; intro gb191 hg w13 hbox hb; have BK191 := az hbox; have GW191 := az ((gE hg (qL HB) : w.heap.size ≤ gb191)); have GE191 := GW191; replace HB := bS HB hb; clear hb hbox hg; obtain ⟨hcz14_0, hcz14_1, hcz14_2, hcz14_3⟩ := cz4 BK191.out; obtain ⟨hfz14_0, hfz14_1, hfz14_2, hfz14_3⟩ := fz4 BK191.out) | ((with_reducible refine gate_callee (f := 47) rfl ?_); refine gl (some 5) Try.func47 #[.agg #[.int .i64 a0_0, .int .i64 a0_1]] ?_; (with_reducible refine (impl_VecOk.calls a0_0 a0_1 true _ A2.out).mono ?_); rintro e w15 ⟨rfl, hb⟩; refine ⟨_, rfl, ?_⟩; replace BK191 := kBB BK191 hb; replace HB := bS HB hb; clear hb; obtain ⟨hcz16_0, hcz16_1, hcz16_2, hcz16_3⟩ := cz4 BK191.out; obtain ⟨hfz16_0, hfz16_1, hfz16_2, hfz16_3⟩ := fz4 BK191.out) | (go_at_call 47; (with_reducible refine (impl_VecOk.calls a0_2 a0_3 true _ A4.out).mono ?_); rintro e w17 ⟨rfl, hb⟩; replace BK191 := kBB BK191 hb; replace HB := bS HB hb; clear hb; obtain ⟨hcz18_0, hcz18_1, hcz18_2, hcz18_3⟩ := cz4 BK191.out; obtain ⟨hfz18_0, hfz18_1, hfz18_2, hfz18_3⟩ := fz4 BK191.out))
      go_ret
      exact ⟨qE, qL HB⟩
    replace c5 := Bool.eq_false_iff.mpr c5
    subst c5
    replace H := qU H
    obtain rfl := Option.some.inj H
    go_enter Try.func16, Try.ntmps16
    go_wp2_with (first | ((with_reducible refine gate_dst (N := 1) rfl ?_); refine bx (N := 1) (cs := #[.int .i64 a0_0, .int .i64 a0_1, .int .i64 a0_2, .int .i64 a0_3]) (t := 26) ?_; intro gb191 hg w19 hbox hb; have BK191 := az hbox; have GW191 := az ((gE hg (qL HB) : w.heap.size ≤ gb191)); have GE191 := GW191; replace HB := bS HB hb; clear hb hbox hg; obtain ⟨hcz20_0, hcz20_1, hcz20_2, hcz20_3⟩ := cz4 BK191.out; obtain ⟨hfz20_0, hfz20_1, hfz20_2, hfz20_3⟩ := fz4 BK191.out) | ((with_reducible refine gate_callee (f := 47) rfl ?_); refine gl (some 5) Try.func47 #[.agg #[.int .i64 a0_0, .int .i64 a0_1]] ?_; (with_reducible refine (impl_VecOk.calls a0_0 a0_1 true _ A2.out).mono ?_); rintro e w21 ⟨rfl, hb⟩; refine ⟨_, rfl, ?_⟩; replace BK191 := kBB BK191 hb; replace HB := bS HB hb; clear hb; obtain ⟨hcz22_0, hcz22_1, hcz22_2, hcz22_3⟩ := cz4 BK191.out; obtain ⟨hfz22_0, hfz22_1, hfz22_2, hfz22_3⟩ := fz4 BK191.out) | (go_at_call 47; (with_reducible refine (impl_VecOk.calls a0_2 a0_3 false _ A4.out).mono ?_); rintro e w23 ⟨rfl, hb⟩; replace BK191 := kBB BK191 hb; replace HB := bS HB hb; clear hb))
    go_ret
    exact ⟨qE, qL HB⟩
  replace c3 := Bool.eq_false_iff.mpr c3
  subst c3
  replace H := qU H
  obtain rfl := Option.some.inj H
  go_enter Try.func16, Try.ntmps16
  go_wp2_with (first | ((with_reducible refine gate_dst (N := 1) rfl ?_); refine bx (N := 1) (cs := #[.int .i64 a0_0, .int .i64 a0_1, .int .i64 a0_2, .int .i64 a0_3]) (t := 26) ?_; intro gb191 hg w24 hbox hb; have BK191 := az hbox; have GW191 := az ((gE hg (qL HB) : w.heap.size ≤ gb191)); have GE191 := GW191; replace HB := bS HB hb; clear hb hbox hg; obtain ⟨hcz25_0, hcz25_1, hcz25_2, hcz25_3⟩ := cz4 BK191.out; obtain ⟨hfz25_0, hfz25_1, hfz25_2, hfz25_3⟩ := fz4 BK191.out) | ((with_reducible refine gate_callee (f := 47) rfl ?_); refine gl (some 5) Try.func47 #[.agg #[.int .i64 a0_0, .int .i64 a0_1]] ?_; (with_reducible refine (impl_VecOk.calls a0_0 a0_1 false _ A2.out).mono ?_); rintro e w26 ⟨rfl, hb⟩; refine ⟨_, rfl, ?_⟩; replace BK191 := kBB BK191 hb; replace HB := bS HB hb; clear hb))
  go_ret
  exact ⟨qE, qL HB⟩

/-! ### impl_BoxBoth: function 13 -/
def impl_BoxBoth.f (a0_0 : Int) (a0_1 : Int) (a0_2 : Int) (a0_3 : Int) (a1_0 : Int) (a1_1 : Int) (a1_2 : Int) (a1_3 : Int) : Option (Int × Int × Int × Int) := (impl_BoxOk.f a0_0 a0_1 a0_2 a0_3).bind fun t197 => (if t197 = true then ((impl_BoxOk.f a1_0 a1_1 a1_2 a1_3).bind fun t198 => (if t198 = true then (some (mn a0_0 a1_0, mn a0_1 a1_1, mx a0_2 a1_2, mx a0_3 a1_3)) else (some (0, 0, 0, 0)))) else (some (0, 0, 0, 0)))
set_option maxHeartbeats 8000000 in
set_option maxRecDepth 100000 in
theorem impl_BoxBoth.calls (a0_0 : Int) (a0_1 : Int) (a0_2 : Int) (a0_3 : Int) (a1_0 : Int) (a1_1 : Int) (a1_2 : Int) (a1_3 : Int) (r1 : Int) (r2 : Int) (r3 : Int) (r4 : Int) (w : World) (h : impl_BoxBoth.f a0_0 a0_1 a0_2 a0_3 a1_0 a1_1 a1_2 a1_3 = some (r1, r2, r3, r4)) :
    Calls Try.prog 13 #[.agg #[.int .i64 a0_0, .int .i64 a0_1, .int .i64 a0_2, .int .i64 a0_3], .agg #[.int .i64 a1_0, .int .i64 a1_1, .int .i64 a1_2, .int .i64 a1_3]] w fun e w' => e = .returned (.agg #[.int .i64 r1, .int .i64 r2, .int .i64 r3, .int .i64 r4]) ∧ Below w.heap.size w w' := by
  have hu26 := Try.underlying26
  have hu24 := Try.underlying24
  have HB := az (Below.refl w.heap.size w)
  have H : ((impl_BoxOk.f a0_0 a0_1 a0_2 a0_3).bind fun t197 => (if t197 = true then ((impl_BoxOk.f a1_0 a1_1 a1_2 a1_3).bind fun t198 => (if t198 = true then (some (mn a0_0 a1_0, mn a0_1 a1_1, mx a0_2 a1_2, mx a0_3 a1_3)) else (some (0, 0, 0, 0)))) else (some (0, 0, 0, 0)))) = some (r1, r2, r3, r4) := h
  clear h
  replace H := qH H
  obtain ⟨t197, A3, H⟩ := H
  try dsimp only at H
  by_cases c4 : t197 = true
  · subst c4
    replace H := qT H
    replace H := qH H
    obtain ⟨t198, A5, H⟩ := H
    try dsimp only at H
    by_cases c6 : t198 = true
    · subst c6
      replace H := qT H
      obtain ⟨ji7, hji7⟩ : ∃ j_ : Int, (mn a0_0 a1_0) = j_ := ⟨_, rfl⟩
      replace H : (some (ji7, mn a0_1 a1_1, mx a0_2 a1_2, mx a0_3 a1_3)) = some (r1, r2, r3, r4) := by first | (rw [hji7] at H; exact H) | (simp only [hji7] at H ⊢; exact H)
      (try rw [hji7] at A3)
      (try rw [hji7] at A5)
      have hji7_ : (if a1_0 < a0_0 then a1_0 else a0_0) = ji7 := hji7
      obtain ⟨ji8, hji8⟩ : ∃ j_ : Int, (mn a0_1 a1_1) = j_ := ⟨_, rfl⟩
      replace H : (some (ji7, ji8, mx a0_2 a1_2, mx a0_3 a1_3)) = some (r1, r2, r3, r4) := by first | (rw [hji8] at H; exact H) | (simp only [hji8] at H ⊢; exact H)
      (try rw [hji8] at A3)
      (try rw [hji8] at A5)
      have hji8_ : (if a1_1 < a0_1 then a1_1 else a0_1) = ji8 := hji8
      obtain ⟨ji9, hji9⟩ : ∃ j_ : Int, (mx a0_2 a1_2) = j_ := ⟨_, rfl⟩
      replace H : (some (ji7, ji8, ji9, mx a0_3 a1_3)) = some (r1, r2, r3, r4) := by first | (rw [hji9] at H; exact H) | (simp only [hji9] at H ⊢; exact H)
      (try rw [hji9] at A3)
      (try rw [hji9] at A5)
      have hji9_ : (if a0_2 < a1_2 then a1_2 else a0_2) = ji9 := hji9
      obtain ⟨ji10, hji10⟩ : ∃ j_ : Int, (mx a0_3 a1_3) = j_ := ⟨_, rfl⟩
      replace H : (some (ji7, ji8, ji9, ji10)) = some (r1, r2, r3, r4) := by first | (rw [hji10] at H; exact H) | (simp only [hji10] at H ⊢; exact H)
      (try rw [hji10] at A3)
      (try rw [hji10] at A5)
      have hji10_ : (if a0_3 < a1_3 then a1_3 else a0_3) = ji10 := hji10
      simp only [Option.some.injEq, Prod.mk.injEq] at H
      obtain ⟨rfl, rfl, rfl, rfl⟩ := H
      go_enter Try.func13, Try.ntmps13
      go_wp2_with (first | ((with_reducible refine gate_dst (N := 2) rfl ?_); refine bx (N := 2) (cs := #[.int .i64 a0_0, .int .i64 a0_1, .int .i64 a0_2, .int .i64 a0_3]) (t := 26) ?_; intro gb194 hg w11 hbox hb; have BK194 := az hbox; have GW194 := az ((gE hg (qL HB) : w.heap.size ≤ gb194)); have GE194 := GW194; replace HB := bS HB hb; clear hb hbox hg) | ((with_reducible refine gate_dst (N := 3) rfl ?_); refine bx (N := 3) (cs := #[.int .i64 a1_0, .int .i64 a1_1, .int .i64 a1_2, .int .i64 a1_3]) (t := 26) ?_; intro gb195 hg w12 hbox hb; have BK195 := az hbox; have GW195 := az ((gE hg (qL HB) : w.heap.size ≤ gb195)); have GE195 := GW195; obtain ⟨NB194_195, NB195_194⟩ := nPB BK194 hg; replace BK194 := kBB BK194 hb; replace HB := bS HB hb; clear hb hbox hg) | ((with_reducible refine gate_dst (N := 4) rfl ?_); refine bx (N := 4) (cs := #[.int .i64 0, .int .i64 0, .int .i64 0, .int .i64 0]) (t := 26) ?_; intro gb196 hg w13 hbox hb; have BK196 := az hbox; have GW196 := az ((gE hg (qL HB) : w.heap.size ≤ gb196)); have GE196 := GW196; obtain ⟨NB194_196, NB196_194⟩ := nPB BK194 hg; obtain ⟨NB195_196, NB196_195⟩ := nPB BK195 hg; replace BK194 := kBB BK194 hb; replace BK195 := kBB BK195 hb; replace HB := bS HB hb; clear hb hbox hg; have hnb14 := NB194_195.out; have hnc14 := NB195_194.out; have hnb15 := NB194_196.out; have hnc15 := NB196_194.out; obtain ⟨hcz16_0, hcz16_1, hcz16_2, hcz16_3⟩ := cz4 BK194.out; obtain ⟨hfz16_0, hfz16_1, hfz16_2, hfz16_3⟩ := fz4 BK194.out) | ((with_reducible refine gate_callee (f := 16) rfl ?_); refine gl (some 6) Try.func16 #[.agg #[.int .i64 a0_0, .int .i64 a0_1, .int .i64 a0_2, .int .i64 a0_3]] ?_; (with_reducible refine (impl_BoxOk.calls a0_0 a0_1 a0_2 a0_3 true _ A3.out).mono ?_); rintro e w17 ⟨rfl, hb⟩; refine ⟨_, rfl, ?_⟩; replace BK194 := kBB BK194 hb; replace BK195 := kBB BK195 hb; replace BK196 := kBB BK196 hb; replace HB := bS HB hb; clear hb; have hnb18 := NB195_196.out; have hnc18 := NB196_195.out; obtain ⟨hcz19_0, hcz19_1, hcz19_2, hcz19_3⟩ := cz4 BK195.out; obtain ⟨hfz19_0, hfz19_1, hfz19_2, hfz19_3⟩ := fz4 BK195.out) | (go_at_call 16; (with_reducible refine (impl_BoxOk.calls a1_0 a1_1 a1_2 a1_3 true _ A5.out).mono ?_); rintro e w20 ⟨rfl, hb⟩; replace BK194 := kBB BK194 hb; replace BK195 := kBB BK195 hb; replace BK196 := kBB BK196 hb; replace HB := bS HB hb; clear hb; obtain ⟨hcz21_0, hcz21_1, hcz21_2, hcz21_3⟩ := cz4 BK194.out; obtain ⟨hfz21_0, hfz21_1, hfz21_2, hfz21_3⟩ := fz4 BK194.out; obtain ⟨hcz22_0, hcz22_1, hcz22_2, hcz22_3⟩ := cz4 BK195.out; obtain ⟨hfz22_0, hfz22_1, hfz22_2, hfz22_3⟩ := fz4 BK195.out; obtain ⟨hcz23_0, hcz23_1, hcz23_2, hcz23_3⟩ := cz4 BK196.out; obtain ⟨hfz23_0, hfz23_1, hfz23_2, hfz23_3⟩ := fz4 BK196.out))
      refine bodyPost_ret (results_cell_row rfl _ _ gb196 26 #[.int .i64 ji7, .int .i64 ji8, .int .i64 ji9, .int .i64 ji10] (0, 0) _ rfl (qP BK196) Try.underlying26 rfl (by kernel_rfl)) rfl ?_
      exact ⟨by first | rfl | (simp [errW_none, errW_some] <;> rfl) | (simp only [← hji7, ← hji8, ← hji9, ← hji10]; first | rfl | (simp [errW_none, errW_some] <;> rfl)) | (simp [*, errW_none, errW_some] <;> rfl), qL HB⟩
    replace c6 := Bool.eq_false_iff.mpr c6
    subst c6
    replace H := qU H
    simp only [Option.some.injEq, Prod.mk.injEq] at H
    obtain ⟨rfl, rfl, rfl, rfl⟩ := H
    go_enter Try.func13, Try.ntmps13
    go_wp2_with (first | ((with_reducible refine gate_dst (N := 2) rfl ?_); refine bx (N := 2) (cs := #[.int .i64 a0_0, .int .i64 a0_1, .int .i64 a0_2, .int .i64 a0_3]) (t := 26) ?_; intro gb194 hg w24 hbox hb; have BK194 := az hbox; have GW194 := az ((gE hg (qL HB) : w.heap.size ≤ gb194)); have GE194 := GW194; replace HB := bS HB hb; clear hb hbox hg) | ((with_reducible refine gate_dst (N := 3) rfl ?_); refine bx (N := 3) (cs := #[.int .i64 a1_0, .int .i64 a1_1, .int .i64 a1_2, .int .i64 a1_3]) (t := 26) ?_; intro gb195 hg w25 hbox hb; have BK195 := az hbox; have GW195 := az ((gE hg (qL HB) : w.heap.size ≤ gb195)); have GE195 := GW195; obtain ⟨NB194_195, NB195_194⟩ := nPB BK194 hg; replace BK194 := kBB BK194 hb; replace HB := bS HB hb; clear hb hbox hg) | ((with_reducible refine gate_dst (N := 4) rfl ?_); refine bx (N := 4) (cs := #[.int .i64 0, .int .i64 0, .int .i64 0, .int .i64 0]) (t := 26) ?_; intro gb196 hg w26 hbox hb; have BK196 := az hbox; have GW196 := az ((gE hg (qL HB) : w.heap.size ≤ gb196)); have GE196 := GW196; obtain ⟨NB194_196, NB196_194⟩ := nPB BK194 hg; obtain ⟨NB195_196, NB196_195⟩ := nPB BK195 hg; replace BK194 := kBB BK194 hb; replace BK195 := kBB BK195 hb; replace HB := bS HB hb; clear hb hbox hg; have hnb27 := NB194_195.out; have hnc27 := NB195_194.out; have hnb28 := NB194_196.out; have hnc28 := NB196_194.out; obtain ⟨hcz29_0, hcz29_1, hcz29_2, hcz29_3⟩ := cz4 BK194.out; obtain ⟨hfz29_0, hfz29_1, hfz29_2, hfz29_3⟩ := fz4 BK194.out) | ((with_reducible refine gate_callee (f := 16) rfl ?_); refine gl (some 6) Try.func16 #[.agg #[.int .i64 a0_0, .int .i64 a0_1, .int .i64 a0_2, .int .i64 a0_3]] ?_; (with_reducible refine (impl_BoxOk.calls a0_0 a0_1 a0_2 a0_3 true _ A3.out).mono ?_); rintro e w30 ⟨rfl, hb⟩; refine ⟨_, rfl, ?_⟩; replace BK194 := kBB BK194 hb; replace BK195 := kBB BK195 hb; replace BK196 := kBB BK196 hb; replace HB := bS HB hb; clear hb; have hnb31 := NB195_196.out; have hnc31 := NB196_195.out; obtain ⟨hcz32_0, hcz32_1, hcz32_2, hcz32_3⟩ := cz4 BK195.out; obtain ⟨hfz32_0, hfz32_1, hfz32_2, hfz32_3⟩ := fz4 BK195.out) | (go_at_call 16; (with_reducible refine (impl_BoxOk.calls a1_0 a1_1 a1_2 a1_3 false _ A5.out).mono ?_); rintro e w33 ⟨rfl, hb⟩; replace BK194 := kBB BK194 hb; replace BK195 := kBB BK195 hb; replace BK196 := kBB BK196 hb; replace HB := bS HB hb; clear hb; obtain ⟨hcz34_0, hcz34_1, hcz34_2, hcz34_3⟩ := cz4 BK196.out; obtain ⟨hfz34_0, hfz34_1, hfz34_2, hfz34_3⟩ := fz4 BK196.out))
    refine bodyPost_ret (results_cell_row rfl _ _ gb196 26 #[.int .i64 0, .int .i64 0, .int .i64 0, .int .i64 0] (0, 0) _ rfl (qP BK196) Try.underlying26 rfl (by kernel_rfl)) rfl ?_
    exact ⟨qE, qL HB⟩
  replace c4 := Bool.eq_false_iff.mpr c4
  subst c4
  replace H := qU H
  simp only [Option.some.injEq, Prod.mk.injEq] at H
  obtain ⟨rfl, rfl, rfl, rfl⟩ := H
  go_enter Try.func13, Try.ntmps13
  go_wp2_with (first | ((with_reducible refine gate_dst (N := 2) rfl ?_); refine bx (N := 2) (cs := #[.int .i64 a0_0, .int .i64 a0_1, .int .i64 a0_2, .int .i64 a0_3]) (t := 26) ?_; intro gb194 hg w35 hbox hb; have BK194 := az hbox; have GW194 := az ((gE hg (qL HB) : w.heap.size ≤ gb194)); have GE194 := GW194; replace HB := bS HB hb; clear hb hbox hg) | ((with_reducible refine gate_dst (N := 3) rfl ?_); refine bx (N := 3) (cs := #[.int .i64 a1_0, .int .i64 a1_1, .int .i64 a1_2, .int .i64 a1_3]) (t := 26) ?_; intro gb195 hg w36 hbox hb; have BK195 := az hbox; have GW195 := az ((gE hg (qL HB) : w.heap.size ≤ gb195)); have GE195 := GW195; obtain ⟨NB194_195, NB195_194⟩ := nPB BK194 hg; replace BK194 := kBB BK194 hb; replace HB := bS HB hb; clear hb hbox hg) | ((with_reducible refine gate_dst (N := 4) rfl ?_); refine bx (N := 4) (cs := #[.int .i64 0, .int .i64 0, .int .i64 0, .int .i64 0]) (t := 26) ?_; intro gb196 hg w37 hbox hb; have BK196 := az hbox; have GW196 := az ((gE hg (qL HB) : w.heap.size ≤ gb196)); have GE196 := GW196; obtain ⟨NB194_196, NB196_194⟩ := nPB BK194 hg; obtain ⟨NB195_196, NB196_195⟩ := nPB BK195 hg; replace BK194 := kBB BK194 hb; replace BK195 := kBB BK195 hb; replace HB := bS HB hb; clear hb hbox hg; have hnb38 := NB194_195.out; have hnc38 := NB195_194.out; have hnb39 := NB194_196.out; have hnc39 := NB196_194.out; obtain ⟨hcz40_0, hcz40_1, hcz40_2, hcz40_3⟩ := cz4 BK194.out; obtain ⟨hfz40_0, hfz40_1, hfz40_2, hfz40_3⟩ := fz4 BK194.out) | ((with_reducible refine gate_callee (f := 16) rfl ?_); refine gl (some 6) Try.func16 #[.agg #[.int .i64 a0_0, .int .i64 a0_1, .int .i64 a0_2, .int .i64 a0_3]] ?_; (with_reducible refine (impl_BoxOk.calls a0_0 a0_1 a0_2 a0_3 false _ A3.out).mono ?_); rintro e w41 ⟨rfl, hb⟩; refine ⟨_, rfl, ?_⟩; replace BK194 := kBB BK194 hb; replace BK195 := kBB BK195 hb; replace BK196 := kBB BK196 hb; replace HB := bS HB hb; clear hb; have hnb42 := NB196_195.out; have hnc42 := NB195_196.out; obtain ⟨hcz43_0, hcz43_1, hcz43_2, hcz43_3⟩ := cz4 BK196.out; obtain ⟨hfz43_0, hfz43_1, hfz43_2, hfz43_3⟩ := fz4 BK196.out))
  refine bodyPost_ret (results_cell_row rfl _ _ gb196 26 #[.int .i64 0, .int .i64 0, .int .i64 0, .int .i64 0] (0, 0) _ rfl (qP BK196) Try.underlying26 rfl (by kernel_rfl)) rfl ?_
  exact ⟨qE, qL HB⟩

/-! ### impl_Box_has: function 48 -/
def impl_Box_has.f (a0_0 : Int) (a0_1 : Int) (a0_2 : Int) (a0_3 : Int) (a1_0 : Int) (a1_1 : Int) : Option (Bool) := (impl_in.f a1_0 a0_0 a0_2).bind fun t216 => (if t216 = true then ((impl_in.f a1_1 a0_1 a0_3).bind fun t217 => (some t217)) else (some false))
set_option maxHeartbeats 8000000 in
set_option maxRecDepth 100000 in
theorem impl_Box_has.calls (a0_0 : Int) (a0_1 : Int) (a0_2 : Int) (a0_3 : Int) (a1_0 : Int) (a1_1 : Int) (r : Bool) (w : World) (h : impl_Box_has.f a0_0 a0_1 a0_2 a0_3 a1_0 a1_1 = some r) :
    Calls Try.prog 48 #[.agg #[.int .i64 a0_0, .int .i64 a0_1, .int .i64 a0_2, .int .i64 a0_3], .agg #[.int .i64 a1_0, .int .i64 a1_1]] w fun e w' => e = .returned (.bool r) ∧ Below w.heap.size w w' := by
  have hu26 := Try.underlying26
  have hu24 := Try.underlying24
  have HB := az (Below.refl w.heap.size w)
  have H : ((impl_in.f a1_0 a0_0 a0_2).bind fun t216 => (if t216 = true then ((impl_in.f a1_1 a0_1 a0_3).bind fun t217 => (some t217)) else (some false))) = some r := h
  clear h
  replace H := qH H
  obtain ⟨t216, A3, H⟩ := H
  try dsimp only at H
  by_cases c4 : t216 = true
  · subst c4
    replace H := qT H
    replace H := qH H
    obtain ⟨t217, A5, H⟩ := H
    try dsimp only at H
    obtain rfl := Option.some.inj H
    go_enter Try.func48, Try.ntmps48
    go_wp2_with (first | ((with_reducible refine gate_dst (N := 2) rfl ?_); refine bx (N := 2) (cs := #[.int .i64 a0_0, .int .i64 a0_1, .int .i64 a0_2, .int .i64 a0_3]) (t := 26) ?_; intro gb214 hg w6 hbox hb; have BK214 := az hbox; have GW214 := az ((gE hg (qL HB) : w.heap.size ≤ gb214)); have GE214 := GW214; replace HB := bS HB hb; clear hb hbox hg) | ((with_reducible refine gate_dst (N := 3) rfl ?_); refine bx (N := 3) (cs := #[.int .i64 a1_0, .int .i64 a1_1]) (t := 24) ?_; intro gb215 hg w7 hbox hb; have BK215 := az hbox; have GW215 := az ((gE hg (qL HB) : w.heap.size ≤ gb215)); have GE215 := GW215; obtain ⟨NB214_215, NB215_214⟩ := nPB BK214 hg; replace BK214 := kBB BK214 hb; replace HB := bS HB hb; clear hb hbox hg; have hnb8 := NB215_214.out; have hnc8 := NB214_215.out; obtain ⟨hcz9_0, hcz9_1⟩ := cz2 BK215.out; have hfz9_0 := blk_frozen BK215.out 0; have hfz9_1 := blk_frozen BK215.out 1; obtain ⟨hcz10_0, hcz10_1, hcz10_2, hcz10_3⟩ := cz4 BK214.out; obtain ⟨hfz10_0, hfz10_1, hfz10_2, hfz10_3⟩ := fz4 BK214.out) | ((with_reducible refine gate_callee (f := 66) rfl ?_); refine gl (some 13) Try.func66 #[.int .i64 a1_0, .int .i64 a0_0, .int .i64 a0_2] ?_; (with_reducible refine (impl_in.calls a1_0 a0_0 a0_2 true _ A3.out).mono ?_); rintro e w' ⟨rfl, ⟨nd, rfl⟩⟩; refine ⟨_, rfl, ?_⟩) | (go_at_call 66; (with_reducible refine (impl_in.calls a1_1 a0_1 a0_3 t217 _ A5.out).mono ?_); rintro e w' ⟨rfl, ⟨nd, rfl⟩⟩))
    go_ret
    exact ⟨qE, qL HB⟩
  replace c4 := Bool.eq_false_iff.mpr c4
  subst c4
  replace H := qU H
  obtain rfl := Option.some.inj H
  go_enter Try.func48, Try.ntmps48
  go_wp2_with (first | ((with_reducible refine gate_dst (N := 2) rfl ?_); refine bx (N := 2) (cs := #[.int .i64 a0_0, .int .i64 a0_1, .int .i64 a0_2, .int .i64 a0_3]) (t := 26) ?_; intro gb214 hg w11 hbox hb; have BK214 := az hbox; have GW214 := az ((gE hg (qL HB) : w.heap.size ≤ gb214)); have GE214 := GW214; replace HB := bS HB hb; clear hb hbox hg) | ((with_reducible refine gate_dst (N := 3) rfl ?_); refine bx (N := 3) (cs := #[.int .i64 a1_0, .int .i64 a1_1]) (t := 24) ?_; intro gb215 hg w12 hbox hb; have BK215 := az hbox; have GW215 := az ((gE hg (qL HB) : w.heap.size ≤ gb215)); have GE215 := GW215; obtain ⟨NB214_215, NB215_214⟩ := nPB BK214 hg; replace BK214 := kBB BK214 hb; replace HB := bS HB hb; clear hb hbox hg; have hnb13 := NB215_214.out; have hnc13 := NB214_215.out; obtain ⟨hcz14_0, hcz14_1⟩ := cz2 BK215.out; have hfz14_0 := blk_frozen BK215.out 0; have hfz14_1 := blk_frozen BK215.out 1; obtain ⟨hcz15_0, hcz15_1, hcz15_2, hcz15_3⟩ := cz4 BK214.out; obtain ⟨hfz15_0, hfz15_1, hfz15_2, hfz15_3⟩ := fz4 BK214.out) | ((with_reducible refine gate_callee (f := 66) rfl ?_); refine gl (some 13) Try.func66 #[.int .i64 a1_0, .int .i64 a0_0, .int .i64 a0_2] ?_; (with_reducible refine (impl_in.calls a1_0 a0_0 a0_2 false _ A3.out).mono ?_); rintro e w' ⟨rfl, ⟨nd, rfl⟩⟩; refine ⟨_, rfl, ?_⟩))
  go_ret
  exact ⟨qE, qL HB⟩

/-! ### impl_BoxHas: function 17 -/
def impl_BoxHas.f (a0_0 : Int) (a0_1 : Int) (a0_2 : Int) (a0_3 : Int) (a1_0 : Int) (a1_1 : Int) (a1_2 : Int) (a1_3 : Int) : Option (Bool) := (impl_BoxOk.f a0_0 a0_1 a0_2 a0_3).bind fun t220 => (if t220 = true then ((impl_BoxOk.f a1_0 a1_1 a1_2 a1_3).bind fun t221 => (if t221 = true then ((impl_Box_has.f a0_0 a0_1 a0_2 a0_3 a1_0 a1_1).bind fun t222 => (if t222 = true then ((impl_Box_has.f a0_0 a0_1 a0_2 a0_3 a1_2 a1_3).bind fun t223 => (some t223)) else (some false))) else (some false))) else (some false))
set_option maxHeartbeats 8000000 in
set_option maxRecDepth 100000 in
theorem impl_BoxHas.calls (a0_0 : Int) (a0_1 : Int) (a0_2 : Int) (a0_3 : Int) (a1_0 : Int) (a1_1 : Int) (a1_2 : Int) (a1_3 : Int) (r : Bool) (w : World) (h : impl_BoxHas.f a0_0 a0_1 a0_2 a0_3 a1_0 a1_1 a1_2 a1_3 = some r) :
    Calls Try.prog 17 #[.agg #[.int .i64 a0_0, .int .i64 a0_1, .int .i64 a0_2, .int .i64 a0_3], .agg #[.int .i64 a1_0, .int .i64 a1_1, .int .i64 a1_2, .int .i64 a1_3]] w fun e w' => e = .returned (.bool r) ∧ Below w.heap.size w w' := by
  have hu26 := Try.underlying26
  have hu24 := Try.underlying24
  have HB := az (Below.refl w.heap.size w)
  have H : ((impl_BoxOk.f a0_0 a0_1 a0_2 a0_3).bind fun t220 => (if t220 = true then ((impl_BoxOk.f a1_0 a1_1 a1_2 a1_3).bind fun t221 => (if t221 = true then ((impl_Box_has.f a0_0 a0_1 a0_2 a0_3 a1_0 a1_1).bind fun t222 => (if t222 = true then ((impl_Box_has.f a0_0 a0_1 a0_2 a0_3 a1_2 a1_3).bind fun t223 => (some t223)) else (some false))) else (some false))) else (some false))) = some r := h
  clear h
  replace H := qH H
  obtain ⟨t220, A3, H⟩ := H
  try dsimp only at H
  by_cases c4 : t220 = true
  · subst c4
    replace H := qT H
    replace H := qH H
    obtain ⟨t221, A5, H⟩ := H
    try dsimp only at H
    by_cases c6 : t221 = true
    · subst c6
      replace H := qT H
      replace H := qH H
      obtain ⟨t222, A7, H⟩ := H
      try dsimp only at H
      by_cases c8 : t222 = true
      · subst c8
        replace H := qT H
        replace H := qH H
        obtain ⟨t223, A9, H⟩ := H
        try dsimp only at H
        obtain rfl := Option.some.inj H
        go_enter Try.func17, Try.ntmps17
        go_wp2_with (first | ((with_reducible refine gate_dst (N := 2) rfl ?_); refine bx (N := 2) (cs := #[.int .i64 a0_0, .int .i64 a0_1, .int .i64 a0_2, .int .i64 a0_3]) (t := 26) ?_; intro gb218 hg w10 hbox hb; have BK218 := az hbox; have GW218 := az ((gE hg (qL HB) : w.heap.size ≤ gb218)); have GE218 := GW218; replace HB := bS HB hb; clear hb hbox hg) | ((with_reducible refine gate_dst (N := 3) rfl ?_); refine bx (N := 3) (cs := #[.int .i64 a1_0, .int .i64 a1_1, .int .i64 a1_2, .int .i64 a1_3]) (t := 26) ?_; intro gb219 hg w11 hbox hb; have BK219 := az hbox; have GW219 := az ((gE hg (qL HB) : w.heap.size ≤ gb219)); have GE219 := GW219; obtain ⟨NB218_219, NB219_218⟩ := nPB BK218 hg; replace BK218 := kBB BK218 hb; replace HB := bS HB hb; clear hb hbox hg; have hnb12 := NB218_219.out; have hnc12 := NB219_218.out; obtain ⟨hcz13_0, hcz13_1, hcz13_2, hcz13_3⟩ := cz4 BK218.out; obtain ⟨hfz13_0, hfz13_1, hfz13_2, hfz13_3⟩ := fz4 BK218.out) | ((with_reducible refine gate_callee (f := 16) rfl ?_); refine gl (some 6) Try.func16 #[.agg #[.int .i64 a0_0, .int .i64 a0_1, .int .i64 a0_2, .int .i64 a0_3]] ?_; (with_reducible refine (impl_BoxOk.calls a0_0 a0_1 a0_2 a0_3 true _ A3.out).mono ?_); rintro e w14 ⟨rfl, hb⟩; refine ⟨_, rfl, ?_⟩; replace BK218 := kBB BK218 hb; replace BK219 := kBB BK219 hb; replace HB := bS HB hb; clear hb; obtain ⟨hcz15_0, hcz15_1, hcz15_2, hcz15_3⟩ := cz4 BK219.out; obtain ⟨hfz15_0, hfz15_1, hfz15_2, hfz15_3⟩ := fz4 BK219.out) | (go_at_call 16; (with_reducible refine (impl_BoxOk.calls a1_0 a1_1 a1_2 a1_3 true _ A5.out).mono ?_); rintro e w16 ⟨rfl, hb⟩; replace BK218 := kBB BK218 hb; replace BK219 := kBB BK219 hb; replace HB := bS HB hb; clear hb; obtain ⟨hcz17_0, hcz17_1, hcz17_2, hcz17_3⟩ := cz4 BK218.out; obtain ⟨hfz17_0, hfz17_1, hfz17_2, hfz17_3⟩ := fz4 BK218.out; obtain ⟨hcz18_0, hcz18_1, hcz18_2, hcz18_3⟩ := cz4 BK219.out; obtain ⟨hfz18_0, hfz18_1, hfz18_2, hfz18_3⟩ := fz4 BK219.out) | (go_at_call 48; (with_reducible refine (impl_Box_has.calls a0_0 a0_1 a0_2 a0_3 a1_0 a1_1 true _ A7.out).mono ?_); rintro e w19 ⟨rfl, hb⟩; replace BK218 := kBB BK218 hb; replace BK219 := kBB BK219 hb; replace HB := bS HB hb; clear hb; obtain ⟨hcz20_0, hcz20_1, hcz20_2, hcz20_3⟩ := cz4 BK218.out; obtain ⟨hfz20_0, hfz20_1, hfz20_2, hfz20_3⟩ := fz4 BK218.out; obtain ⟨hcz21_0, hcz21_1, hcz21_2, hcz21_3⟩ := cz4 BK219.out; obtain ⟨hfz21_0, hfz21_1, hfz21_2, hfz21_3⟩ := fz4 BK219.out) | (go_at_call 48; (with_reducible refine (impl_Box_has.calls a0_0 a0_1 a0_2 a0_3 a1_2 a1_3 t223 _ A9.out).mono ?_); rintro e w22 ⟨rfl, hb⟩; replace BK218 := kBB BK218 hb; replace BK219 := kBB BK219 hb; replace HB := bS HB hb; clear hb))
        go_ret
        exact ⟨qE, qL HB⟩
      replace c8 := Bool.eq_false_iff.mpr c8
      subst c8
      replace H := qU H
      obtain rfl := Option.some.inj H
      go_enter Try.func17, Try.ntmps17
      go_wp2_with (first | ((with_reducible refine gate_dst (N := 2) rfl ?_); refine bx (N := 2) (cs := #[.int .i64 a0_0, .int .i64 a0_1, .int .i64 a0_2, .int .i64 a0_3]) (t := 26) ?_; intro gb218 hg w23 hbox hb; have BK218 := az hbox; have GW218 := az ((gE hg (qL HB) : w.heap.size ≤ gb218)); have GE218 := GW218; replace HB := bS HB hb; clear hb hbox hg) | ((with_reducible refine gate_dst (N := 3) rfl ?_); refine bx (N := 3) (cs := #[.int .i64 a1_0, .int .i64 a1_1, .int .i64 a1_2, .int .i64 a1_3]) (t := 26) ?_; intro gb219 hg w24 hbox hb; have BK219 := az hbox; have GW219 := az ((gE hg (qL HB) : w.heap.size ≤ gb219)); have GE219 := GW219; obtain ⟨NB218_219, NB219_218⟩ := nPB BK218 hg; replace BK218 := kBB BK218 hb; replace HB := bS HB hb; clear hb hbox hg; have hnb25 := NB218_219.out; have hnc25 := NB219_218.out; obtain ⟨hcz26_0, hcz26_1, hcz26_2, hcz26_3⟩ := cz4 BK218.out; obtain ⟨hfz26_0, hfz26_1, hfz26_2, hfz26_3⟩ := fz4 BK218.out) | ((with_reducible refine gate_callee (f := 16) rfl ?_); refine gl (some 6) Try.func16 #[.agg #[.int .i64 a0_0, .int .i64 a0_1, .int .i64 a0_2, .int .i64 a0_3]] ?_; (with_reducible refine (impl_BoxOk.calls a0_0 a0_1 a0_2 a0_3 true _ A3.out).mono ?_); rintro e w27 ⟨rfl, hb⟩; refine ⟨_, rfl, ?_⟩; replace BK218 := kBB BK218 hb; replace BK219 := kBB BK219 hb; replace HB := bS HB hb; clear hb; obtain ⟨hcz28_0, hcz28_1, hcz28_2, hcz28_3⟩ := cz4 BK219.out; obtain ⟨hfz28_0, hfz28_1, hfz28_2, hfz28_3⟩ := fz4 BK219.out) | (go_at_call 16; (with_reducible refine (impl_BoxOk.calls a1_0 a1_1 a1_2 a1_3 true _ A5.out).mono ?_); rintro e w29 ⟨rfl, hb⟩; replace BK218 := kBB BK218 hb; replace BK219 := kBB BK219 hb; replace HB := bS HB hb; clear hb; obtain ⟨hcz30_0, hcz30_1, hcz30_2, hcz30_3⟩ := cz4 BK218.out; obtain ⟨hfz30_0, hfz30_1, hfz30_2, hfz30_3⟩ := fz4 BK218.out; obtain ⟨hcz31_0, hcz31_1, hcz31_2, hcz31_3⟩ := cz4 BK219.out; obtain ⟨hfz31_0, hfz31_1, hfz31_2, hfz31_3⟩ := fz4 BK219.out) | (go_at_call 48; (with_reducible refine (impl_Box_has.calls a0_0 a0_1 a0_2 a0_3 a1_0 a1_1 false _ A7.out).mono ?_); rintro e w32 ⟨rfl, hb⟩; replace BK218 := kBB BK218 hb; replace BK219 := kBB BK219 hb; replace HB := bS HB hb; clear hb))
      go_ret
      exact ⟨qE, qL HB⟩
    replace c6 := Bool.eq_false_iff.mpr c6
    subst c6
    replace H := qU H
    obtain rfl := Option.some.inj H
    go_enter Try.func17, Try.ntmps17
    go_wp2_with (first | ((with_reducible refine gate_dst (N := 2) rfl ?_); refine bx (N := 2) (cs := #[.int .i64 a0_0, .int .i64 a0_1, .int .i64 a0_2, .int .i64 a0_3]) (t := 26) ?_; intro gb218 hg w33 hbox hb; have BK218 := az hbox; have GW218 := az ((gE hg (qL HB) : w.heap.size ≤ gb218)); have GE218 := GW218; replace HB := bS HB hb; clear hb hbox hg) | ((with_reducible refine gate_dst (N := 3) rfl ?_); refine bx (N := 3) (cs := #[.int .i64 a1_0, .int .i64 a1_1, .int .i64 a1_2, .int .i64 a1_3]) (t := 26) ?_; intro gb219 hg w34 hbox hb; have BK219 := az hbox; have GW219 := az ((gE hg (qL HB) : w.heap.size ≤ gb219)); have GE219 := GW219; obtain ⟨NB218_219, NB219_218⟩ := nPB BK218 hg; replace BK218 := kBB BK218 hb; replace HB := bS HB hb; clear hb hbox hg; have hnb35 := NB218_219.out; have hnc35 := NB219_218.out; obtain ⟨hcz36_0, hcz36_1, hcz36_2, hcz36_3⟩ := cz4 BK218.out; obtain ⟨hfz36_0, hfz36_1, hfz36_2, hfz36_3⟩ := fz4 BK218.out) | ((with_reducible refine gate_callee (f := 16) rfl ?_); refine gl (some 6) Try.func16 #[.agg #[.int .i64 a0_0, .int .i64 a0_1, .int .i64 a0_2, .int .i64 a0_3]] ?_; (with_reducible refine (impl_BoxOk.calls a0_0 a0_1 a0_2 a0_3 true _ A3.out).mono ?_); rintro e w37 ⟨rfl, hb⟩; refine ⟨_, rfl, ?_⟩; replace BK218 := kBB BK218 hb; replace BK219 := kBB BK219 hb; replace HB := bS HB hb; clear hb; obtain ⟨hcz38_0, hcz38_1, hcz38_2, hcz38_3⟩ := cz4 BK219.out; obtain ⟨hfz38_0, hfz38_1, hfz38_2, hfz38_3⟩ := fz4 BK219.out) | (go_at_call 16; (with_reducible refine (impl_BoxOk.calls a1_0 a1_1 a1_2 a1_3 false _ A5.out).mono ?_); rintro e w39 ⟨rfl, hb⟩; replace BK218 := kBB BK218 hb; replace BK219 := kBB BK219 hb; replace HB := bS HB hb; clear hb))
    go_ret
    exact ⟨qE, qL HB⟩
  replace c4 := Bool.eq_false_iff.mpr c4
  subst c4
  replace H := qU H
  obtain rfl := Option.some.inj H
  go_enter Try.func17, Try.ntmps17
  go_wp2_with (first | ((with_reducible refine gate_dst (N := 2) rfl ?_); refine bx (N := 2) (cs := #[.int .i64 a0_0, .int .i64 a0_1, .int .i64 a0_2, .int .i64 a0_3]) (t := 26) ?_; intro gb218 hg w40 hbox hb; have BK218 := az hbox; have GW218 := az ((gE hg (qL HB) : w.heap.size ≤ gb218)); have GE218 := GW218; replace HB := bS HB hb; clear hb hbox hg) | ((with_reducible refine gate_dst (N := 3) rfl ?_); refine bx (N := 3) (cs := #[.int .i64 a1_0, .int .i64 a1_1, .int .i64 a1_2, .int .i64 a1_3]) (t := 26) ?_; intro gb219 hg w41 hbox hb; have BK219 := az hbox; have GW219 := az ((gE hg (qL HB) : w.heap.size ≤ gb219)); have GE219 := GW219; obtain ⟨NB218_219, NB219_218⟩ := nPB BK218 hg; replace BK218 := kBB BK218 hb; replace HB := bS HB hb; clear hb hbox hg; have hnb42 := NB218_219.out; have hnc42 := NB219_218.out; obtain ⟨hcz43_0, hcz43_1, hcz43_2, hcz43_3⟩ := cz4 BK218.out; obtain ⟨hfz43_0, hfz43_1, hfz43_2, hfz43_3⟩ := fz4 BK218.out) | ((with_reducible refine gate_callee (f := 16) rfl ?_); refine gl (some 6) Try.func16 #[.agg #[.int .i64 a0_0, .int .i64 a0_1, .int .i64 a0_2, .int .i64 a0_3]] ?_; (with_reducible refine (impl_BoxOk.calls a0_0 a0_1 a0_2 a0_3 false _ A3.out).mono ?_); rintro e w44 ⟨rfl, hb⟩; refine ⟨_, rfl, ?_⟩; replace BK218 := kBB BK218 hb; replace BK219 := kBB BK219 hb; replace HB := bS HB hb; clear hb))
  go_ret
  exact ⟨qE, qL HB⟩

/-! ### impl_within: function 89 -/
def impl_within.f (a0 : Int) (a1 : Int) : Option (Int) := some (mx (wrap64 (-a1)) (mn a0 a1))
set_option maxHeartbeats 8000000 in
set_option maxRecDepth 100000 in
theorem impl_within.calls (a0 : Int) (a1 : Int) (r : Int) (w : World) (h : impl_within.f a0 a1 = some r) :
    Calls Try.prog 89 #[.int .i64 a0, .int .i64 a1] w fun e w' => e = .returned (.int .i64 r) ∧ Below w.heap.size w w' := by
  have HB := az (Below.refl w.heap.size w)
  have H : (some (mx (wrap64 (-a1)) (mn a0 a1))) = some r := h
  clear h
  obtain ⟨ji3, hji3⟩ : ∃ j_ : Int, (mn a0 a1) = j_ := ⟨_, rfl⟩
  replace H : (some (mx (wrap64 (-a1)) (ji3))) = some r := by first | (rw [hji3] at H; exact H) | (simp only [hji3] at H ⊢; exact H)
  have hji3_ : (if a1 < a0 then a1 else a0) = ji3 := hji3
  obtain ⟨ji4, hji4⟩ : ∃ j_ : Int, (mx (wrap64 (-a1)) (ji3)) = j_ := ⟨_, rfl⟩
  replace H : (some ji4) = some r := by first | (rw [hji4] at H; exact H) | (simp only [hji4] at H ⊢; exact H)
  have hji4_ : (if (wrap64 (-a1)) < (ji3) then (ji3) else (wrap64 (-a1))) = ji4 := hji4
  obtain rfl := Option.some.inj H
  go_enter Try.func89, Try.ntmps89
  go_wp2
  go_ret
  exact ⟨by first | rfl | (simp [errW_none, errW_some] <;> rfl) | (simp only [← hji3, ← hji4]; first | rfl | (simp [errW_none, errW_some] <;> rfl)) | (simp [*, errW_none, errW_some] <;> rfl), qL HB⟩

/-! ### impl_Vec_clamped: function 71 -/
def impl_Vec_clamped.f (a0_0 : Int) (a0_1 : Int) (a1 : Int) : Option (Int × Int) := (impl_within.f a0_0 a1).bind fun t326 => ((impl_within.f a0_1 a1).bind fun t327 => (some (t326, t327)))
def impl_Vec_clamped.T1 : Bool × List (List Nat × List Nat) := (true, [([], []), ([0], [0]), ([], []), ([1, 2], [1, 2]), ([], []), ([4], [4]), ([], []), ([5, 6, 3], [5, 6]), ([3, 7], [3, 7]), ([8, 7, 0, 1, 2, 3, 4, 5, 6, 7, 8], [8])])
def impl_Vec_clamped.B1 : List Nat := [0, 1, 0, 7, 0, 16, 0, 127, 255, 511]
theorem impl_Vec_clamped.tab1 : rtab .any (opsOf Try.f71 1) = impl_Vec_clamped.T1 := by kernel_rfl
theorem impl_Vec_clamped.bits1 : waitsOk impl_Vec_clamped.T1.2 impl_Vec_clamped.B1 = true := by kernel_rfl
set_option maxHeartbeats 8000000 in
set_option maxRecDepth 100000 in
theorem impl_Vec_clamped.calls (a0_0 : Int) (a0_1 : Int) (a1 : Int) (r1 : Int) (r2 : Int) (w : World) (h : impl_Vec_clamped.f a0_0 a0_1 a1 = some (r1, r2)) :
    Calls Try.prog 71 #[.agg #[.int .i64 a0_0, .int .i64 a0_1], .int .i64 a1] w fun e w' => e = .returned (.agg #[.int .i64 r1, .int .i64 r2]) ∧ Below w.heap.size w w' := by
  have hu24 := Try.underlying24
  have HB := az (Below.refl w.heap.size w)
  have H : ((impl_within.f a0_0 a1).bind fun t326 => ((impl_within.f a0_1 a1).bind fun t327 => (some (t326, t327)))) = some (r1, r2) := h
  clear h
  replace H := qH H
  obtain ⟨t326, A3, H⟩ := H
  try dsimp only at H
  replace H := qH H
  obtain ⟨t327, A4, H⟩ := H
  try dsimp only at H
  simp only [Option.some.injEq, Prod.mk.injEq] at H
  obtain ⟨rfl, rfl⟩ := H
  go_enter Try.func71, Try.ntmps71
  try go_wp2_with (first | ((with_reducible refine gate_dst (N := 2) rfl ?_); refine bx (N := 2) (cs := #[.int .i64 a0_0, .int .i64 a0_1]) (t := 24) ?_; intro gb324 hg w5 hbox hb; have BK324 := az hbox; have GW324 := az ((gE hg (qL HB) : w.heap.size ≤ gb324)); have GE324 := GW324; replace HB := bS HB hb; clear hb hbox hg) | ((with_reducible refine gate_dst (N := 4) rfl ?_); refine bx (N := 4) (cs := #[.int .i64 0, .int .i64 0]) (t := 24) ?_; intro gb325 hg w6 hbox hb; have BK325 := az hbox; have GW325 := az ((gE hg (qL HB) : w.heap.size ≤ gb325)); have GE325 := GW325; obtain ⟨NB324_325, NB325_324⟩ := nPB BK324 hg; replace BK324 := kBB BK324 hb; replace HB := bS HB hb; clear hb hbox hg))
  replace BK324 := az (blk_drew BK324.out)
  replace BK325 := az (blk_drew BK325.out)
  replace HB := az (below_drew1 HB.out)
  refine start_ (n := 10) (S := fun w' => w'.cell? ⟨gb324, 0, none⟩ = some (.int .i64 a0_0) ∧ w'.cell? ⟨gb324, 1, none⟩ = some (.int .i64 a0_1)) (ds := []) #[false, false, false, false, false, false, false, false, false, false] (by kernel_rfl) rfl rfl ⟨bc BK324 0, bc BK324 1⟩ (fun hHeld => ?_); refine with_tabW impl_Vec_clamped.tab1 impl_Vec_clamped.bits1 (fun HT_ HW_ => ?_)
  generalize w6.drew = w7 at BK324 BK325 HB hHeld ⊢
  refine pu 0 (some 5) (fl 10 1) HT_ ?_
  refine pu 2 (some 7) (fl 10 5) HT_ ?_
  refine pu 4 (some 9) (fl 10 21) HT_ ?_
  refine pu 6 (some 11) (fl 10 85) HT_ ?_
  refine tk2 1 (some 6) (fl 10 87) HT_ HW_ hHeld ?_
  refine tk2 5 (some 10) (fl 10 119) HT_ HW_ hHeld ?_
  refine on 3 (some 8) (fl 10 127) HT_ (fun K hK => ?_)
  refine go1 Try.func89 #[.int .i64 a0_0, .int .i64 a1] ?_
  with_reducible refine (impl_within.calls a0_0 a1 t326 _ A3.out).mono ?_
  rintro e w8 ⟨rfl, hb⟩
  refine ⟨_, rfl, ?_⟩
  replace BK324 := kBB BK324 hb
  replace BK325 := kBB BK325 hb
  replace HB := bS HB hb
  clear hb
  refine hK.out _ _ ⟨bc BK324 0, bc BK324 1⟩ (fun hHeld => ?_)
  clear hK K
  refine nm (some 8) ?_
  refine on 7 (some 12) (fl 10 255) HT_ (fun K hK => ?_)
  refine go1 Try.func89 #[.int .i64 a0_1, .int .i64 a1] ?_
  with_reducible refine (impl_within.calls a0_1 a1 t327 _ A4.out).mono ?_
  rintro e w9 ⟨rfl, hb⟩
  refine ⟨_, rfl, ?_⟩
  replace BK324 := kBB BK324 hb
  replace BK325 := kBB BK325 hb
  replace HB := bS HB hb
  clear hb
  refine hK.out _ _ ⟨bc BK324 0, bc BK324 1⟩ (fun hHeld => ?_)
  clear hK K
  refine nm (some 12) ?_
  refine pu 8 (some 13) (fl 10 511) HT_ ?_
  refine on 9 (none) (fl 10 1023) HT_ (fun K hK => ?_)
  have hs10 : w9.cell? ⟨gb325, 0, none⟩ = some (.int .i64 0) := bc BK325 0
  have hfs10 := blk_frozen BK325.out 0
  have hns10_0 := NB324_325.out
  have hms10_0 := NB325_324.out
  have hs11 : w9.cell? ⟨gb325, 1, none⟩ = some (.int .i64 0) := bc BK325 1
  have hfs11 := blk_frozen BK325.out 1
  have hns11_0 := NB324_325.out
  have hms11_0 := NB325_324.out
  refine skip_ (w1 := ?_) ?hw ?hn ?_ ?_; (case hw => unfold Region.wanted; rfl); (case hn => rfl)
  rotate_left
  · go_simp
    rfl
  refine hK.out _ _ ⟨(cf NB324_325 ((cf NB324_325 (hHeld.1)))), (cf NB324_325 ((cf NB324_325 (hHeld.2))))⟩ (fun hHeld => ?_)
  clear hK K
  refine done_ (done_of HT_.out (by kernel_rfl)) ?_
  try go_wp2
  refine bodyPost_ret (results_cell_row rfl _ _ gb325 24 #[.int .i64 t326, .int .i64 t327] (0, 0) _ rfl (qP BK325) Try.underlying24 rfl (by kernel_rfl)) rfl ?_
  exact ⟨qE, qL HB⟩

attribute [local go_sem high] eqA24
/-! ### impl_isDrive: function 51 -/
def impl_isDrive.f (a0_0 : Int) (a0_1 : Int) : Option (Bool) := (impl_Vec_clamped.f a0_0 a0_1 20000000).bind fun bt329 => (some (a0_0 == bt329.1 && (a0_1 == bt329.2)))
set_option maxHeartbeats 8000000 in
set_option maxRecDepth 100000 in
theorem impl_isDrive.calls (a0_0 : Int) (a0_1 : Int) (r : Bool) (w : World) (h : impl_isDrive.f a0_0 a0_1 = some r) :
    Calls Try.prog 51 #[.agg #[.int .i64 a0_0, .int .i64 a0_1]] w fun e w' => e = .returned (.bool r) ∧ Below w.heap.size w w' := by
  have hu24 := Try.underlying24
  have HB := az (Below.refl w.heap.size w)
  have H : ((impl_Vec_clamped.f a0_0 a0_1 20000000).bind fun bt329 => (some (a0_0 == bt329.1 && (a0_1 == bt329.2)))) = some r := h
  clear h
  replace H := qH H
  obtain ⟨⟨t329, t330⟩, A2, H⟩ := H
  try dsimp only at H
  obtain rfl := Option.some.inj H
  go_enter Try.func51, Try.ntmps51
  try go_wp2_with (first | ((with_reducible refine gate_dst (N := 1) rfl ?_); refine bx (N := 1) (cs := #[.int .i64 a0_0, .int .i64 a0_1]) (t := 24) ?_; intro gb328 hg w3 hbox hb; have BK328 := az hbox; have GW328 := az ((gE hg (qL HB) : w.heap.size ≤ gb328)); have GE328 := GW328; replace HB := bS HB hb; clear hb hbox hg))
  replace BK328 := az (blk_drew BK328.out)
  replace HB := az (below_drew1 HB.out)
  refine start_ (n := 5) (S := fun w' => w'.cell? ⟨gb328, 0, none⟩ = some (.int .i64 a0_0) ∧ w'.cell? ⟨gb328, 1, none⟩ = some (.int .i64 a0_1)) (ds := []) #[false, false, false, false, false] (by kernel_rfl) rfl rfl ⟨bc BK328 0, bc BK328 1⟩ (fun hHeld => ?_)
  generalize w3.drew = w4 at BK328 HB hHeld ⊢
  refine take_ (i := 0) (N := some 3) (v := ?_) (a' := ?_) #[true, false, false, false, false] rfl rfl (by kernel_rfl) (fun _ _ _ h => h) (Or.inl ⟨by rfl, ?_⟩) hHeld ?_ ?_
  rotate_left
  · rintro w' ⟨s0, s1⟩
    go_simp
    with_reducible rfl
  rotate_left
  · simp only [Act.put, List.setIfInBounds_toArray, List.set_cons_zero, List.set_cons_succ, i64_w, i32_w]
    rfl
  refine take_ (i := 1) (N := some 4) (v := ?_) (a' := ?_) #[true, true, false, false, false] rfl rfl (by kernel_rfl) (fun _ _ _ h => h) (Or.inl ⟨by rfl, ?_⟩) hHeld ?_ ?_
  rotate_left
  · rintro w' ⟨s0, s1⟩
    go_simp
    with_reducible rfl
  rotate_left
  · simp only [Act.put, List.setIfInBounds_toArray, List.set_cons_zero, List.set_cons_succ, i64_w, i32_w]
    rfl
  refine one_ (i := 2) (N := some 5) #[true, true, true, false, false] rfl rfl (by kernel_rfl) (by decide) (fun K hK => ?_)
  refine go1 Try.func71 #[.agg #[.int .i64 a0_0, .int .i64 a0_1], .int .i64 20000000] ?_
  with_reducible refine (impl_Vec_clamped.calls a0_0 a0_1 20000000 t329 t330 _ A2.out).mono ?_
  rintro e w5 ⟨rfl, hb⟩
  refine ⟨_, rfl, ?_⟩
  replace BK328 := kBB BK328 hb
  replace HB := bS HB hb
  clear hb
  refine hK.out _ _ ⟨bc BK328 0, bc BK328 1⟩ (fun hHeld => ?_)
  clear hK K
  refine nm (some 5) ?_
  refine pure_ (i := 3) (N := some 6) (v := ?_) (a' := ?_) #[true, true, true, true, false] rfl rfl (by kernel_rfl) (fun _ _ _ h => h) (Or.inl ⟨by rfl, ?_⟩) ?_ ?_
  rotate_left
  · intro w'
    go_simp
    with_reducible rfl
  rotate_left
  · simp only [Act.put, List.setIfInBounds_toArray, List.set_cons_zero, List.set_cons_succ, i64_w, i32_w]
    rfl
  refine pure_ (i := 4) (N := some 2) (v := ?_) (a' := ?_) #[true, true, true, true, true] rfl rfl (by kernel_rfl) (fun _ _ _ h => h) (Or.inl ⟨by rfl, ?_⟩) ?_ ?_
  rotate_left
  · intro w'
    go_simp
    with_reducible rfl
  rotate_left
  · simp only [Act.put, List.setIfInBounds_toArray, List.set_cons_zero, List.set_cons_succ, i64_w, i32_w]
    rfl
  refine done_ (by kernel_rfl) ?_
  try go_wp2
  go_ret
  exact ⟨qE, qL HB⟩

/-! ### impl_ShapeOk: function 67 -/
def impl_ShapeOk.f (a0_0 : Int) (a0_1 : Int) (a0_2 : Int) : Option (Bool) := if a0_0 = 1 then ((impl_in.f a0_1 1 25600).bind fun t332 => (if t332 = true then (some (a0_2 == 0)) else (some false))) else (if a0_0 = 2 then ((impl_in.f a0_1 1 25600).bind fun t333 => (if t333 = true then ((impl_in.f a0_2 1 25600).bind fun t334 => (some t334)) else (some false))) else (some false))
set_option maxHeartbeats 8000000 in
set_option maxRecDepth 100000 in
theorem impl_ShapeOk.calls (a0_0 : Int) (a0_1 : Int) (a0_2 : Int) (r : Bool) (w : World) (h : impl_ShapeOk.f a0_0 a0_1 a0_2 = some r) :
    Calls Try.prog 67 #[.agg #[.int .i64 a0_0, .int .i64 a0_1, .int .i64 a0_2]] w fun e w' => e = .returned (.bool r) ∧ Below w.heap.size w w' := by
  have hu38 := Try.underlying38
  have HB := az (Below.refl w.heap.size w)
  have H : (if a0_0 = 1 then ((impl_in.f a0_1 1 25600).bind fun t332 => (if t332 = true then (some (a0_2 == 0)) else (some false))) else (if a0_0 = 2 then ((impl_in.f a0_1 1 25600).bind fun t333 => (if t333 = true then ((impl_in.f a0_2 1 25600).bind fun t334 => (some t334)) else (some false))) else (some false))) = some r := h
  clear h
  by_cases c2 : a0_0 = 1
  · rw [if_pos c2] at H
    have c2b0 : (a0_0 == 1) = true := beq_iff_eq.mpr c2
    have c2b1 : (a0_0 != 1) = false := bne_eq_false_iff_eq.mpr c2
    clear c2
    replace H := qH H
    obtain ⟨t332, A3, H⟩ := H
    try dsimp only at H
    by_cases c4 : t332 = true
    · subst c4
      replace H := qT H
      obtain rfl := Option.some.inj H
      go_enter Try.func67, Try.ntmps67
      go_wp2_with (first | ((with_reducible refine gate_dst (N := 1) rfl ?_); refine bx (N := 1) (cs := #[.int .i64 a0_0, .int .i64 a0_1, .int .i64 a0_2]) (t := 38) ?_; intro gb331 hg w5 hbox hb; have BK331 := az hbox; have GW331 := az ((gE hg (qL HB) : w.heap.size ≤ gb331)); have GE331 := GW331; replace HB := bS HB hb; clear hb hbox hg; obtain ⟨hcz6_0, hcz6_1, hcz6_2⟩ := cz3 BK331.out; obtain ⟨hfz6_0, hfz6_1, hfz6_2⟩ := fz3 BK331.out) | ((with_reducible refine gate_callee (f := 66) rfl ?_); refine gl (some 9) Try.func66 #[.int .i64 a0_1, .int .i64 1, .int .i64 25600] ?_; (with_reducible refine (impl_in.calls a0_1 1 25600 true _ A3.out).mono ?_); rintro e w' ⟨rfl, ⟨nd, rfl⟩⟩; refine ⟨_, rfl, ?_⟩))
      go_ret
      exact ⟨qE, qL HB⟩
    replace c4 := Bool.eq_false_iff.mpr c4
    subst c4
    replace H := qU H
    obtain rfl := Option.some.inj H
    go_enter Try.func67, Try.ntmps67
    go_wp2_with (first | ((with_reducible refine gate_dst (N := 1) rfl ?_); refine bx (N := 1) (cs := #[.int .i64 a0_0, .int .i64 a0_1, .int .i64 a0_2]) (t := 38) ?_; intro gb331 hg w7 hbox hb; have BK331 := az hbox; have GW331 := az ((gE hg (qL HB) : w.heap.size ≤ gb331)); have GE331 := GW331; replace HB := bS HB hb; clear hb hbox hg; obtain ⟨hcz8_0, hcz8_1, hcz8_2⟩ := cz3 BK331.out; obtain ⟨hfz8_0, hfz8_1, hfz8_2⟩ := fz3 BK331.out) | ((with_reducible refine gate_callee (f := 66) rfl ?_); refine gl (some 9) Try.func66 #[.int .i64 a0_1, .int .i64 1, .int .i64 25600] ?_; (with_reducible refine (impl_in.calls a0_1 1 25600 false _ A3.out).mono ?_); rintro e w' ⟨rfl, ⟨nd, rfl⟩⟩; refine ⟨_, rfl, ?_⟩))
    go_ret
    exact ⟨qE, qL HB⟩
  rw [if_neg c2] at H
  have c2b0 : (a0_0 == 1) = false := beq_eq_false_iff_ne.mpr c2
  have c2b1 : (a0_0 != 1) = true := bne_iff_ne.mpr c2
  by_cases c9 : a0_0 = 2
  · rw [if_pos c9] at H
    have c9b0 : (a0_0 == 2) = true := beq_iff_eq.mpr c9
    have c9b1 : (a0_0 != 2) = false := bne_eq_false_iff_eq.mpr c9
    clear c9
    replace H := qH H
    obtain ⟨t333, A10, H⟩ := H
    try dsimp only at H
    by_cases c11 : t333 = true
    · subst c11
      replace H := qT H
      replace H := qH H
      obtain ⟨t334, A12, H⟩ := H
      try dsimp only at H
      obtain rfl := Option.some.inj H
      go_enter Try.func67, Try.ntmps67
      go_wp2_with (first | ((with_reducible refine gate_dst (N := 1) rfl ?_); refine bx (N := 1) (cs := #[.int .i64 a0_0, .int .i64 a0_1, .int .i64 a0_2]) (t := 38) ?_; intro gb331 hg w13 hbox hb; have BK331 := az hbox; have GW331 := az ((gE hg (qL HB) : w.heap.size ≤ gb331)); have GE331 := GW331; replace HB := bS HB hb; clear hb hbox hg; obtain ⟨hcz14_0, hcz14_1, hcz14_2⟩ := cz3 BK331.out; obtain ⟨hfz14_0, hfz14_1, hfz14_2⟩ := fz3 BK331.out) | ((with_reducible refine gate_callee (f := 66) rfl ?_); refine gl (some 19) Try.func66 #[.int .i64 a0_1, .int .i64 1, .int .i64 25600] ?_; (with_reducible refine (impl_in.calls a0_1 1 25600 true _ A10.out).mono ?_); rintro e w' ⟨rfl, ⟨nd, rfl⟩⟩; refine ⟨_, rfl, ?_⟩) | (go_at_call 66; (with_reducible refine (impl_in.calls a0_2 1 25600 t334 _ A12.out).mono ?_); rintro e w' ⟨rfl, ⟨nd, rfl⟩⟩))
      go_ret
      exact ⟨qE, qL HB⟩
    replace c11 := Bool.eq_false_iff.mpr c11
    subst c11
    replace H := qU H
    obtain rfl := Option.some.inj H
    go_enter Try.func67, Try.ntmps67
    go_wp2_with (first | ((with_reducible refine gate_dst (N := 1) rfl ?_); refine bx (N := 1) (cs := #[.int .i64 a0_0, .int .i64 a0_1, .int .i64 a0_2]) (t := 38) ?_; intro gb331 hg w15 hbox hb; have BK331 := az hbox; have GW331 := az ((gE hg (qL HB) : w.heap.size ≤ gb331)); have GE331 := GW331; replace HB := bS HB hb; clear hb hbox hg; obtain ⟨hcz16_0, hcz16_1, hcz16_2⟩ := cz3 BK331.out; obtain ⟨hfz16_0, hfz16_1, hfz16_2⟩ := fz3 BK331.out) | ((with_reducible refine gate_callee (f := 66) rfl ?_); refine gl (some 19) Try.func66 #[.int .i64 a0_1, .int .i64 1, .int .i64 25600] ?_; (with_reducible refine (impl_in.calls a0_1 1 25600 false _ A10.out).mono ?_); rintro e w' ⟨rfl, ⟨nd, rfl⟩⟩; refine ⟨_, rfl, ?_⟩))
    go_ret
    exact ⟨qE, qL HB⟩
  rw [if_neg c9] at H
  have c9b0 : (a0_0 == 2) = false := beq_eq_false_iff_ne.mpr c9
  have c9b1 : (a0_0 != 2) = true := bne_iff_ne.mpr c9
  obtain rfl := Option.some.inj H
  go_enter Try.func67, Try.ntmps67
  go_wp2_with (first | ((with_reducible refine gate_dst (N := 1) rfl ?_); refine bx (N := 1) (cs := #[.int .i64 a0_0, .int .i64 a0_1, .int .i64 a0_2]) (t := 38) ?_; intro gb331 hg w17 hbox hb; have BK331 := az hbox; have GW331 := az ((gE hg (qL HB) : w.heap.size ≤ gb331)); have GE331 := GW331; replace HB := bS HB hb; clear hb hbox hg; obtain ⟨hcz18_0, hcz18_1, hcz18_2⟩ := cz3 BK331.out; obtain ⟨hfz18_0, hfz18_1, hfz18_2⟩ := fz3 BK331.out))
  go_ret
  exact ⟨qE, qL HB⟩

/-! ### impl_isPlace: function 68 -/
def impl_isPlace.f (a0_0 : Int) (a0_1 : Int) : Option (Bool) := (impl_in.f a0_0 (-2560000) 2560000).bind fun t336 => (if t336 = true then ((impl_in.f a0_1 (-2560000) 2560000).bind fun t337 => (some t337)) else (some false))
set_option maxHeartbeats 8000000 in
set_option maxRecDepth 100000 in
theorem impl_isPlace.calls (a0_0 : Int) (a0_1 : Int) (r : Bool) (w : World) (h : impl_isPlace.f a0_0 a0_1 = some r) :
    Calls Try.prog 68 #[.agg #[.int .i64 a0_0, .int .i64 a0_1]] w fun e w' => e = .returned (.bool r) ∧ Below w.heap.size w w' := by
  have hu24 := Try.underlying24
  have HB := az (Below.refl w.heap.size w)
  have H : ((impl_in.f a0_0 (-2560000) 2560000).bind fun t336 => (if t336 = true then ((impl_in.f a0_1 (-2560000) 2560000).bind fun t337 => (some t337)) else (some false))) = some r := h
  clear h
  replace H := qH H
  obtain ⟨t336, A2, H⟩ := H
  try dsimp only at H
  by_cases c3 : t336 = true
  · subst c3
    replace H := qT H
    replace H := qH H
    obtain ⟨t337, A4, H⟩ := H
    try dsimp only at H
    obtain rfl := Option.some.inj H
    go_enter Try.func68, Try.ntmps68
    go_wp2_with (first | ((with_reducible refine gate_dst (N := 1) rfl ?_); refine bx (N := 1) (cs := #[.int .i64 a0_0, .int .i64 a0_1]) (t := 24) ?_; intro gb335 hg w5 hbox hb; have BK335 := az hbox; have GW335 := az ((gE hg (qL HB) : w.heap.size ≤ gb335)); have GE335 := GW335; replace HB := bS HB hb; clear hb hbox hg; obtain ⟨hcz6_0, hcz6_1⟩ := cz2 BK335.out; have hfz6_0 := blk_frozen BK335.out 0; have hfz6_1 := blk_frozen BK335.out 1) | ((with_reducible refine gate_callee (f := 66) rfl ?_); refine gl (some 5) Try.func66 #[.int .i64 a0_0, .int .i64 (-2560000), .int .i64 2560000] ?_; (with_reducible refine (impl_in.calls a0_0 (-2560000) 2560000 true _ A2.out).mono ?_); rintro e w' ⟨rfl, ⟨nd, rfl⟩⟩; refine ⟨_, rfl, ?_⟩) | (go_at_call 66; (with_reducible refine (impl_in.calls a0_1 (-2560000) 2560000 t337 _ A4.out).mono ?_); rintro e w' ⟨rfl, ⟨nd, rfl⟩⟩))
    go_ret
    exact ⟨qE, qL HB⟩
  replace c3 := Bool.eq_false_iff.mpr c3
  subst c3
  replace H := qU H
  obtain rfl := Option.some.inj H
  go_enter Try.func68, Try.ntmps68
  go_wp2_with (first | ((with_reducible refine gate_dst (N := 1) rfl ?_); refine bx (N := 1) (cs := #[.int .i64 a0_0, .int .i64 a0_1]) (t := 24) ?_; intro gb335 hg w7 hbox hb; have BK335 := az hbox; have GW335 := az ((gE hg (qL HB) : w.heap.size ≤ gb335)); have GE335 := GW335; replace HB := bS HB hb; clear hb hbox hg; obtain ⟨hcz8_0, hcz8_1⟩ := cz2 BK335.out; have hfz8_0 := blk_frozen BK335.out 0; have hfz8_1 := blk_frozen BK335.out 1) | ((with_reducible refine gate_callee (f := 66) rfl ?_); refine gl (some 5) Try.func66 #[.int .i64 a0_0, .int .i64 (-2560000), .int .i64 2560000] ?_; (with_reducible refine (impl_in.calls a0_0 (-2560000) 2560000 false _ A2.out).mono ?_); rintro e w' ⟨rfl, ⟨nd, rfl⟩⟩; refine ⟨_, rfl, ?_⟩))
  go_ret
  exact ⟨qE, qL HB⟩

/-! ### impl_Body_fixed: function 69 -/
def impl_Body_fixed.f (a0_0 : Int) (a0_1 : Int) (a0_2 : Int) (a0_3 : Int) (a0_4 : Int) (a0_5 : Int) (a0_6 : Int) (a0_7 : Int) (a0_8 : Int) (a0_9 : Int) (a0_10 : Int) (a0_11 : Int) : Option (Bool) := some (a0_8 == 0)
set_option maxHeartbeats 8000000 in
set_option maxRecDepth 100000 in
theorem impl_Body_fixed.calls (a0_0 : Int) (a0_1 : Int) (a0_2 : Int) (a0_3 : Int) (a0_4 : Int) (a0_5 : Int) (a0_6 : Int) (a0_7 : Int) (a0_8 : Int) (a0_9 : Int) (a0_10 : Int) (a0_11 : Int) (r : Bool) (w : World) (h : impl_Body_fixed.f a0_0 a0_1 a0_2 a0_3 a0_4 a0_5 a0_6 a0_7 a0_8 a0_9 a0_10 a0_11 = some r) :
    Calls Try.prog 69 #[.agg #[.int .i64 a0_0, .int .i64 a0_1, .int .i64 a0_2, .int .i64 a0_3, .int .i64 a0_4, .int .i64 a0_5, .int .i64 a0_6, .int .i64 a0_7, .int .i64 a0_8, .int .i64 a0_9, .int .i64 a0_10, .int .i64 a0_11]] w fun e w' => e = .returned (.bool r) ∧ Below w.heap.size w w' := by
  have hu40 := Try.underlying40
  have HB := az (Below.refl w.heap.size w)
  have H : (some (a0_8 == 0)) = some r := h
  clear h
  obtain rfl := Option.some.inj H
  go_enter Try.func69, Try.ntmps69
  go_wp2_with (first | ((with_reducible refine gate_dst (N := 1) rfl ?_); refine bx (N := 1) (cs := #[.int .i64 a0_0, .int .i64 a0_1, .int .i64 a0_2, .int .i64 a0_3, .int .i64 a0_4, .int .i64 a0_5, .int .i64 a0_6, .int .i64 a0_7, .int .i64 a0_8, .int .i64 a0_9, .int .i64 a0_10, .int .i64 a0_11]) (t := 40) ?_; intro gb338 hg w2 hbox hb; have BK338 := az hbox; have GW338 := az ((gE hg (qL HB) : w.heap.size ≤ gb338)); have GE338 := GW338; replace HB := bS HB hb; clear hb hbox hg; obtain ⟨hcz3_0, hcz3_1, hcz3_2, hcz3_3, hcz3_4, hcz3_5, hcz3_6, hcz3_7, hcz3_8, hcz3_9, hcz3_10, hcz3_11⟩ := cz12 BK338.out; obtain ⟨hfz3_0, hfz3_1, hfz3_2, hfz3_3, hfz3_4, hfz3_5, hfz3_6, hfz3_7, hfz3_8, hfz3_9, hfz3_10, hfz3_11⟩ := fz12 BK338.out))
  go_ret
  exact ⟨qE, qL HB⟩
end Go.Proofs.Ytihajbjkjclmoaa.PBig
