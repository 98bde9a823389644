/- What these functions compute, each walked once: impl_in, spec_l1In, spec_ShapeOk, spec_l3Place, spec_l6Drive, spec_l6Speed, impl_ShapeOk, impl_isPlace, impl_within, impl_Vec_clamped, impl_isDrive, impl_Body_fixed, impl_Body_sleeps; for all arguments and worlds, under the conditions that each theorem names. -/
import Derived.Test.YtgclkbklhopaaaaSq
namespace Go.Proofs.Ytgclkbklhopaaaa.PBig
open Go.RowKit Go.Proofs.YtgclkbklhopaaaaW.PrintWords Go.Proofs.YtgclkbklhopaaaaW.PrintLast Go.Proofs.YtgclkbklhopaaaaW.PrintMore
attribute [local go_sem] max2_int min2_int max_two min_two max_three min_three max_four min_four   -- for this text's walks alone
set_option linter.unusedVariables false
set_option linter.unusedSimpArgs false


theorem eqA24 (d : Nat) (w : World) (x0 y0 : Int) (x1 y1 : Int) :
    (Op.equalIn (d + 2) 24 (.agg #[.int .i64 x0, .int .i64 x1]) (.agg #[.int .i64 y0, .int .i64 y1])).run Try.prog w = .ok (x0 == y0 && (x1 == y1)) w := by
  refine eqA_of Try.underlying24 (by kernel_rfl) ?_
  refine eqf_cons (by rfl) (by go_simp; rfl) (by go_simp; rfl) (by go_simp) ?_
  exact eqf_last (by rfl) (by go_simp; rfl) (by go_simp; rfl) (by go_simp)

/-! ### impl_in: function 89 -/
def impl_in.f (a0 : Int) (a1 : Int) (a2 : Int) : Option (Bool) := if a0 ≥ a1 then (some (decide (a0 ≤ a2))) else (some false)
set_option maxHeartbeats 8000000 in
set_option maxRecDepth 100000 in
theorem impl_in.calls (a0 : Int) (a1 : Int) (a2 : Int) (r : Bool) (w : World) (h : impl_in.f a0 a1 a2 = some r) :
    Calls Try.prog 89 #[.int .i64 a0, .int .i64 a1, .int .i64 a2] w fun e w' => e = .returned (.bool r) ∧ Drawn0 w w' := by
  have H : (if a0 ≥ a1 then (some (decide (a0 ≤ a2))) else (some false)) = some r := h
  clear h
  by_cases c4 : a0 ≥ a1
  · rw [if_pos c4] at H
    have c4b0 : decide (a1 ≤ a0) = true := decide_eq_true c4
    clear c4
    obtain rfl := Option.some.inj H
    go_enter Try.func89, Try.ntmps89
    go_wp2
    go_ret
    exact ⟨by first | rfl | (simp; done) | (simp [*]; done), by repeat (first | exact Drawn0.refl _ | apply Drawn0.step)⟩
  rw [if_neg c4] at H
  have c4b0 : decide (a1 ≤ a0) = false := decide_eq_false c4
  clear c4
  obtain rfl := Option.some.inj H
  go_enter Try.func89, Try.ntmps89
  go_wp2
  go_ret
  exact ⟨by first | rfl | (simp; done) | (simp [*]; done), by repeat (first | exact Drawn0.refl _ | apply Drawn0.step)⟩

/-! ### spec_l1In: function 76 -/
def spec_l1In.f (a0 : Int) (a1 : Int) (a2 : Int) : Option (Bool) := if a0 ≥ a1 then (some (decide (a0 ≤ a2))) else (some false)
set_option maxHeartbeats 8000000 in
set_option maxRecDepth 100000 in
theorem spec_l1In.calls (a0 : Int) (a1 : Int) (a2 : Int) (r : Bool) (w : World) (h : spec_l1In.f a0 a1 a2 = some r) :
    Calls Try.prog 76 #[.int .i64 a0, .int .i64 a1, .int .i64 a2] w fun e w' => e = .returned (.bool r) ∧ Drawn0 w w' := by
  have H : (if a0 ≥ a1 then (some (decide (a0 ≤ a2))) else (some false)) = some r := h
  clear h
  by_cases c4 : a0 ≥ a1
  · rw [if_pos c4] at H
    have c4b0 : decide (a1 ≤ a0) = true := decide_eq_true c4
    clear c4
    obtain rfl := Option.some.inj H
    go_enter Try.func76, Try.ntmps76
    go_wp2
    go_ret
    exact ⟨by first | rfl | (simp; done) | (simp [*]; done), by repeat (first | exact Drawn0.refl _ | apply Drawn0.step)⟩
  rw [if_neg c4] at H
  have c4b0 : decide (a1 ≤ a0) = false := decide_eq_false c4
  clear c4
  obtain rfl := Option.some.inj H
  go_enter Try.func76, Try.ntmps76
  go_wp2
  go_ret
  exact ⟨by first | rfl | (simp; done) | (simp [*]; done), by repeat (first | exact Drawn0.refl _ | apply Drawn0.step)⟩

/-! ### spec_ShapeOk: function 38 -/
def spec_ShapeOk.f (a0_0 : Int) (a0_1 : Int) (a0_2 : Int) : Option (Bool) := if a0_0 = 1 then ((spec_l1In.f a0_1 1 25600).bind fun t266 => (if t266 = true then (some (a0_2 == 0)) else (some false))) else (if a0_0 = 2 then ((spec_l1In.f a0_1 1 25600).bind fun t267 => (if t267 = true then ((spec_l1In.f a0_2 1 25600).bind fun t268 => (some t268)) else (some false))) else (some false))
set_option maxHeartbeats 8000000 in
set_option maxRecDepth 100000 in
theorem spec_ShapeOk.calls (a0_0 : Int) (a0_1 : Int) (a0_2 : Int) (r : Bool) (w : World) (h : spec_ShapeOk.f a0_0 a0_1 a0_2 = some r) :
    Calls Try.prog 38 #[.agg #[.int .i64 a0_0, .int .i64 a0_1, .int .i64 a0_2]] w fun e w' => e = .returned (.bool r) ∧ Below w.heap.size w w' := by
  have hu39 := Try.underlying39
  have HB := Aside0.mk (Below.refl w.heap.size w)
  have H : (if a0_0 = 1 then ((spec_l1In.f a0_1 1 25600).bind fun t266 => (if t266 = true then (some (a0_2 == 0)) else (some false))) else (if a0_0 = 2 then ((spec_l1In.f a0_1 1 25600).bind fun t267 => (if t267 = true then ((spec_l1In.f a0_2 1 25600).bind fun t268 => (some t268)) else (some false))) else (some false))) = some r := h
  clear h
  by_cases c2 : a0_0 = 1
  · rw [if_pos c2] at H
    have c2b0 : (a0_0 == 1) = true := beq_iff_eq.mpr c2
    have c2b1 : (a0_0 != 1) = false := bne_eq_false_iff_eq.mpr c2
    clear c2
    replace H := qH H
    obtain ⟨t266, A3, H⟩ := H
    try dsimp only at H
    by_cases c4 : t266 = true
    · subst c4
      have H1 : (some (a0_2 == 0)) = some r := by rw [if_pos rfl] at H; exact H
      clear H
      have H := H1
      clear H1
      obtain rfl := Option.some.inj H
      go_enter Try.func38, Try.ntmps38
      go_wp2_with (first | ((with_reducible refine gate_dst (N := 1) rfl ?_); refine bx (N := 1) (cs := #[.int .i64 a0_0, .int .i64 a0_1, .int .i64 a0_2]) (t := 39) ?_; intro gb265 hg w5 hbox hb; have BK265 := Aside0.mk (hbox); have GW265 := Aside0.mk ((gE hg (qL HB) : w.heap.size ≤ gb265)); have GE265 := Aside0.mk ((gE hg (qL HB) : w.heap.size ≤ gb265)); replace HB := bS HB hb; clear hb hbox hg; obtain ⟨hcz6_0, hcz6_1, hcz6_2⟩ := cz3 BK265.out; obtain ⟨hfz6_0, hfz6_1, hfz6_2⟩ := fz3 BK265.out) | ((with_reducible refine gate_callee (f := 76) rfl ?_); refine gl (some 9) Try.func76 #[.int .i64 a0_1, .int .i64 1, .int .i64 25600] ?_; (with_reducible refine (spec_l1In.calls a0_1 1 25600 true _ A3.out).mono ?_); rintro e w' ⟨rfl, ⟨nd, rfl⟩⟩; refine ⟨_, rfl, ?_⟩))
      go_ret
      exact ⟨qE, qL HB⟩
    replace c4 := Bool.eq_false_iff.mpr c4
    subst c4
    have H1 : (some false) = some r := by rw [if_neg (show ¬ (false = true) by decide)] at H; exact H
    clear H
    have H := H1
    clear H1
    obtain rfl := Option.some.inj H
    go_enter Try.func38, Try.ntmps38
    go_wp2_with (first | ((with_reducible refine gate_dst (N := 1) rfl ?_); refine bx (N := 1) (cs := #[.int .i64 a0_0, .int .i64 a0_1, .int .i64 a0_2]) (t := 39) ?_; intro gb265 hg w7 hbox hb; have BK265 := Aside0.mk (hbox); have GW265 := Aside0.mk ((gE hg (qL HB) : w.heap.size ≤ gb265)); have GE265 := Aside0.mk ((gE hg (qL HB) : w.heap.size ≤ gb265)); replace HB := bS HB hb; clear hb hbox hg; obtain ⟨hcz8_0, hcz8_1, hcz8_2⟩ := cz3 BK265.out; obtain ⟨hfz8_0, hfz8_1, hfz8_2⟩ := fz3 BK265.out) | ((with_reducible refine gate_callee (f := 76) rfl ?_); refine gl (some 9) Try.func76 #[.int .i64 a0_1, .int .i64 1, .int .i64 25600] ?_; (with_reducible refine (spec_l1In.calls a0_1 1 25600 false _ A3.out).mono ?_); rintro e w' ⟨rfl, ⟨nd, rfl⟩⟩; refine ⟨_, rfl, ?_⟩))
    go_ret
    exact ⟨qE, qL HB⟩
  rw [if_neg c2] at H
  have c2b0 : (a0_0 == 1) = false := beq_eq_false_iff_ne.mpr c2
  have c2b1 : (a0_0 != 1) = true := bne_iff_ne.mpr c2
  by_cases c9 : a0_0 = 2
  · rw [if_pos c9] at H
    have c9b0 : (a0_0 == 2) = true := beq_iff_eq.mpr c9
    have c9b1 : (a0_0 != 2) = false := bne_eq_false_iff_eq.mpr c9
    clear c9
    replace H := qH H
    obtain ⟨t267, A10, H⟩ := H
    try dsimp only at H
    by_cases c11 : t267 = true
    · subst c11
      have H1 : ((spec_l1In.f a0_2 1 25600).bind fun t268 => (some t268)) = some r := by rw [if_pos rfl] at H; exact H
      clear H
      have H := H1
      clear H1
      replace H := qH H
      obtain ⟨t268, A12, H⟩ := H
      try dsimp only at H
      obtain rfl := Option.some.inj H
      go_enter Try.func38, Try.ntmps38
      go_wp2_with (first | ((with_reducible refine gate_dst (N := 1) rfl ?_); refine bx (N := 1) (cs := #[.int .i64 a0_0, .int .i64 a0_1, .int .i64 a0_2]) (t := 39) ?_; intro gb265 hg w13 hbox hb; have BK265 := Aside0.mk (hbox); have GW265 := Aside0.mk ((gE hg (qL HB) : w.heap.size ≤ gb265)); have GE265 := Aside0.mk ((gE hg (qL HB) : w.heap.size ≤ gb265)); replace HB := bS HB hb; clear hb hbox hg; obtain ⟨hcz14_0, hcz14_1, hcz14_2⟩ := cz3 BK265.out; obtain ⟨hfz14_0, hfz14_1, hfz14_2⟩ := fz3 BK265.out) | ((with_reducible refine gate_callee (f := 76) rfl ?_); refine gl (some 19) Try.func76 #[.int .i64 a0_1, .int .i64 1, .int .i64 25600] ?_; (with_reducible refine (spec_l1In.calls a0_1 1 25600 true _ A10.out).mono ?_); rintro e w' ⟨rfl, ⟨nd, rfl⟩⟩; refine ⟨_, rfl, ?_⟩) | (go_at_call 76; (with_reducible refine (spec_l1In.calls a0_2 1 25600 t268 _ A12.out).mono ?_); rintro e w' ⟨rfl, ⟨nd, rfl⟩⟩))
      go_ret
      exact ⟨qE, qL HB⟩
    replace c11 := Bool.eq_false_iff.mpr c11
    subst c11
    have H1 : (some false) = some r := by rw [if_neg (show ¬ (false = true) by decide)] at H; exact H
    clear H
    have H := H1
    clear H1
    obtain rfl := Option.some.inj H
    go_enter Try.func38, Try.ntmps38
    go_wp2_with (first | ((with_reducible refine gate_dst (N := 1) rfl ?_); refine bx (N := 1) (cs := #[.int .i64 a0_0, .int .i64 a0_1, .int .i64 a0_2]) (t := 39) ?_; intro gb265 hg w15 hbox hb; have BK265 := Aside0.mk (hbox); have GW265 := Aside0.mk ((gE hg (qL HB) : w.heap.size ≤ gb265)); have GE265 := Aside0.mk ((gE hg (qL HB) : w.heap.size ≤ gb265)); replace HB := bS HB hb; clear hb hbox hg; obtain ⟨hcz16_0, hcz16_1, hcz16_2⟩ := cz3 BK265.out; obtain ⟨hfz16_0, hfz16_1, hfz16_2⟩ := fz3 BK265.out) | ((with_reducible refine gate_callee (f := 76) rfl ?_); refine gl (some 19) Try.func76 #[.int .i64 a0_1, .int .i64 1, .int .i64 25600] ?_; (with_reducible refine (spec_l1In.calls a0_1 1 25600 false _ A10.out).mono ?_); rintro e w' ⟨rfl, ⟨nd, rfl⟩⟩; refine ⟨_, rfl, ?_⟩))
    go_ret
    exact ⟨qE, qL HB⟩
  rw [if_neg c9] at H
  have c9b0 : (a0_0 == 2) = false := beq_eq_false_iff_ne.mpr c9
  have c9b1 : (a0_0 != 2) = true := bne_iff_ne.mpr c9
  obtain rfl := Option.some.inj H
  go_enter Try.func38, Try.ntmps38
  go_wp2_with (first | ((with_reducible refine gate_dst (N := 1) rfl ?_); refine bx (N := 1) (cs := #[.int .i64 a0_0, .int .i64 a0_1, .int .i64 a0_2]) (t := 39) ?_; intro gb265 hg w17 hbox hb; have BK265 := Aside0.mk (hbox); have GW265 := Aside0.mk ((gE hg (qL HB) : w.heap.size ≤ gb265)); have GE265 := Aside0.mk ((gE hg (qL HB) : w.heap.size ≤ gb265)); replace HB := bS HB hb; clear hb hbox hg; obtain ⟨hcz18_0, hcz18_1, hcz18_2⟩ := cz3 BK265.out; obtain ⟨hfz18_0, hfz18_1, hfz18_2⟩ := fz3 BK265.out))
  go_ret
  exact ⟨qE, qL HB⟩

/-! ### spec_l3Place: function 87 -/
def spec_l3Place.f (a0_0 : Int) (a0_1 : Int) : Option (Bool) := (spec_l1In.f a0_0 (-2560000) 2560000).bind fun t270 => (if t270 = true then ((spec_l1In.f a0_1 (-2560000) 2560000).bind fun t271 => (some t271)) else (some false))
set_option maxHeartbeats 8000000 in
set_option maxRecDepth 100000 in
theorem spec_l3Place.calls (a0_0 : Int) (a0_1 : Int) (r : Bool) (w : World) (h : spec_l3Place.f a0_0 a0_1 = some r) :
    Calls Try.prog 87 #[.agg #[.int .i64 a0_0, .int .i64 a0_1]] w fun e w' => e = .returned (.bool r) ∧ Below w.heap.size w w' := by
  have hu24 := Try.underlying24
  have HB := Aside0.mk (Below.refl w.heap.size w)
  have H : ((spec_l1In.f a0_0 (-2560000) 2560000).bind fun t270 => (if t270 = true then ((spec_l1In.f a0_1 (-2560000) 2560000).bind fun t271 => (some t271)) else (some false))) = some r := h
  clear h
  replace H := qH H
  obtain ⟨t270, A2, H⟩ := H
  try dsimp only at H
  by_cases c3 : t270 = true
  · subst c3
    have H1 : ((spec_l1In.f a0_1 (-2560000) 2560000).bind fun t271 => (some t271)) = some r := by rw [if_pos rfl] at H; exact H
    clear H
    have H := H1
    clear H1
    replace H := qH H
    obtain ⟨t271, A4, H⟩ := H
    try dsimp only at H
    obtain rfl := Option.some.inj H
    go_enter Try.func87, Try.ntmps87
    go_wp2_with (first | ((with_reducible refine gate_dst (N := 1) rfl ?_); refine bx (N := 1) (cs := #[.int .i64 a0_0, .int .i64 a0_1]) (t := 24) ?_; intro gb269 hg w5 hbox hb; have BK269 := Aside0.mk (hbox); have GW269 := Aside0.mk ((gE hg (qL HB) : w.heap.size ≤ gb269)); have GE269 := Aside0.mk ((gE hg (qL HB) : w.heap.size ≤ gb269)); replace HB := bS HB hb; clear hb hbox hg; obtain ⟨hcz6_0, hcz6_1⟩ := cz2 BK269.out; have hfz6_0 := blk_frozen BK269.out 0; have hfz6_1 := blk_frozen BK269.out 1) | ((with_reducible refine gate_callee (f := 76) rfl ?_); refine gl (some 5) Try.func76 #[.int .i64 a0_0, .int .i64 (-2560000), .int .i64 2560000] ?_; (with_reducible refine (spec_l1In.calls a0_0 (-2560000) 2560000 true _ A2.out).mono ?_); rintro e w' ⟨rfl, ⟨nd, rfl⟩⟩; refine ⟨_, rfl, ?_⟩) | (go_at_call 76; (with_reducible refine (spec_l1In.calls a0_1 (-2560000) 2560000 t271 _ A4.out).mono ?_); rintro e w' ⟨rfl, ⟨nd, rfl⟩⟩))
    go_ret
    exact ⟨qE, qL HB⟩
  replace c3 := Bool.eq_false_iff.mpr c3
  subst c3
  have H1 : (some false) = some r := by rw [if_neg (show ¬ (false = true) by decide)] at H; exact H
  clear H
  have H := H1
  clear H1
  obtain rfl := Option.some.inj H
  go_enter Try.func87, Try.ntmps87
  go_wp2_with (first | ((with_reducible refine gate_dst (N := 1) rfl ?_); refine bx (N := 1) (cs := #[.int .i64 a0_0, .int .i64 a0_1]) (t := 24) ?_; intro gb269 hg w7 hbox hb; have BK269 := Aside0.mk (hbox); have GW269 := Aside0.mk ((gE hg (qL HB) : w.heap.size ≤ gb269)); have GE269 := Aside0.mk ((gE hg (qL HB) : w.heap.size ≤ gb269)); replace HB := bS HB hb; clear hb hbox hg; obtain ⟨hcz8_0, hcz8_1⟩ := cz2 BK269.out; have hfz8_0 := blk_frozen BK269.out 0; have hfz8_1 := blk_frozen BK269.out 1) | ((with_reducible refine gate_callee (f := 76) rfl ?_); refine gl (some 5) Try.func76 #[.int .i64 a0_0, .int .i64 (-2560000), .int .i64 2560000] ?_; (with_reducible refine (spec_l1In.calls a0_0 (-2560000) 2560000 false _ A2.out).mono ?_); rintro e w' ⟨rfl, ⟨nd, rfl⟩⟩; refine ⟨_, rfl, ?_⟩))
  go_ret
  exact ⟨qE, qL HB⟩

/-! ### spec_l6Drive: function 93 -/
def spec_l6Drive.f (a0_0 : Int) (a0_1 : Int) : Option (Bool) := (spec_l1In.f a0_0 (-20000000) 20000000).bind fun t273 => (if t273 = true then ((spec_l1In.f a0_1 (-20000000) 20000000).bind fun t274 => (some t274)) else (some false))
set_option maxHeartbeats 8000000 in
set_option maxRecDepth 100000 in
theorem spec_l6Drive.calls (a0_0 : Int) (a0_1 : Int) (r : Bool) (w : World) (h : spec_l6Drive.f a0_0 a0_1 = some r) :
    Calls Try.prog 93 #[.agg #[.int .i64 a0_0, .int .i64 a0_1]] w fun e w' => e = .returned (.bool r) ∧ Below w.heap.size w w' := by
  have hu24 := Try.underlying24
  have HB := Aside0.mk (Below.refl w.heap.size w)
  have H : ((spec_l1In.f a0_0 (-20000000) 20000000).bind fun t273 => (if t273 = true then ((spec_l1In.f a0_1 (-20000000) 20000000).bind fun t274 => (some t274)) else (some false))) = some r := h
  clear h
  replace H := qH H
  obtain ⟨t273, A2, H⟩ := H
  try dsimp only at H
  by_cases c3 : t273 = true
  · subst c3
    have H1 : ((spec_l1In.f a0_1 (-20000000) 20000000).bind fun t274 => (some t274)) = some r := by rw [if_pos rfl] at H; exact H
    clear H
    have H := H1
    clear H1
    replace H := qH H
    obtain ⟨t274, A4, H⟩ := H
    try dsimp only at H
    obtain rfl := Option.some.inj H
    go_enter Try.func93, Try.ntmps93
    go_wp2_with (first | ((with_reducible refine gate_dst (N := 1) rfl ?_); refine bx (N := 1) (cs := #[.int .i64 a0_0, .int .i64 a0_1]) (t := 24) ?_; intro gb272 hg w5 hbox hb; have BK272 := Aside0.mk (hbox); have GW272 := Aside0.mk ((gE hg (qL HB) : w.heap.size ≤ gb272)); have GE272 := Aside0.mk ((gE hg (qL HB) : w.heap.size ≤ gb272)); replace HB := bS HB hb; clear hb hbox hg; obtain ⟨hcz6_0, hcz6_1⟩ := cz2 BK272.out; have hfz6_0 := blk_frozen BK272.out 0; have hfz6_1 := blk_frozen BK272.out 1) | ((with_reducible refine gate_callee (f := 76) rfl ?_); refine gl (some 5) Try.func76 #[.int .i64 a0_0, .int .i64 (-20000000), .int .i64 20000000] ?_; (with_reducible refine (spec_l1In.calls a0_0 (-20000000) 20000000 true _ A2.out).mono ?_); rintro e w' ⟨rfl, ⟨nd, rfl⟩⟩; refine ⟨_, rfl, ?_⟩) | (go_at_call 76; (with_reducible refine (spec_l1In.calls a0_1 (-20000000) 20000000 t274 _ A4.out).mono ?_); rintro e w' ⟨rfl, ⟨nd, rfl⟩⟩))
    go_ret
    exact ⟨qE, qL HB⟩
  replace c3 := Bool.eq_false_iff.mpr c3
  subst c3
  have H1 : (some false) = some r := by rw [if_neg (show ¬ (false = true) by decide)] at H; exact H
  clear H
  have H := H1
  clear H1
  obtain rfl := Option.some.inj H
  go_enter Try.func93, Try.ntmps93
  go_wp2_with (first | ((with_reducible refine gate_dst (N := 1) rfl ?_); refine bx (N := 1) (cs := #[.int .i64 a0_0, .int .i64 a0_1]) (t := 24) ?_; intro gb272 hg w7 hbox hb; have BK272 := Aside0.mk (hbox); have GW272 := Aside0.mk ((gE hg (qL HB) : w.heap.size ≤ gb272)); have GE272 := Aside0.mk ((gE hg (qL HB) : w.heap.size ≤ gb272)); replace HB := bS HB hb; clear hb hbox hg; obtain ⟨hcz8_0, hcz8_1⟩ := cz2 BK272.out; have hfz8_0 := blk_frozen BK272.out 0; have hfz8_1 := blk_frozen BK272.out 1) | ((with_reducible refine gate_callee (f := 76) rfl ?_); refine gl (some 5) Try.func76 #[.int .i64 a0_0, .int .i64 (-20000000), .int .i64 20000000] ?_; (with_reducible refine (spec_l1In.calls a0_0 (-20000000) 20000000 false _ A2.out).mono ?_); rintro e w' ⟨rfl, ⟨nd, rfl⟩⟩; refine ⟨_, rfl, ?_⟩))
  go_ret
  exact ⟨qE, qL HB⟩

/-! ### spec_l6Speed: function 66 -/
def spec_l6Speed.f (a0_0 : Int) (a0_1 : Int) (a0_2 : Int) (a0_3 : Int) (a0_4 : Int) (a0_5 : Int) (a0_6 : Int) (a0_7 : Int) (a0_8 : Int) (a0_9 : Int) (a0_10 : Int) (a0_11 : Int) : Option (Int × Int) := if a0_8 = 0 then (some (0, 0)) else (some (wrap64 (Int.tdiv a0_6 a0_8), wrap64 (Int.tdiv a0_7 a0_8)))
def spec_l6Speed.T3 : Bool × List (List Nat × List Nat) := (true, [([], []), ([0], [0]), ([1], [1]), ([], []), ([3], [3]), ([2, 4], [2, 4]), ([], []), ([6], [6]), ([7], [7]), ([], []), ([9], [9]), ([8, 10], [8, 10]), ([5, 11], [5, 11]), ([12, 0, 1, 2, 3, 4, 5, 6, 7, 8, 9, 10, 11, 12], [12])])
def spec_l6Speed.B3 : List Nat := [0, 1, 3, 0, 8, 31, 0, 64, 192, 0, 512, 1984, 4095, 8191]
theorem spec_l6Speed.tab3 : rtab .any (opsOf Try.f66 3) = spec_l6Speed.T3 := by kernel_rfl
theorem spec_l6Speed.bits3 : waitsOk spec_l6Speed.T3.2 spec_l6Speed.B3 = true := by kernel_rfl
set_option maxHeartbeats 8000000 in
set_option maxRecDepth 100000 in
theorem spec_l6Speed.calls (a0_0 : Int) (a0_1 : Int) (a0_2 : Int) (a0_3 : Int) (a0_4 : Int) (a0_5 : Int) (a0_6 : Int) (a0_7 : Int) (a0_8 : Int) (a0_9 : Int) (a0_10 : Int) (a0_11 : Int) (r1 : Int) (r2 : Int) (w : World) (h : spec_l6Speed.f a0_0 a0_1 a0_2 a0_3 a0_4 a0_5 a0_6 a0_7 a0_8 a0_9 a0_10 a0_11 = some (r1, r2)) :
    Calls Try.prog 66 #[.agg #[.int .i64 a0_0, .int .i64 a0_1, .int .i64 a0_2, .int .i64 a0_3, .int .i64 a0_4, .int .i64 a0_5, .int .i64 a0_6, .int .i64 a0_7, .int .i64 a0_8, .int .i64 a0_9, .int .i64 a0_10, .int .i64 a0_11]] w fun e w' => e = .returned (.agg #[.int .i64 r1, .int .i64 r2]) ∧ Below w.heap.size w w' := by
  have hu41 := Try.underlying41
  have hu24 := Try.underlying24
  have HB := Aside0.mk (Below.refl w.heap.size w)
  have H : (if a0_8 = 0 then (some (0, 0)) else (some (wrap64 (Int.tdiv a0_6 a0_8), wrap64 (Int.tdiv a0_7 a0_8)))) = some (r1, r2) := h
  clear h
  by_cases c2 : a0_8 = 0
  · rw [if_pos c2] at H
    have c2b0 : (a0_8 == 0) = true := beq_iff_eq.mpr c2
    have c2b1 : (a0_8 != 0) = false := bne_eq_false_iff_eq.mpr c2
    clear c2
    simp only [Option.some.injEq, Prod.mk.injEq] at H
    obtain ⟨rfl, rfl⟩ := H
    go_enter Try.func66, Try.ntmps66
    go_wp2_with (first | ((with_reducible refine gate_dst (N := 1) rfl ?_); refine bx (N := 1) (cs := #[.int .i64 a0_0, .int .i64 a0_1, .int .i64 a0_2, .int .i64 a0_3, .int .i64 a0_4, .int .i64 a0_5, .int .i64 a0_6, .int .i64 a0_7, .int .i64 a0_8, .int .i64 a0_9, .int .i64 a0_10, .int .i64 a0_11]) (t := 41) ?_; intro gb284 hg w3 hbox hb; have BK284 := Aside0.mk (hbox); have GW284 := Aside0.mk ((gE hg (qL HB) : w.heap.size ≤ gb284)); have GE284 := Aside0.mk ((gE hg (qL HB) : w.heap.size ≤ gb284)); replace HB := bS HB hb; clear hb hbox hg) | ((with_reducible refine gate_dst (N := 2) rfl ?_); refine bx (N := 2) (cs := #[.int .i64 0, .int .i64 0]) (t := 24) ?_; intro gb285 hg w4 hbox hb; have BK285 := Aside0.mk (hbox); have GW285 := Aside0.mk ((gE hg (qL HB) : w.heap.size ≤ gb285)); have GE285 := Aside0.mk ((gE hg (qL HB) : w.heap.size ≤ gb285)); have NB284_285 := nLB BK284 hg; have NB285_284 := nGB BK284 hg; replace BK284 := kBB BK284 hb; replace HB := bS HB hb; clear hb hbox hg; have hnb5 := NB284_285.out; have hnc5 := NB285_284.out; obtain ⟨hcz6_0, hcz6_1, hcz6_2, hcz6_3, hcz6_4, hcz6_5, hcz6_6, hcz6_7, hcz6_8, hcz6_9, hcz6_10, hcz6_11⟩ := cz12 BK284.out; obtain ⟨hfz6_0, hfz6_1, hfz6_2, hfz6_3, hfz6_4, hfz6_5, hfz6_6, hfz6_7, hfz6_8, hfz6_9, hfz6_10, hfz6_11⟩ := fz12 BK284.out; obtain ⟨hcz7_0, hcz7_1⟩ := cz2 BK285.out; have hfz7_0 := blk_frozen BK285.out 0; have hfz7_1 := blk_frozen BK285.out 1))
    refine bodyPost_ret (results_cell_row rfl _ _ gb285 24 #[.int .i64 0, .int .i64 0] (0, 0) _ rfl (qP BK285) Try.underlying24 rfl (by kernel_rfl)) rfl ?_
    exact ⟨qE, qL HB⟩
  rw [if_neg c2] at H
  have c2b0 : (a0_8 == 0) = false := beq_eq_false_iff_ne.mpr c2
  have c2b1 : (a0_8 != 0) = true := bne_iff_ne.mpr c2
  simp only [Option.some.injEq, Prod.mk.injEq] at H
  obtain ⟨rfl, rfl⟩ := H
  go_enter Try.func66, Try.ntmps66
  try go_wp2_with (first | ((with_reducible refine gate_dst (N := 1) rfl ?_); refine bx (N := 1) (cs := #[.int .i64 a0_0, .int .i64 a0_1, .int .i64 a0_2, .int .i64 a0_3, .int .i64 a0_4, .int .i64 a0_5, .int .i64 a0_6, .int .i64 a0_7, .int .i64 a0_8, .int .i64 a0_9, .int .i64 a0_10, .int .i64 a0_11]) (t := 41) ?_; intro gb284 hg w8 hbox hb; have BK284 := Aside0.mk (hbox); have GW284 := Aside0.mk ((gE hg (qL HB) : w.heap.size ≤ gb284)); have GE284 := Aside0.mk ((gE hg (qL HB) : w.heap.size ≤ gb284)); replace HB := bS HB hb; clear hb hbox hg) | ((with_reducible refine gate_dst (N := 2) rfl ?_); refine bx (N := 2) (cs := #[.int .i64 0, .int .i64 0]) (t := 24) ?_; intro gb285 hg w9 hbox hb; have BK285 := Aside0.mk (hbox); have GW285 := Aside0.mk ((gE hg (qL HB) : w.heap.size ≤ gb285)); have GE285 := Aside0.mk ((gE hg (qL HB) : w.heap.size ≤ gb285)); have NB284_285 := nLB BK284 hg; have NB285_284 := nGB BK284 hg; replace BK284 := kBB BK284 hb; replace HB := bS HB hb; clear hb hbox hg; have hnb10 := NB284_285.out; have hnc10 := NB285_284.out; obtain ⟨hcz11_0, hcz11_1, hcz11_2, hcz11_3, hcz11_4, hcz11_5, hcz11_6, hcz11_7, hcz11_8, hcz11_9, hcz11_10, hcz11_11⟩ := cz12 BK284.out; obtain ⟨hfz11_0, hfz11_1, hfz11_2, hfz11_3, hfz11_4, hfz11_5, hfz11_6, hfz11_7, hfz11_8, hfz11_9, hfz11_10, hfz11_11⟩ := fz12 BK284.out))
  replace BK284 := Aside0.mk (blk_drew BK284.out)
  replace BK285 := Aside0.mk (blk_drew BK285.out)
  replace HB := Aside0.mk (below_drew1 HB.out)
  refine start_ (n := 14) (S := fun w' => w'.cell? ⟨gb284, 0, none⟩ = some (.int .i64 a0_0) ∧ w'.cell? ⟨gb284, 1, none⟩ = some (.int .i64 a0_1) ∧ w'.cell? ⟨gb284, 2, none⟩ = some (.int .i64 a0_2) ∧ w'.cell? ⟨gb284, 3, none⟩ = some (.int .i64 a0_3) ∧ w'.cell? ⟨gb284, 4, none⟩ = some (.int .i64 a0_4) ∧ w'.cell? ⟨gb284, 5, none⟩ = some (.int .i64 a0_5) ∧ w'.cell? ⟨gb284, 6, none⟩ = some (.int .i64 a0_6) ∧ w'.cell? ⟨gb284, 7, none⟩ = some (.int .i64 a0_7) ∧ w'.cell? ⟨gb284, 8, none⟩ = some (.int .i64 a0_8) ∧ w'.cell? ⟨gb284, 9, none⟩ = some (.int .i64 a0_9) ∧ w'.cell? ⟨gb284, 10, none⟩ = some (.int .i64 a0_10) ∧ w'.cell? ⟨gb284, 11, none⟩ = some (.int .i64 a0_11)) (ds := []) #[false, false, false, false, false, false, false, false, false, false, false, false, false, false] (by kernel_rfl) rfl rfl ⟨bc BK284 0, bc BK284 1, bc BK284 2, bc BK284 3, bc BK284 4, bc BK284 5, bc BK284 6, bc BK284 7, bc BK284 8, bc BK284 9, bc BK284 10, bc BK284 11⟩ (fun hHeld => ?_); refine with_tabW spec_l6Speed.tab3 spec_l6Speed.bits3 (fun HT_ HW_ => ?_)
  generalize w9.drew = w12 at BK284 BK285 HB hHeld ⊢
  refine pu 0 (some 7) #[true, false, false, false, false, false, false, false, false, false, false, false, false, false] HT_ ?_
  refine pu 1 (some 8) #[true, true, false, false, false, false, false, false, false, false, false, false, false, false] HT_ ?_
  refine pu 3 (some 10) #[true, true, false, true, false, false, false, false, false, false, false, false, false, false] HT_ ?_
  refine pu 6 (some 13) #[true, true, false, true, false, false, true, false, false, false, false, false, false, false] HT_ ?_
  refine pu 7 (some 14) #[true, true, false, true, false, false, true, true, false, false, false, false, false, false] HT_ ?_
  refine pu 9 (some 16) #[true, true, false, true, false, false, true, true, false, true, false, false, false, false] HT_ ?_
  refine tk12 2 (some 9) #[true, true, true, true, false, false, true, true, false, true, false, false, false, false] HT_ HW_ hHeld ?_
  refine tk12 4 (some 11) #[true, true, true, true, true, false, true, true, false, true, false, false, false, false] HT_ HW_ hHeld ?_
  refine pu 5 (some 12) #[true, true, true, true, true, true, true, true, false, true, false, false, false, false] HT_ ?_
  refine tk12 8 (some 15) #[true, true, true, true, true, true, true, true, true, true, false, false, false, false] HT_ HW_ hHeld ?_
  refine tk12 10 (some 17) #[true, true, true, true, true, true, true, true, true, true, true, false, false, false] HT_ HW_ hHeld ?_
  refine pu 11 (some 18) #[true, true, true, true, true, true, true, true, true, true, true, true, false, false] HT_ ?_
  refine pu 12 (some 19) #[true, true, true, true, true, true, true, true, true, true, true, true, true, false] HT_ ?_
  refine on 13 (none) #[true, true, true, true, true, true, true, true, true, true, true, true, true, true] HT_ (fun K hK => ?_)
  have hs13 : w12.cell? ⟨gb285, 0, none⟩ = some (.int .i64 0) := bc BK285 0
  have hfs13 := blk_frozen BK285.out 0
  have hns13_0 := NB284_285.out
  have hms13_0 := NB285_284.out
  have hs14 : w12.cell? ⟨gb285, 1, none⟩ = some (.int .i64 0) := bc BK285 1
  have hfs14 := blk_frozen BK285.out 1
  have hns14_0 := NB284_285.out
  have hms14_0 := NB285_284.out
  refine skip_ (w1 := ?_) (by rfl) rfl ?_ ?_
  rotate_left
  · go_simp
    rfl
  refine hK.out _ _ ⟨(cf NB284_285 ((cf NB284_285 (hHeld.1)))), (cf NB284_285 ((cf NB284_285 (hHeld.2.1)))), (cf NB284_285 ((cf NB284_285 (hHeld.2.2.1)))), (cf NB284_285 ((cf NB284_285 (hHeld.2.2.2.1)))), (cf NB284_285 ((cf NB284_285 (hHeld.2.2.2.2.1)))), (cf NB284_285 ((cf NB284_285 (hHeld.2.2.2.2.2.1)))), (cf NB284_285 ((cf NB284_285 (hHeld.2.2.2.2.2.2.1)))), (cf NB284_285 ((cf NB284_285 (hHeld.2.2.2.2.2.2.2.1)))), (cf NB284_285 ((cf NB284_285 (hHeld.2.2.2.2.2.2.2.2.1)))), (cf NB284_285 ((cf NB284_285 (hHeld.2.2.2.2.2.2.2.2.2.1)))), (cf NB284_285 ((cf NB284_285 (hHeld.2.2.2.2.2.2.2.2.2.2.1)))), (cf NB284_285 ((cf NB284_285 (hHeld.2.2.2.2.2.2.2.2.2.2.2))))⟩ (fun hHeld => ?_)
  clear hK K
  refine done_ (done_of HT_.out (by kernel_rfl)) ?_
  try go_wp2
  refine bodyPost_ret (results_cell_row rfl _ _ gb285 24 #[.int .i64 (wrap64 (Int.tdiv a0_6 a0_8)), .int .i64 (wrap64 (Int.tdiv a0_7 a0_8))] (0, 0) _ rfl (qP BK285) Try.underlying24 rfl (by kernel_rfl)) rfl ?_
  exact ⟨qE, qL HB⟩

/-! ### impl_ShapeOk: function 37 -/
def impl_ShapeOk.f (a0_0 : Int) (a0_1 : Int) (a0_2 : Int) : Option (Bool) := if a0_0 = 1 then ((impl_in.f a0_1 1 25600).bind fun t292 => (if t292 = true then (some (a0_2 == 0)) else (some false))) else (if a0_0 = 2 then ((impl_in.f a0_1 1 25600).bind fun t293 => (if t293 = true then ((impl_in.f a0_2 1 25600).bind fun t294 => (some t294)) else (some false))) else (some false))
set_option maxHeartbeats 8000000 in
set_option maxRecDepth 100000 in
theorem impl_ShapeOk.calls (a0_0 : Int) (a0_1 : Int) (a0_2 : Int) (r : Bool) (w : World) (h : impl_ShapeOk.f a0_0 a0_1 a0_2 = some r) :
    Calls Try.prog 37 #[.agg #[.int .i64 a0_0, .int .i64 a0_1, .int .i64 a0_2]] w fun e w' => e = .returned (.bool r) ∧ Below w.heap.size w w' := by
  have hu39 := Try.underlying39
  have HB := Aside0.mk (Below.refl w.heap.size w)
  have H : (if a0_0 = 1 then ((impl_in.f a0_1 1 25600).bind fun t292 => (if t292 = true then (some (a0_2 == 0)) else (some false))) else (if a0_0 = 2 then ((impl_in.f a0_1 1 25600).bind fun t293 => (if t293 = true then ((impl_in.f a0_2 1 25600).bind fun t294 => (some t294)) else (some false))) else (some false))) = some r := h
  clear h
  by_cases c2 : a0_0 = 1
  · rw [if_pos c2] at H
    have c2b0 : (a0_0 == 1) = true := beq_iff_eq.mpr c2
    have c2b1 : (a0_0 != 1) = false := bne_eq_false_iff_eq.mpr c2
    clear c2
    replace H := qH H
    obtain ⟨t292, A3, H⟩ := H
    try dsimp only at H
    by_cases c4 : t292 = true
    · subst c4
      have H1 : (some (a0_2 == 0)) = some r := by rw [if_pos rfl] at H; exact H
      clear H
      have H := H1
      clear H1
      obtain rfl := Option.some.inj H
      go_enter Try.func37, Try.ntmps37
      go_wp2_with (first | ((with_reducible refine gate_dst (N := 1) rfl ?_); refine bx (N := 1) (cs := #[.int .i64 a0_0, .int .i64 a0_1, .int .i64 a0_2]) (t := 39) ?_; intro gb291 hg w5 hbox hb; have BK291 := Aside0.mk (hbox); have GW291 := Aside0.mk ((gE hg (qL HB) : w.heap.size ≤ gb291)); have GE291 := Aside0.mk ((gE hg (qL HB) : w.heap.size ≤ gb291)); replace HB := bS HB hb; clear hb hbox hg; obtain ⟨hcz6_0, hcz6_1, hcz6_2⟩ := cz3 BK291.out; obtain ⟨hfz6_0, hfz6_1, hfz6_2⟩ := fz3 BK291.out) | ((with_reducible refine gate_callee (f := 89) rfl ?_); refine gl (some 9) Try.func89 #[.int .i64 a0_1, .int .i64 1, .int .i64 25600] ?_; (with_reducible refine (impl_in.calls a0_1 1 25600 true _ A3.out).mono ?_); rintro e w' ⟨rfl, ⟨nd, rfl⟩⟩; refine ⟨_, rfl, ?_⟩))
      go_ret
      exact ⟨qE, qL HB⟩
    replace c4 := Bool.eq_false_iff.mpr c4
    subst c4
    have H1 : (some false) = some r := by rw [if_neg (show ¬ (false = true) by decide)] at H; exact H
    clear H
    have H := H1
    clear H1
    obtain rfl := Option.some.inj H
    go_enter Try.func37, Try.ntmps37
    go_wp2_with (first | ((with_reducible refine gate_dst (N := 1) rfl ?_); refine bx (N := 1) (cs := #[.int .i64 a0_0, .int .i64 a0_1, .int .i64 a0_2]) (t := 39) ?_; intro gb291 hg w7 hbox hb; have BK291 := Aside0.mk (hbox); have GW291 := Aside0.mk ((gE hg (qL HB) : w.heap.size ≤ gb291)); have GE291 := Aside0.mk ((gE hg (qL HB) : w.heap.size ≤ gb291)); replace HB := bS HB hb; clear hb hbox hg; obtain ⟨hcz8_0, hcz8_1, hcz8_2⟩ := cz3 BK291.out; obtain ⟨hfz8_0, hfz8_1, hfz8_2⟩ := fz3 BK291.out) | ((with_reducible refine gate_callee (f := 89) rfl ?_); refine gl (some 9) Try.func89 #[.int .i64 a0_1, .int .i64 1, .int .i64 25600] ?_; (with_reducible refine (impl_in.calls a0_1 1 25600 false _ A3.out).mono ?_); rintro e w' ⟨rfl, ⟨nd, rfl⟩⟩; refine ⟨_, rfl, ?_⟩))
    go_ret
    exact ⟨qE, qL HB⟩
  rw [if_neg c2] at H
  have c2b0 : (a0_0 == 1) = false := beq_eq_false_iff_ne.mpr c2
  have c2b1 : (a0_0 != 1) = true := bne_iff_ne.mpr c2
  by_cases c9 : a0_0 = 2
  · rw [if_pos c9] at H
    have c9b0 : (a0_0 == 2) = true := beq_iff_eq.mpr c9
    have c9b1 : (a0_0 != 2) = false := bne_eq_false_iff_eq.mpr c9
    clear c9
    replace H := qH H
    obtain ⟨t293, A10, H⟩ := H
    try dsimp only at H
    by_cases c11 : t293 = true
    · subst c11
      have H1 : ((impl_in.f a0_2 1 25600).bind fun t294 => (some t294)) = some r := by rw [if_pos rfl] at H; exact H
      clear H
      have H := H1
      clear H1
      replace H := qH H
      obtain ⟨t294, A12, H⟩ := H
      try dsimp only at H
      obtain rfl := Option.some.inj H
      go_enter Try.func37, Try.ntmps37
      go_wp2_with (first | ((with_reducible refine gate_dst (N := 1) rfl ?_); refine bx (N := 1) (cs := #[.int .i64 a0_0, .int .i64 a0_1, .int .i64 a0_2]) (t := 39) ?_; intro gb291 hg w13 hbox hb; have BK291 := Aside0.mk (hbox); have GW291 := Aside0.mk ((gE hg (qL HB) : w.heap.size ≤ gb291)); have GE291 := Aside0.mk ((gE hg (qL HB) : w.heap.size ≤ gb291)); replace HB := bS HB hb; clear hb hbox hg; obtain ⟨hcz14_0, hcz14_1, hcz14_2⟩ := cz3 BK291.out; obtain ⟨hfz14_0, hfz14_1, hfz14_2⟩ := fz3 BK291.out) | ((with_reducible refine gate_callee (f := 89) rfl ?_); refine gl (some 19) Try.func89 #[.int .i64 a0_1, .int .i64 1, .int .i64 25600] ?_; (with_reducible refine (impl_in.calls a0_1 1 25600 true _ A10.out).mono ?_); rintro e w' ⟨rfl, ⟨nd, rfl⟩⟩; refine ⟨_, rfl, ?_⟩) | (go_at_call 89; (with_reducible refine (impl_in.calls a0_2 1 25600 t294 _ A12.out).mono ?_); rintro e w' ⟨rfl, ⟨nd, rfl⟩⟩))
      go_ret
      exact ⟨qE, qL HB⟩
    replace c11 := Bool.eq_false_iff.mpr c11
    subst c11
    have H1 : (some false) = some r := by rw [if_neg (show ¬ (false = true) by decide)] at H; exact H
    clear H
    have H := H1
    clear H1
    obtain rfl := Option.some.inj H
    go_enter Try.func37, Try.ntmps37
    go_wp2_with (first | ((with_reducible refine gate_dst (N := 1) rfl ?_); refine bx (N := 1) (cs := #[.int .i64 a0_0, .int .i64 a0_1, .int .i64 a0_2]) (t := 39) ?_; intro gb291 hg w15 hbox hb; have BK291 := Aside0.mk (hbox); have GW291 := Aside0.mk ((gE hg (qL HB) : w.heap.size ≤ gb291)); have GE291 := Aside0.mk ((gE hg (qL HB) : w.heap.size ≤ gb291)); replace HB := bS HB hb; clear hb hbox hg; obtain ⟨hcz16_0, hcz16_1, hcz16_2⟩ := cz3 BK291.out; obtain ⟨hfz16_0, hfz16_1, hfz16_2⟩ := fz3 BK291.out) | ((with_reducible refine gate_callee (f := 89) rfl ?_); refine gl (some 19) Try.func89 #[.int .i64 a0_1, .int .i64 1, .int .i64 25600] ?_; (with_reducible refine (impl_in.calls a0_1 1 25600 false _ A10.out).mono ?_); rintro e w' ⟨rfl, ⟨nd, rfl⟩⟩; refine ⟨_, rfl, ?_⟩))
    go_ret
    exact ⟨qE, qL HB⟩
  rw [if_neg c9] at H
  have c9b0 : (a0_0 == 2) = false := beq_eq_false_iff_ne.mpr c9
  have c9b1 : (a0_0 != 2) = true := bne_iff_ne.mpr c9
  obtain rfl := Option.some.inj H
  go_enter Try.func37, Try.ntmps37
  go_wp2_with (first | ((with_reducible refine gate_dst (N := 1) rfl ?_); refine bx (N := 1) (cs := #[.int .i64 a0_0, .int .i64 a0_1, .int .i64 a0_2]) (t := 39) ?_; intro gb291 hg w17 hbox hb; have BK291 := Aside0.mk (hbox); have GW291 := Aside0.mk ((gE hg (qL HB) : w.heap.size ≤ gb291)); have GE291 := Aside0.mk ((gE hg (qL HB) : w.heap.size ≤ gb291)); replace HB := bS HB hb; clear hb hbox hg; obtain ⟨hcz18_0, hcz18_1, hcz18_2⟩ := cz3 BK291.out; obtain ⟨hfz18_0, hfz18_1, hfz18_2⟩ := fz3 BK291.out))
  go_ret
  exact ⟨qE, qL HB⟩

/-! ### impl_isPlace: function 85 -/
def impl_isPlace.f (a0_0 : Int) (a0_1 : Int) : Option (Bool) := (impl_in.f a0_0 (-2560000) 2560000).bind fun t296 => (if t296 = true then ((impl_in.f a0_1 (-2560000) 2560000).bind fun t297 => (some t297)) else (some false))
set_option maxHeartbeats 8000000 in
set_option maxRecDepth 100000 in
theorem impl_isPlace.calls (a0_0 : Int) (a0_1 : Int) (r : Bool) (w : World) (h : impl_isPlace.f a0_0 a0_1 = some r) :
    Calls Try.prog 85 #[.agg #[.int .i64 a0_0, .int .i64 a0_1]] w fun e w' => e = .returned (.bool r) ∧ Below w.heap.size w w' := by
  have hu24 := Try.underlying24
  have HB := Aside0.mk (Below.refl w.heap.size w)
  have H : ((impl_in.f a0_0 (-2560000) 2560000).bind fun t296 => (if t296 = true then ((impl_in.f a0_1 (-2560000) 2560000).bind fun t297 => (some t297)) else (some false))) = some r := h
  clear h
  replace H := qH H
  obtain ⟨t296, A2, H⟩ := H
  try dsimp only at H
  by_cases c3 : t296 = true
  · subst c3
    have H1 : ((impl_in.f a0_1 (-2560000) 2560000).bind fun t297 => (some t297)) = some r := by rw [if_pos rfl] at H; exact H
    clear H
    have H := H1
    clear H1
    replace H := qH H
    obtain ⟨t297, A4, H⟩ := H
    try dsimp only at H
    obtain rfl := Option.some.inj H
    go_enter Try.func85, Try.ntmps85
    go_wp2_with (first | ((with_reducible refine gate_dst (N := 1) rfl ?_); refine bx (N := 1) (cs := #[.int .i64 a0_0, .int .i64 a0_1]) (t := 24) ?_; intro gb295 hg w5 hbox hb; have BK295 := Aside0.mk (hbox); have GW295 := Aside0.mk ((gE hg (qL HB) : w.heap.size ≤ gb295)); have GE295 := Aside0.mk ((gE hg (qL HB) : w.heap.size ≤ gb295)); replace HB := bS HB hb; clear hb hbox hg; obtain ⟨hcz6_0, hcz6_1⟩ := cz2 BK295.out; have hfz6_0 := blk_frozen BK295.out 0; have hfz6_1 := blk_frozen BK295.out 1) | ((with_reducible refine gate_callee (f := 89) rfl ?_); refine gl (some 5) Try.func89 #[.int .i64 a0_0, .int .i64 (-2560000), .int .i64 2560000] ?_; (with_reducible refine (impl_in.calls a0_0 (-2560000) 2560000 true _ A2.out).mono ?_); rintro e w' ⟨rfl, ⟨nd, rfl⟩⟩; refine ⟨_, rfl, ?_⟩) | (go_at_call 89; (with_reducible refine (impl_in.calls a0_1 (-2560000) 2560000 t297 _ A4.out).mono ?_); rintro e w' ⟨rfl, ⟨nd, rfl⟩⟩))
    go_ret
    exact ⟨qE, qL HB⟩
  replace c3 := Bool.eq_false_iff.mpr c3
  subst c3
  have H1 : (some false) = some r := by rw [if_neg (show ¬ (false = true) by decide)] at H; exact H
  clear H
  have H := H1
  clear H1
  obtain rfl := Option.some.inj H
  go_enter Try.func85, Try.ntmps85
  go_wp2_with (first | ((with_reducible refine gate_dst (N := 1) rfl ?_); refine bx (N := 1) (cs := #[.int .i64 a0_0, .int .i64 a0_1]) (t := 24) ?_; intro gb295 hg w7 hbox hb; have BK295 := Aside0.mk (hbox); have GW295 := Aside0.mk ((gE hg (qL HB) : w.heap.size ≤ gb295)); have GE295 := Aside0.mk ((gE hg (qL HB) : w.heap.size ≤ gb295)); replace HB := bS HB hb; clear hb hbox hg; obtain ⟨hcz8_0, hcz8_1⟩ := cz2 BK295.out; have hfz8_0 := blk_frozen BK295.out 0; have hfz8_1 := blk_frozen BK295.out 1) | ((with_reducible refine gate_callee (f := 89) rfl ?_); refine gl (some 5) Try.func89 #[.int .i64 a0_0, .int .i64 (-2560000), .int .i64 2560000] ?_; (with_reducible refine (impl_in.calls a0_0 (-2560000) 2560000 false _ A2.out).mono ?_); rintro e w' ⟨rfl, ⟨nd, rfl⟩⟩; refine ⟨_, rfl, ?_⟩))
  go_ret
  exact ⟨qE, qL HB⟩

/-! ### impl_within: function 108 -/
def impl_within.f (a0 : Int) (a1 : Int) : Option (Int) := some (mx (wrap64 (-a1)) (mn a0 a1))
set_option maxHeartbeats 8000000 in
set_option maxRecDepth 100000 in
theorem impl_within.calls (a0 : Int) (a1 : Int) (r : Int) (w : World) (h : impl_within.f a0 a1 = some r) :
    Calls Try.prog 108 #[.int .i64 a0, .int .i64 a1] w fun e w' => e = .returned (.int .i64 r) ∧ Below w.heap.size w w' := by
  have HB := Aside0.mk (Below.refl w.heap.size w)
  have H : (some (mx (wrap64 (-a1)) (mn a0 a1))) = some r := h
  clear h
  obtain ⟨ji3, hji3⟩ : ∃ j_ : Int, (mn a0 a1) = j_ := ⟨_, rfl⟩
  replace H : (some (mx (wrap64 (-a1)) (ji3))) = some r := by first | (rw [hji3] at H; exact H) | (simp only [hji3] at H ⊢; exact H)
  have hji3_ : (if a1 < a0 then a1 else a0) = ji3 := hji3
  obtain ⟨ji4, hji4⟩ : ∃ j_ : Int, (mx (wrap64 (-a1)) (ji3)) = j_ := ⟨_, rfl⟩
  replace H : (some ji4) = some r := by first | (rw [hji4] at H; exact H) | (simp only [hji4] at H ⊢; exact H)
  have hji4_ : (if (wrap64 (-a1)) < (ji3) then (ji3) else (wrap64 (-a1))) = ji4 := hji4
  obtain rfl := Option.some.inj H
  go_enter Try.func108, Try.ntmps108
  go_wp2
  go_ret
  exact ⟨by first | rfl | (simp [errW_none, errW_some] <;> rfl) | (simp only [← hji3, ← hji4]; first | rfl | (simp [errW_none, errW_some] <;> rfl)) | (simp [*, errW_none, errW_some] <;> rfl), qL HB⟩

/-! ### impl_Vec_clamped: function 77 -/
def impl_Vec_clamped.f (a0_0 : Int) (a0_1 : Int) (a1 : Int) : Option (Int × Int) := (impl_within.f a0_0 a1).bind fun t300 => ((impl_within.f a0_1 a1).bind fun t301 => (some (t300, t301)))
def impl_Vec_clamped.T1 : Bool × List (List Nat × List Nat) := (true, [([], []), ([0], [0]), ([], []), ([1, 2], [1, 2]), ([], []), ([4], [4]), ([], []), ([5, 6, 3], [5, 6]), ([3, 7], [3, 7]), ([8, 7, 0, 1, 2, 3, 4, 5, 6, 7, 8], [8])])
def impl_Vec_clamped.B1 : List Nat := [0, 1, 0, 7, 0, 16, 0, 127, 255, 511]
theorem impl_Vec_clamped.tab1 : rtab .any (opsOf Try.f77 1) = impl_Vec_clamped.T1 := by kernel_rfl
theorem impl_Vec_clamped.bits1 : waitsOk impl_Vec_clamped.T1.2 impl_Vec_clamped.B1 = true := by kernel_rfl
set_option maxHeartbeats 8000000 in
set_option maxRecDepth 100000 in
theorem impl_Vec_clamped.calls (a0_0 : Int) (a0_1 : Int) (a1 : Int) (r1 : Int) (r2 : Int) (w : World) (h : impl_Vec_clamped.f a0_0 a0_1 a1 = some (r1, r2)) :
    Calls Try.prog 77 #[.agg #[.int .i64 a0_0, .int .i64 a0_1], .int .i64 a1] w fun e w' => e = .returned (.agg #[.int .i64 r1, .int .i64 r2]) ∧ Below w.heap.size w w' := by
  have hu24 := Try.underlying24
  have HB := Aside0.mk (Below.refl w.heap.size w)
  have H : ((impl_within.f a0_0 a1).bind fun t300 => ((impl_within.f a0_1 a1).bind fun t301 => (some (t300, t301)))) = some (r1, r2) := h
  clear h
  replace H := qH H
  obtain ⟨t300, A3, H⟩ := H
  try dsimp only at H
  replace H := qH H
  obtain ⟨t301, A4, H⟩ := H
  try dsimp only at H
  simp only [Option.some.injEq, Prod.mk.injEq] at H
  obtain ⟨rfl, rfl⟩ := H
  go_enter Try.func77, Try.ntmps77
  try go_wp2_with (first | ((with_reducible refine gate_dst (N := 2) rfl ?_); refine bx (N := 2) (cs := #[.int .i64 a0_0, .int .i64 a0_1]) (t := 24) ?_; intro gb298 hg w5 hbox hb; have BK298 := Aside0.mk (hbox); have GW298 := Aside0.mk ((gE hg (qL HB) : w.heap.size ≤ gb298)); have GE298 := Aside0.mk ((gE hg (qL HB) : w.heap.size ≤ gb298)); replace HB := bS HB hb; clear hb hbox hg) | ((with_reducible refine gate_dst (N := 4) rfl ?_); refine bx (N := 4) (cs := #[.int .i64 0, .int .i64 0]) (t := 24) ?_; intro gb299 hg w6 hbox hb; have BK299 := Aside0.mk (hbox); have GW299 := Aside0.mk ((gE hg (qL HB) : w.heap.size ≤ gb299)); have GE299 := Aside0.mk ((gE hg (qL HB) : w.heap.size ≤ gb299)); have NB298_299 := nLB BK298 hg; have NB299_298 := nGB BK298 hg; replace BK298 := kBB BK298 hb; replace HB := bS HB hb; clear hb hbox hg))
  replace BK298 := Aside0.mk (blk_drew BK298.out)
  replace BK299 := Aside0.mk (blk_drew BK299.out)
  replace HB := Aside0.mk (below_drew1 HB.out)
  refine start_ (n := 10) (S := fun w' => w'.cell? ⟨gb298, 0, none⟩ = some (.int .i64 a0_0) ∧ w'.cell? ⟨gb298, 1, none⟩ = some (.int .i64 a0_1)) (ds := []) #[false, false, false, false, false, false, false, false, false, false] (by kernel_rfl) rfl rfl ⟨bc BK298 0, bc BK298 1⟩ (fun hHeld => ?_); refine with_tabW impl_Vec_clamped.tab1 impl_Vec_clamped.bits1 (fun HT_ HW_ => ?_)
  generalize w6.drew = w7 at BK298 BK299 HB hHeld ⊢
  refine pu 0 (some 5) #[true, false, false, false, false, false, false, false, false, false] HT_ ?_
  refine pu 2 (some 7) #[true, false, true, false, false, false, false, false, false, false] HT_ ?_
  refine pu 4 (some 9) #[true, false, true, false, true, false, false, false, false, false] HT_ ?_
  refine pu 6 (some 11) #[true, false, true, false, true, false, true, false, false, false] HT_ ?_
  refine tk2 1 (some 6) #[true, true, true, false, true, false, true, false, false, false] HT_ HW_ hHeld ?_
  refine tk2 5 (some 10) #[true, true, true, false, true, true, true, false, false, false] HT_ HW_ hHeld ?_
  refine on 3 (some 8) #[true, true, true, true, true, true, true, false, false, false] HT_ (fun K hK => ?_)
  refine go1 Try.func108 #[.int .i64 a0_0, .int .i64 a1] ?_
  with_reducible refine (impl_within.calls a0_0 a1 t300 _ A3.out).mono ?_
  rintro e w8 ⟨rfl, hb⟩
  refine ⟨_, rfl, ?_⟩
  replace BK298 := kBB BK298 hb
  replace BK299 := kBB BK299 hb
  replace HB := bS HB hb
  clear hb
  refine hK.out _ _ ⟨bc BK298 0, bc BK298 1⟩ (fun hHeld => ?_)
  clear hK K
  refine nm (some 8) ?_
  refine on 7 (some 12) #[true, true, true, true, true, true, true, true, false, false] HT_ (fun K hK => ?_)
  refine go1 Try.func108 #[.int .i64 a0_1, .int .i64 a1] ?_
  with_reducible refine (impl_within.calls a0_1 a1 t301 _ A4.out).mono ?_
  rintro e w9 ⟨rfl, hb⟩
  refine ⟨_, rfl, ?_⟩
  replace BK298 := kBB BK298 hb
  replace BK299 := kBB BK299 hb
  replace HB := bS HB hb
  clear hb
  refine hK.out _ _ ⟨bc BK298 0, bc BK298 1⟩ (fun hHeld => ?_)
  clear hK K
  refine nm (some 12) ?_
  refine pu 8 (some 13) #[true, true, true, true, true, true, true, true, true, false] HT_ ?_
  refine on 9 (none) #[true, true, true, true, true, true, true, true, true, true] HT_ (fun K hK => ?_)
  have hs10 : w9.cell? ⟨gb299, 0, none⟩ = some (.int .i64 0) := bc BK299 0
  have hfs10 := blk_frozen BK299.out 0
  have hns10_0 := NB298_299.out
  have hms10_0 := NB299_298.out
  have hs11 : w9.cell? ⟨gb299, 1, none⟩ = some (.int .i64 0) := bc BK299 1
  have hfs11 := blk_frozen BK299.out 1
  have hns11_0 := NB298_299.out
  have hms11_0 := NB299_298.out
  refine skip_ (w1 := ?_) (by rfl) rfl ?_ ?_
  rotate_left
  · go_simp
    rfl
  refine hK.out _ _ ⟨(cf NB298_299 ((cf NB298_299 (hHeld.1)))), (cf NB298_299 ((cf NB298_299 (hHeld.2))))⟩ (fun hHeld => ?_)
  clear hK K
  refine done_ (done_of HT_.out (by kernel_rfl)) ?_
  try go_wp2
  refine bodyPost_ret (results_cell_row rfl _ _ gb299 24 #[.int .i64 t300, .int .i64 t301] (0, 0) _ rfl (qP BK299) Try.underlying24 rfl (by kernel_rfl)) rfl ?_
  exact ⟨qE, qL HB⟩

attribute [local go_sem high] eqA24
/-! ### impl_isDrive: function 95 -/
def impl_isDrive.f (a0_0 : Int) (a0_1 : Int) : Option (Bool) := (impl_Vec_clamped.f a0_0 a0_1 20000000).bind fun bt303 => (some (a0_0 == bt303.1 && (a0_1 == bt303.2)))
set_option maxHeartbeats 8000000 in
set_option maxRecDepth 100000 in
theorem impl_isDrive.calls (a0_0 : Int) (a0_1 : Int) (r : Bool) (w : World) (h : impl_isDrive.f a0_0 a0_1 = some r) :
    Calls Try.prog 95 #[.agg #[.int .i64 a0_0, .int .i64 a0_1]] w fun e w' => e = .returned (.bool r) ∧ Below w.heap.size w w' := by
  have hu24 := Try.underlying24
  have HB := Aside0.mk (Below.refl w.heap.size w)
  have H : ((impl_Vec_clamped.f a0_0 a0_1 20000000).bind fun bt303 => (some (a0_0 == bt303.1 && (a0_1 == bt303.2)))) = some r := h
  clear h
  replace H := qH H
  obtain ⟨⟨t303, t304⟩, A2, H⟩ := H
  try dsimp only at H
  obtain rfl := Option.some.inj H
  go_enter Try.func95, Try.ntmps95
  try go_wp2_with (first | ((with_reducible refine gate_dst (N := 1) rfl ?_); refine bx (N := 1) (cs := #[.int .i64 a0_0, .int .i64 a0_1]) (t := 24) ?_; intro gb302 hg w3 hbox hb; have BK302 := Aside0.mk (hbox); have GW302 := Aside0.mk ((gE hg (qL HB) : w.heap.size ≤ gb302)); have GE302 := Aside0.mk ((gE hg (qL HB) : w.heap.size ≤ gb302)); replace HB := bS HB hb; clear hb hbox hg))
  replace BK302 := Aside0.mk (blk_drew BK302.out)
  replace HB := Aside0.mk (below_drew1 HB.out)
  refine start_ (n := 5) (S := fun w' => w'.cell? ⟨gb302, 0, none⟩ = some (.int .i64 a0_0) ∧ w'.cell? ⟨gb302, 1, none⟩ = some (.int .i64 a0_1)) (ds := []) #[false, false, false, false, false] (by kernel_rfl) rfl rfl ⟨bc BK302 0, bc BK302 1⟩ (fun hHeld => ?_)
  generalize w3.drew = w4 at BK302 HB hHeld ⊢
  refine take_ (i := 0) (N := some 3) (v := ?_) (a' := ?_) #[true, false, false, false, false] rfl rfl (by kernel_rfl) (fun _ _ _ h => h) (Or.inl ⟨by rfl, ?_⟩) hHeld ?_ ?_
  rotate_left
  · rintro w' ⟨s0, s1⟩
    go_simp
    with_reducible rfl
  rotate_left
  · simp only [Act.put, List.setIfInBounds_toArray, List.set_cons_zero, List.set_cons_succ, i64_w, i32_w]
    rfl
  refine take_ (i := 1) (N := some 4) (v := ?_) (a' := ?_) #[true, true, false, false, false] rfl rfl (by kernel_rfl) (fun _ _ _ h => h) (Or.inl ⟨by rfl, ?_⟩) hHeld ?_ ?_
  rotate_left
  · rintro w' ⟨s0, s1⟩
    go_simp
    with_reducible rfl
  rotate_left
  · simp only [Act.put, List.setIfInBounds_toArray, List.set_cons_zero, List.set_cons_succ, i64_w, i32_w]
    rfl
  refine one_ (i := 2) (N := some 5) #[true, true, true, false, false] rfl rfl (by kernel_rfl) (by decide) (fun K hK => ?_)
  refine go1 Try.func77 #[.agg #[.int .i64 a0_0, .int .i64 a0_1], .int .i64 20000000] ?_
  with_reducible refine (impl_Vec_clamped.calls a0_0 a0_1 20000000 t303 t304 _ A2.out).mono ?_
  rintro e w5 ⟨rfl, hb⟩
  refine ⟨_, rfl, ?_⟩
  replace BK302 := kBB BK302 hb
  replace HB := bS HB hb
  clear hb
  refine hK.out _ _ ⟨bc BK302 0, bc BK302 1⟩ (fun hHeld => ?_)
  clear hK K
  refine nm (some 5) ?_
  refine pure_ (i := 3) (N := some 6) (v := ?_) (a' := ?_) #[true, true, true, true, false] rfl rfl (by kernel_rfl) (fun _ _ _ h => h) (Or.inl ⟨by rfl, ?_⟩) ?_ ?_
  rotate_left
  · intro w'
    go_simp
    with_reducible rfl
  rotate_left
  · simp only [Act.put, List.setIfInBounds_toArray, List.set_cons_zero, List.set_cons_succ, i64_w, i32_w]
    rfl
  refine pure_ (i := 4) (N := some 2) (v := ?_) (a' := ?_) #[true, true, true, true, true] rfl rfl (by kernel_rfl) (fun _ _ _ h => h) (Or.inl ⟨by rfl, ?_⟩) ?_ ?_
  rotate_left
  · intro w'
    go_simp
    with_reducible rfl
  rotate_left
  · simp only [Act.put, List.setIfInBounds_toArray, List.set_cons_zero, List.set_cons_succ, i64_w, i32_w]
    rfl
  refine done_ (by kernel_rfl) ?_
  try go_wp2
  go_ret
  exact ⟨qE, qL HB⟩

/-! ### impl_Body_fixed: function 99 -/
def impl_Body_fixed.f (a0_0 : Int) (a0_1 : Int) (a0_2 : Int) (a0_3 : Int) (a0_4 : Int) (a0_5 : Int) (a0_6 : Int) (a0_7 : Int) (a0_8 : Int) (a0_9 : Int) (a0_10 : Int) (a0_11 : Int) : Option (Bool) := some (a0_8 == 0)
set_option maxHeartbeats 8000000 in
set_option maxRecDepth 100000 in
theorem impl_Body_fixed.calls (a0_0 : Int) (a0_1 : Int) (a0_2 : Int) (a0_3 : Int) (a0_4 : Int) (a0_5 : Int) (a0_6 : Int) (a0_7 : Int) (a0_8 : Int) (a0_9 : Int) (a0_10 : Int) (a0_11 : Int) (r : Bool) (w : World) (h : impl_Body_fixed.f a0_0 a0_1 a0_2 a0_3 a0_4 a0_5 a0_6 a0_7 a0_8 a0_9 a0_10 a0_11 = some r) :
    Calls Try.prog 99 #[.agg #[.int .i64 a0_0, .int .i64 a0_1, .int .i64 a0_2, .int .i64 a0_3, .int .i64 a0_4, .int .i64 a0_5, .int .i64 a0_6, .int .i64 a0_7, .int .i64 a0_8, .int .i64 a0_9, .int .i64 a0_10, .int .i64 a0_11]] w fun e w' => e = .returned (.bool r) ∧ Below w.heap.size w w' := by
  have hu41 := Try.underlying41
  have HB := Aside0.mk (Below.refl w.heap.size w)
  have H : (some (a0_8 == 0)) = some r := h
  clear h
  obtain rfl := Option.some.inj H
  go_enter Try.func99, Try.ntmps99
  go_wp2_with (first | ((with_reducible refine gate_dst (N := 1) rfl ?_); refine bx (N := 1) (cs := #[.int .i64 a0_0, .int .i64 a0_1, .int .i64 a0_2, .int .i64 a0_3, .int .i64 a0_4, .int .i64 a0_5, .int .i64 a0_6, .int .i64 a0_7, .int .i64 a0_8, .int .i64 a0_9, .int .i64 a0_10, .int .i64 a0_11]) (t := 41) ?_; intro gb305 hg w2 hbox hb; have BK305 := Aside0.mk (hbox); have GW305 := Aside0.mk ((gE hg (qL HB) : w.heap.size ≤ gb305)); have GE305 := Aside0.mk ((gE hg (qL HB) : w.heap.size ≤ gb305)); replace HB := bS HB hb; clear hb hbox hg; obtain ⟨hcz3_0, hcz3_1, hcz3_2, hcz3_3, hcz3_4, hcz3_5, hcz3_6, hcz3_7, hcz3_8, hcz3_9, hcz3_10, hcz3_11⟩ := cz12 BK305.out; obtain ⟨hfz3_0, hfz3_1, hfz3_2, hfz3_3, hfz3_4, hfz3_5, hfz3_6, hfz3_7, hfz3_8, hfz3_9, hfz3_10, hfz3_11⟩ := fz12 BK305.out))
  go_ret
  exact ⟨qE, qL HB⟩

/-! ### impl_Body_sleeps: function 100 -/
def impl_Body_sleeps.f (a0_0 : Int) (a0_1 : Int) (a0_2 : Int) (a0_3 : Int) (a0_4 : Int) (a0_5 : Int) (a0_6 : Int) (a0_7 : Int) (a0_8 : Int) (a0_9 : Int) (a0_10 : Int) (a0_11 : Int) : Option (Bool) := some (a0_11 == 8)
set_option maxHeartbeats 8000000 in
set_option maxRecDepth 100000 in
theorem impl_Body_sleeps.calls (a0_0 : Int) (a0_1 : Int) (a0_2 : Int) (a0_3 : Int) (a0_4 : Int) (a0_5 : Int) (a0_6 : Int) (a0_7 : Int) (a0_8 : Int) (a0_9 : Int) (a0_10 : Int) (a0_11 : Int) (r : Bool) (w : World) (h : impl_Body_sleeps.f a0_0 a0_1 a0_2 a0_3 a0_4 a0_5 a0_6 a0_7 a0_8 a0_9 a0_10 a0_11 = some r) :
    Calls Try.prog 100 #[.agg #[.int .i64 a0_0, .int .i64 a0_1, .int .i64 a0_2, .int .i64 a0_3, .int .i64 a0_4, .int .i64 a0_5, .int .i64 a0_6, .int .i64 a0_7, .int .i64 a0_8, .int .i64 a0_9, .int .i64 a0_10, .int .i64 a0_11]] w fun e w' => e = .returned (.bool r) ∧ Below w.heap.size w w' := by
  have hu41 := Try.underlying41
  have HB := Aside0.mk (Below.refl w.heap.size w)
  have H : (some (a0_11 == 8)) = some r := h
  clear h
  obtain rfl := Option.some.inj H
  go_enter Try.func100, Try.ntmps100
  go_wp2_with (first | ((with_reducible refine gate_dst (N := 1) rfl ?_); refine bx (N := 1) (cs := #[.int .i64 a0_0, .int .i64 a0_1, .int .i64 a0_2, .int .i64 a0_3, .int .i64 a0_4, .int .i64 a0_5, .int .i64 a0_6, .int .i64 a0_7, .int .i64 a0_8, .int .i64 a0_9, .int .i64 a0_10, .int .i64 a0_11]) (t := 41) ?_; intro gb306 hg w2 hbox hb; have BK306 := Aside0.mk (hbox); have GW306 := Aside0.mk ((gE hg (qL HB) : w.heap.size ≤ gb306)); have GE306 := Aside0.mk ((gE hg (qL HB) : w.heap.size ≤ gb306)); replace HB := bS HB hb; clear hb hbox hg; obtain ⟨hcz3_0, hcz3_1, hcz3_2, hcz3_3, hcz3_4, hcz3_5, hcz3_6, hcz3_7, hcz3_8, hcz3_9, hcz3_10, hcz3_11⟩ := cz12 BK306.out; obtain ⟨hfz3_0, hfz3_1, hfz3_2, hfz3_3, hfz3_4, hfz3_5, hfz3_6, hfz3_7, hfz3_8, hfz3_9, hfz3_10, hfz3_11⟩ := fz12 BK306.out))
  go_ret
  exact ⟨qE, qL HB⟩
end Go.Proofs.Ytgclkbklhopaaaa.PBig
