/- What these functions compute, each walked once: spec_BodyOk, spec_l6Within, spec_l6Push, spec_BodyPush; for all arguments and worlds, under the conditions that each theorem names. -/
import Derived.Test.YtihajbjkjclmoaaSq
import Derived.Test.YtihajbjkjclmoaaPBigx900
import Derived.Test.YtihajbjkjclmoaaPBigx904
namespace Go.Proofs.Ytihajbjkjclmoaa.PBig
open Go.RowKit Go.Proofs.YtihajbjkjclmoaaW.PrintWords Go.Proofs.YtihajbjkjclmoaaW.PrintLast Go.Proofs.YtihajbjkjclmoaaW.PrintMore
attribute [local go_sem] max2_int min2_int max_two min_two max_three min_three max_four min_four   -- for this text's walks alone
set_option linter.unusedVariables false
set_option linter.unusedSimpArgs false

attribute [local go_sem high] eqA24
/-! ### spec_BodyOk: function 26 -/
def spec_BodyOk.j0 : Nat → Bool → Int → Int → Int → Int → Int → Int → Int → Int → Int → Int → Int → Int → Option (Bool)
  | 0, _, _, _, _, _, _, _, _, _, _, _, _, _ => none
  | k + 1, x48, x276000, x276001, x276002, x276003, x276004, x276005, x276006, x276007, x276008, x276009, x276010, x276011 => if x48 = true then (some false) else (if x276008 = 0 then (if (x276006 == 0 && (x276007 == 0)) = true then (some (x276011 == 0)) else (some false)) else (if x276011 < 8 then (some true) else (some (x276006 == 0 && (x276007 == 0)))))
def spec_BodyOk.f (k : Nat) (a0_0 : Int) (a0_1 : Int) (a0_2 : Int) (a0_3 : Int) (a0_4 : Int) (a0_5 : Int) (a0_6 : Int) (a0_7 : Int) (a0_8 : Int) (a0_9 : Int) (a0_10 : Int) (a0_11 : Int) : Option (Bool) := (spec_l1In.f a0_0 0 999999999).bind fun t276 => (if t276 = true then ((spec_ShapeOk.f a0_1 a0_2 a0_3).bind fun t277 => (if t277 = true then ((spec_l3Place.f a0_4 a0_5).bind fun t278 => (if t278 = true then ((spec_l6Drive.f a0_6 a0_7).bind fun t279 => (if t279 = true then ((spec_l1In.f a0_8 0 1000).bind fun t280 => (if t280 = true then ((spec_l1In.f a0_9 0 256).bind fun t281 => (if t281 = true then ((spec_l1In.f a0_10 0 256).bind fun t282 => (if t282 = true then ((spec_l1In.f a0_11 0 8).bind fun t283 => (spec_BodyOk.j0 k (!t283) a0_0 a0_1 a0_2 a0_3 a0_4 a0_5 a0_6 a0_7 a0_8 a0_9 a0_10 a0_11)) else (spec_BodyOk.j0 k true a0_0 a0_1 a0_2 a0_3 a0_4 a0_5 a0_6 a0_7 a0_8 a0_9 a0_10 a0_11))) else (spec_BodyOk.j0 k true a0_0 a0_1 a0_2 a0_3 a0_4 a0_5 a0_6 a0_7 a0_8 a0_9 a0_10 a0_11))) else (spec_BodyOk.j0 k true a0_0 a0_1 a0_2 a0_3 a0_4 a0_5 a0_6 a0_7 a0_8 a0_9 a0_10 a0_11))) else (spec_BodyOk.j0 k true a0_0 a0_1 a0_2 a0_3 a0_4 a0_5 a0_6 a0_7 a0_8 a0_9 a0_10 a0_11))) else (spec_BodyOk.j0 k true a0_0 a0_1 a0_2 a0_3 a0_4 a0_5 a0_6 a0_7 a0_8 a0_9 a0_10 a0_11))) else (spec_BodyOk.j0 k true a0_0 a0_1 a0_2 a0_3 a0_4 a0_5 a0_6 a0_7 a0_8 a0_9 a0_10 a0_11))) else (spec_BodyOk.j0 k true a0_0 a0_1 a0_2 a0_3 a0_4 a0_5 a0_6 a0_7 a0_8 a0_9 a0_10 a0_11))
theorem spec_BodyOk.mono_l : ∀ k, (∀ y0 y1 y2 y3 y4 y5 y6 y7 y8 y9 y10 y11 y12, LeO (spec_BodyOk.j0 k y0 y1 y2 y3 y4 y5 y6 y7 y8 y9 y10 y11 y12) (spec_BodyOk.j0 (k + 1) y0 y1 y2 y3 y4 y5 y6 y7 y8 y9 y10 y11 y12))
  | 0 => fun _ _ _ _ _ _ _ _ _ _ _ _ _ r h => by simp [spec_BodyOk.j0] at h
  | k + 1 => by
    have ih0 := spec_BodyOk.mono_l k
    · intro y0 y1 y2 y3 y4 y5 y6 y7 y8 y9 y10 y11 y12
      unfold spec_BodyOk.j0
      repeat' first
      | (with_reducible exact ih0 _ _ _ _ _ _ _ _ _ _ _ _ _)
      | (with_reducible exact LeO.refl _)
      | (with_reducible exact LeO.none _)
      | (with_reducible refine LeO.ite ?_ ?_)
      | (with_reducible refine LeO.bind ?_ (fun _ => ?_))
theorem spec_BodyOk.mono : ∀ a0 a1 a2 a3 a4 a5 a6 a7 a8 a9 a10 a11 k, LeO (spec_BodyOk.f k a0 a1 a2 a3 a4 a5 a6 a7 a8 a9 a10 a11) (spec_BodyOk.f (k + 1) a0 a1 a2 a3 a4 a5 a6 a7 a8 a9 a10 a11) := by
  intro a0 a1 a2 a3 a4 a5 a6 a7 a8 a9 a10 a11 k
  have ih0 := spec_BodyOk.mono_l k
  unfold spec_BodyOk.f
  repeat' first
      | (with_reducible exact ih0 _ _ _ _ _ _ _ _ _ _ _ _ _)
      | (with_reducible exact LeO.refl _)
      | (with_reducible exact LeO.none _)
      | (with_reducible refine LeO.ite ?_ ?_)
      | (with_reducible refine LeO.bind ?_ (fun _ => ?_))
set_option maxHeartbeats 8000000 in
set_option maxRecDepth 100000 in
theorem spec_BodyOk.calls (k : Nat) (a0_0 : Int) (a0_1 : Int) (a0_2 : Int) (a0_3 : Int) (a0_4 : Int) (a0_5 : Int) (a0_6 : Int) (a0_7 : Int) (a0_8 : Int) (a0_9 : Int) (a0_10 : Int) (a0_11 : Int) (r : Bool) (w : World) (h : spec_BodyOk.f k a0_0 a0_1 a0_2 a0_3 a0_4 a0_5 a0_6 a0_7 a0_8 a0_9 a0_10 a0_11 = some r) :
    Calls Try.prog 26 #[.agg #[.int .i64 a0_0, .int .i64 a0_1, .int .i64 a0_2, .int .i64 a0_3, .int .i64 a0_4, .int .i64 a0_5, .int .i64 a0_6, .int .i64 a0_7, .int .i64 a0_8, .int .i64 a0_9, .int .i64 a0_10, .int .i64 a0_11]] w fun e w' => e = .returned (.bool r) ∧ Below w.heap.size w w' := by
  have hu40 := Try.underlying40
  have hu38 := Try.underlying38
  have hu24 := Try.underlying24
  have HB := az (Below.refl w.heap.size w)
  have H : ((spec_l1In.f a0_0 0 999999999).bind fun t276 => (if t276 = true then ((spec_ShapeOk.f a0_1 a0_2 a0_3).bind fun t277 => (if t277 = true then ((spec_l3Place.f a0_4 a0_5).bind fun t278 => (if t278 = true then ((spec_l6Drive.f a0_6 a0_7).bind fun t279 => (if t279 = true then ((spec_l1In.f a0_8 0 1000).bind fun t280 => (if t280 = true then ((spec_l1In.f a0_9 0 256).bind fun t281 => (if t281 = true then ((spec_l1In.f a0_10 0 256).bind fun t282 => (if t282 = true then ((spec_l1In.f a0_11 0 8).bind fun t283 => (spec_BodyOk.j0 k (!t283) a0_0 a0_1 a0_2 a0_3 a0_4 a0_5 a0_6 a0_7 a0_8 a0_9 a0_10 a0_11)) else (spec_BodyOk.j0 k true a0_0 a0_1 a0_2 a0_3 a0_4 a0_5 a0_6 a0_7 a0_8 a0_9 a0_10 a0_11))) else (spec_BodyOk.j0 k true a0_0 a0_1 a0_2 a0_3 a0_4 a0_5 a0_6 a0_7 a0_8 a0_9 a0_10 a0_11))) else (spec_BodyOk.j0 k true a0_0 a0_1 a0_2 a0_3 a0_4 a0_5 a0_6 a0_7 a0_8 a0_9 a0_10 a0_11))) else (spec_BodyOk.j0 k true a0_0 a0_1 a0_2 a0_3 a0_4 a0_5 a0_6 a0_7 a0_8 a0_9 a0_10 a0_11))) else (spec_BodyOk.j0 k true a0_0 a0_1 a0_2 a0_3 a0_4 a0_5 a0_6 a0_7 a0_8 a0_9 a0_10 a0_11))) else (spec_BodyOk.j0 k true a0_0 a0_1 a0_2 a0_3 a0_4 a0_5 a0_6 a0_7 a0_8 a0_9 a0_10 a0_11))) else (spec_BodyOk.j0 k true a0_0 a0_1 a0_2 a0_3 a0_4 a0_5 a0_6 a0_7 a0_8 a0_9 a0_10 a0_11))) = some r := h
  clear h
  have HC2 := az H
  clear H
  go_enter Try.func26, Try.ntmps26
  go_upto_region 1 with (first | ((with_reducible refine gate_dst (N := 1) rfl ?_); refine bx (N := 1) (cs := #[.int .i64 a0_0, .int .i64 a0_1, .int .i64 a0_2, .int .i64 a0_3, .int .i64 a0_4, .int .i64 a0_5, .int .i64 a0_6, .int .i64 a0_7, .int .i64 a0_8, .int .i64 a0_9, .int .i64 a0_10, .int .i64 a0_11]) (t := 40) ?_; intro gb275 hg w3 hbox hb; have BK275 := az hbox; have GW275 := az ((gE hg (qL HB) : w.heap.size ≤ gb275)); have GE275 := GW275; replace HB := bS HB hb; clear hb hbox hg))
  (try simp only [Act.put, List.setIfInBounds_toArray, List.set_cons_zero, List.set_cons_succ])
  go_cut [48] (fun v48 wc => ∃ (kq : Nat) (x48_1 : Bool), v48 = .bool x48_1 ∧ Aside0 (spec_BodyOk.j0 kq x48_1 a0_0 a0_1 a0_2 a0_3 a0_4 a0_5 a0_6 a0_7 a0_8 a0_9 a0_10 a0_11 = some r) ∧ Aside0 (kq ≤ k) ∧ Aside0 (wc.heap[gb275]? = some (.cells #[.int .i64 a0_0, .int .i64 a0_1, .int .i64 a0_2, .int .i64 a0_3, .int .i64 a0_4, .int .i64 a0_5, .int .i64 a0_6, .int .i64 a0_7, .int .i64 a0_8, .int .i64 a0_9, .int .i64 a0_10, .int .i64 a0_11] 40 (0, 0))) ∧ Aside0 (Below w.heap.size w wc))
  case first =>
    have H := HC2.out
    clear HC2
    replace H := qH H
    obtain ⟨t276, A4, H⟩ := H
    try dsimp only at H
    by_cases c5 : t276 = true
    · subst c5
      replace H := qT H
      replace H := qH H
      obtain ⟨t277, A6, H⟩ := H
      try dsimp only at H
      by_cases c7 : t277 = true
      · subst c7
        replace H := qT H
        replace H := qH H
        obtain ⟨t278, A8, H⟩ := H
        try dsimp only at H
        by_cases c9 : t278 = true
        · subst c9
          replace H := qT H
          replace H := qH H
          obtain ⟨t279, A10, H⟩ := H
          try dsimp only at H
          by_cases c11 : t279 = true
          · subst c11
            replace H := qT H
            replace H := qH H
            obtain ⟨t280, A12, H⟩ := H
            try dsimp only at H
            by_cases c13 : t280 = true
            · subst c13
              replace H := qT H
              replace H := qH H
              obtain ⟨t281, A14, H⟩ := H
              try dsimp only at H
              by_cases c15 : t281 = true
              · subst c15
                replace H := qT H
                replace H := qH H
                obtain ⟨t282, A16, H⟩ := H
                try dsimp only at H
                by_cases c17 : t282 = true
                · subst c17
                  replace H := qT H
                  replace H := qH H
                  obtain ⟨t283, A18, H⟩ := H
                  try dsimp only at H
                  have H' := az H
                  clear H
                  obtain ⟨hcz19_0, hcz19_1, hcz19_2, hcz19_3, hcz19_4, hcz19_5, hcz19_6, hcz19_7, hcz19_8, hcz19_9, hcz19_10, hcz19_11⟩ := cz12 BK275.out
                  obtain ⟨hfz19_0, hfz19_1, hfz19_2, hfz19_3, hfz19_4, hfz19_5, hfz19_6, hfz19_7, hfz19_8, hfz19_9, hfz19_10, hfz19_11⟩ := fz12 BK275.out
                  go_wp2_with (first | ((with_reducible refine gate_callee (f := 64) rfl ?_); refine gl (some 5) Try.func64 #[.int .i64 a0_0, .int .i64 0, .int .i64 999999999] ?_; (with_reducible refine (spec_l1In.calls a0_0 0 999999999 true _ A4.out).mono ?_); rintro e w' ⟨rfl, ⟨nd, rfl⟩⟩; refine ⟨_, rfl, ?_⟩) | (go_at_call 40; (with_reducible refine (spec_ShapeOk.calls a0_1 a0_2 a0_3 true _ A6.out).mono ?_); rintro e w20 ⟨rfl, hb⟩; replace BK275 := kBB BK275 hb; replace HB := bS HB hb; clear hb; obtain ⟨hcz21_0, hcz21_1, hcz21_2, hcz21_3, hcz21_4, hcz21_5, hcz21_6, hcz21_7, hcz21_8, hcz21_9, hcz21_10, hcz21_11⟩ := cz12 BK275.out; obtain ⟨hfz21_0, hfz21_1, hfz21_2, hfz21_3, hfz21_4, hfz21_5, hfz21_6, hfz21_7, hfz21_8, hfz21_9, hfz21_10, hfz21_11⟩ := fz12 BK275.out) | (go_at_call 65; (with_reducible refine (spec_l3Place.calls a0_4 a0_5 true _ A8.out).mono ?_); rintro e w22 ⟨rfl, hb⟩; replace BK275 := kBB BK275 hb; replace HB := bS HB hb; clear hb; obtain ⟨hcz23_0, hcz23_1, hcz23_2, hcz23_3, hcz23_4, hcz23_5, hcz23_6, hcz23_7, hcz23_8, hcz23_9, hcz23_10, hcz23_11⟩ := cz12 BK275.out; obtain ⟨hfz23_0, hfz23_1, hfz23_2, hfz23_3, hfz23_4, hfz23_5, hfz23_6, hfz23_7, hfz23_8, hfz23_9, hfz23_10, hfz23_11⟩ := fz12 BK275.out) | (go_at_call 49; (with_reducible refine (spec_l6Drive.calls a0_6 a0_7 true _ A10.out).mono ?_); rintro e w24 ⟨rfl, hb⟩; replace BK275 := kBB BK275 hb; replace HB := bS HB hb; clear hb; obtain ⟨hcz25_0, hcz25_1, hcz25_2, hcz25_3, hcz25_4, hcz25_5, hcz25_6, hcz25_7, hcz25_8, hcz25_9, hcz25_10, hcz25_11⟩ := cz12 BK275.out; obtain ⟨hfz25_0, hfz25_1, hfz25_2, hfz25_3, hfz25_4, hfz25_5, hfz25_6, hfz25_7, hfz25_8, hfz25_9, hfz25_10, hfz25_11⟩ := fz12 BK275.out) | (go_at_call 64; (with_reducible refine (spec_l1In.calls a0_8 0 1000 true _ A12.out).mono ?_); rintro e w' ⟨rfl, ⟨nd, rfl⟩⟩) | (go_at_call 64; (with_reducible refine (spec_l1In.calls a0_9 0 256 true _ A14.out).mono ?_); rintro e w' ⟨rfl, ⟨nd, rfl⟩⟩) | (go_at_call 64; (with_reducible refine (spec_l1In.calls a0_10 0 256 true _ A16.out).mono ?_); rintro e w' ⟨rfl, ⟨nd, rfl⟩⟩) | (go_at_call 64; (with_reducible refine (spec_l1In.calls a0_11 0 8 t283 _ A18.out).mono ?_); rintro e w' ⟨rfl, ⟨nd, rfl⟩⟩))
                  go_meet
                  case rel => exact ⟨_, (!t283), (by first | rfl | (simp; done) | (simp [*]; done)), H', ⟨by first | omega | exact Nat.le_refl _⟩, ⟨qF BK275⟩, ⟨qL HB⟩⟩
                replace c17 := Bool.eq_false_iff.mpr c17
                subst c17
                replace H := qU H
                have H' := az H
                clear H
                obtain ⟨hcz26_0, hcz26_1, hcz26_2, hcz26_3, hcz26_4, hcz26_5, hcz26_6, hcz26_7, hcz26_8, hcz26_9, hcz26_10, hcz26_11⟩ := cz12 BK275.out
                obtain ⟨hfz26_0, hfz26_1, hfz26_2, hfz26_3, hfz26_4, hfz26_5, hfz26_6, hfz26_7, hfz26_8, hfz26_9, hfz26_10, hfz26_11⟩ := fz12 BK275.out
                go_wp2_with (first | ((with_reducible refine gate_callee (f := 64) rfl ?_); refine gl (some 5) Try.func64 #[.int .i64 a0_0, .int .i64 0, .int .i64 999999999] ?_; (with_reducible refine (spec_l1In.calls a0_0 0 999999999 true _ A4.out).mono ?_); rintro e w' ⟨rfl, ⟨nd, rfl⟩⟩; refine ⟨_, rfl, ?_⟩) | (go_at_call 40; (with_reducible refine (spec_ShapeOk.calls a0_1 a0_2 a0_3 true _ A6.out).mono ?_); rintro e w27 ⟨rfl, hb⟩; replace BK275 := kBB BK275 hb; replace HB := bS HB hb; clear hb; obtain ⟨hcz28_0, hcz28_1, hcz28_2, hcz28_3, hcz28_4, hcz28_5, hcz28_6, hcz28_7, hcz28_8, hcz28_9, hcz28_10, hcz28_11⟩ := cz12 BK275.out; obtain ⟨hfz28_0, hfz28_1, hfz28_2, hfz28_3, hfz28_4, hfz28_5, hfz28_6, hfz28_7, hfz28_8, hfz28_9, hfz28_10, hfz28_11⟩ := fz12 BK275.out) | (go_at_call 65; (with_reducible refine (spec_l3Place.calls a0_4 a0_5 true _ A8.out).mono ?_); rintro e w29 ⟨rfl, hb⟩; replace BK275 := kBB BK275 hb; replace HB := bS HB hb; clear hb; obtain ⟨hcz30_0, hcz30_1, hcz30_2, hcz30_3, hcz30_4, hcz30_5, hcz30_6, hcz30_7, hcz30_8, hcz30_9, hcz30_10, hcz30_11⟩ := cz12 BK275.out; obtain ⟨hfz30_0, hfz30_1, hfz30_2, hfz30_3, hfz30_4, hfz30_5, hfz30_6, hfz30_7, hfz30_8, hfz30_9, hfz30_10, hfz30_11⟩ := fz12 BK275.out) | (go_at_call 49; (with_reducible refine (spec_l6Drive.calls a0_6 a0_7 true _ A10.out).mono ?_); rintro e w31 ⟨rfl, hb⟩; replace BK275 := kBB BK275 hb; replace HB := bS HB hb; clear hb; obtain ⟨hcz32_0, hcz32_1, hcz32_2, hcz32_3, hcz32_4, hcz32_5, hcz32_6, hcz32_7, hcz32_8, hcz32_9, hcz32_10, hcz32_11⟩ := cz12 BK275.out; obtain ⟨hfz32_0, hfz32_1, hfz32_2, hfz32_3, hfz32_4, hfz32_5, hfz32_6, hfz32_7, hfz32_8, hfz32_9, hfz32_10, hfz32_11⟩ := fz12 BK275.out) | (go_at_call 64; (with_reducible refine (spec_l1In.calls a0_8 0 1000 true _ A12.out).mono ?_); rintro e w' ⟨rfl, ⟨nd, rfl⟩⟩) | (go_at_call 64; (with_reducible refine (spec_l1In.calls a0_9 0 256 true _ A14.out).mono ?_); rintro e w' ⟨rfl, ⟨nd, rfl⟩⟩) | (go_at_call 64; (with_reducible refine (spec_l1In.calls a0_10 0 256 false _ A16.out).mono ?_); rintro e w' ⟨rfl, ⟨nd, rfl⟩⟩))
                go_meet
                case rel => exact ⟨_, (true), (by first | rfl | (simp; done) | (simp [*]; done)), H', ⟨by first | omega | exact Nat.le_refl _⟩, ⟨qF BK275⟩, ⟨qL HB⟩⟩
              replace c15 := Bool.eq_false_iff.mpr c15
              subst c15
              replace H := qU H
              have H' := az H
              clear H
              obtain ⟨hcz33_0, hcz33_1, hcz33_2, hcz33_3, hcz33_4, hcz33_5, hcz33_6, hcz33_7, hcz33_8, hcz33_9, hcz33_10, hcz33_11⟩ := cz12 BK275.out
              obtain ⟨hfz33_0, hfz33_1, hfz33_2, hfz33_3, hfz33_4, hfz33_5, hfz33_6, hfz33_7, hfz33_8, hfz33_9, hfz33_10, hfz33_11⟩ := fz12 BK275.out
              go_wp2_with (first | ((with_reducible refine gate_callee (f := 64) rfl ?_); refine gl (some 5) Try.func64 #[.int .i64 a0_0, .int .i64 0, .int .i64 999999999] ?_; (with_reducible refine (spec_l1In.calls a0_0 0 999999999 true _ A4.out).mono ?_); rintro e w' ⟨rfl, ⟨nd, rfl⟩⟩; refine ⟨_, rfl, ?_⟩) | (go_at_call 40; (with_reducible refine (spec_ShapeOk.calls a0_1 a0_2 a0_3 true _ A6.out).mono ?_); rintro e w34 ⟨rfl, hb⟩; replace BK275 := kBB BK275 hb; replace HB := bS HB hb; clear hb; obtain ⟨hcz35_0, hcz35_1, hcz35_2, hcz35_3, hcz35_4, hcz35_5, hcz35_6, hcz35_7, hcz35_8, hcz35_9, hcz35_10, hcz35_11⟩ := cz12 BK275.out; obtain ⟨hfz35_0, hfz35_1, hfz35_2, hfz35_3, hfz35_4, hfz35_5, hfz35_6, hfz35_7, hfz35_8, hfz35_9, hfz35_10, hfz35_11⟩ := fz12 BK275.out) | (go_at_call 65; (with_reducible refine (spec_l3Place.calls a0_4 a0_5 true _ A8.out).mono ?_); rintro e w36 ⟨rfl, hb⟩; replace BK275 := kBB BK275 hb; replace HB := bS HB hb; clear hb; obtain ⟨hcz37_0, hcz37_1, hcz37_2, hcz37_3, hcz37_4, hcz37_5, hcz37_6, hcz37_7, hcz37_8, hcz37_9, hcz37_10, hcz37_11⟩ := cz12 BK275.out; obtain ⟨hfz37_0, hfz37_1, hfz37_2, hfz37_3, hfz37_4, hfz37_5, hfz37_6, hfz37_7, hfz37_8, hfz37_9, hfz37_10, hfz37_11⟩ := fz12 BK275.out) | (go_at_call 49; (with_reducible refine (spec_l6Drive.calls a0_6 a0_7 true _ A10.out).mono ?_); rintro e w38 ⟨rfl, hb⟩; replace BK275 := kBB BK275 hb; replace HB := bS HB hb; clear hb; obtain ⟨hcz39_0, hcz39_1, hcz39_2, hcz39_3, hcz39_4, hcz39_5, hcz39_6, hcz39_7, hcz39_8, hcz39_9, hcz39_10, hcz39_11⟩ := cz12 BK275.out; obtain ⟨hfz39_0, hfz39_1, hfz39_2, hfz39_3, hfz39_4, hfz39_5, hfz39_6, hfz39_7, hfz39_8, hfz39_9, hfz39_10, hfz39_11⟩ := fz12 BK275.out) | (go_at_call 64; (with_reducible refine (spec_l1In.calls a0_8 0 1000 true _ A12.out).mono ?_); rintro e w' ⟨rfl, ⟨nd, rfl⟩⟩) | (go_at_call 64; (with_reducible refine (spec_l1In.calls a0_9 0 256 false _ A14.out).mono ?_); rintro e w' ⟨rfl, ⟨nd, rfl⟩⟩))
              go_meet
              case rel => exact ⟨_, (true), (by first | rfl | (simp; done) | (simp [*]; done)), H', ⟨by first | omega | exact Nat.le_refl _⟩, ⟨qF BK275⟩, ⟨qL HB⟩⟩
            replace c13 := Bool.eq_false_iff.mpr c13
            subst c13
            replace H := qU H
            have H' := az H
            clear H
            obtain ⟨hcz40_0, hcz40_1, hcz40_2, hcz40_3, hcz40_4, hcz40_5, hcz40_6, hcz40_7, hcz40_8, hcz40_9, hcz40_10, hcz40_11⟩ := cz12 BK275.out
            obtain ⟨hfz40_0, hfz40_1, hfz40_2, hfz40_3, hfz40_4, hfz40_5, hfz40_6, hfz40_7, hfz40_8, hfz40_9, hfz40_10, hfz40_11⟩ := fz12 BK275.out
            go_wp2_with (first | ((with_reducible refine gate_callee (f := 64) rfl ?_); refine gl (some 5) Try.func64 #[.int .i64 a0_0, .int .i64 0, .int .i64 999999999] ?_; (with_reducible refine (spec_l1In.calls a0_0 0 999999999 true _ A4.out).mono ?_); rintro e w' ⟨rfl, ⟨nd, rfl⟩⟩; refine ⟨_, rfl, ?_⟩) | (go_at_call 40; (with_reducible refine (spec_ShapeOk.calls a0_1 a0_2 a0_3 true _ A6.out).mono ?_); rintro e w41 ⟨rfl, hb⟩; replace BK275 := kBB BK275 hb; replace HB := bS HB hb; clear hb; obtain ⟨hcz42_0, hcz42_1, hcz42_2, hcz42_3, hcz42_4, hcz42_5, hcz42_6, hcz42_7, hcz42_8, hcz42_9, hcz42_10, hcz42_11⟩ := cz12 BK275.out; obtain ⟨hfz42_0, hfz42_1, hfz42_2, hfz42_3, hfz42_4, hfz42_5, hfz42_6, hfz42_7, hfz42_8, hfz42_9, hfz42_10, hfz42_11⟩ := fz12 BK275.out) | (go_at_call 65; (with_reducible refine (spec_l3Place.calls a0_4 a0_5 true _ A8.out).mono ?_); rintro e w43 ⟨rfl, hb⟩; replace BK275 := kBB BK275 hb; replace HB := bS HB hb; clear hb; obtain ⟨hcz44_0, hcz44_1, hcz44_2, hcz44_3, hcz44_4, hcz44_5, hcz44_6, hcz44_7, hcz44_8, hcz44_9, hcz44_10, hcz44_11⟩ := cz12 BK275.out; obtain ⟨hfz44_0, hfz44_1, hfz44_2, hfz44_3, hfz44_4, hfz44_5, hfz44_6, hfz44_7, hfz44_8, hfz44_9, hfz44_10, hfz44_11⟩ := fz12 BK275.out) | (go_at_call 49; (with_reducible refine (spec_l6Drive.calls a0_6 a0_7 true _ A10.out).mono ?_); rintro e w45 ⟨rfl, hb⟩; replace BK275 := kBB BK275 hb; replace HB := bS HB hb; clear hb; obtain ⟨hcz46_0, hcz46_1, hcz46_2, hcz46_3, hcz46_4, hcz46_5, hcz46_6, hcz46_7, hcz46_8, hcz46_9, hcz46_10, hcz46_11⟩ := cz12 BK275.out; obtain ⟨hfz46_0, hfz46_1, hfz46_2, hfz46_3, hfz46_4, hfz46_5, hfz46_6, hfz46_7, hfz46_8, hfz46_9, hfz46_10, hfz46_11⟩ := fz12 BK275.out) | (go_at_call 64; (with_reducible refine (spec_l1In.calls a0_8 0 1000 false _ A12.out).mono ?_); rintro e w' ⟨rfl, ⟨nd, rfl⟩⟩))
            go_meet
            case rel => exact ⟨_, (true), (by first | rfl | (simp; done) | (simp [*]; done)), H', ⟨by first | omega | exact Nat.le_refl _⟩, ⟨qF BK275⟩, ⟨qL HB⟩⟩
          replace c11 := Bool.eq_false_iff.mpr c11
          subst c11
          replace H := qU H
          have H' := az H
          clear H
          obtain ⟨hcz47_0, hcz47_1, hcz47_2, hcz47_3, hcz47_4, hcz47_5, hcz47_6, hcz47_7, hcz47_8, hcz47_9, hcz47_10, hcz47_11⟩ := cz12 BK275.out
          obtain ⟨hfz47_0, hfz47_1, hfz47_2, hfz47_3, hfz47_4, hfz47_5, hfz47_6, hfz47_7, hfz47_8, hfz47_9, hfz47_10, hfz47_11⟩ := fz12 BK275.out
          go_wp2_with (first | ((with_reducible refine gate_callee (f := 64) rfl ?_); refine gl (some 5) Try.func64 #[.int .i64 a0_0, .int .i64 0, .int .i64 999999999] ?_; (with_reducible refine (spec_l1In.calls a0_0 0 999999999 true _ A4.out).mono ?_); rintro e w' ⟨rfl, ⟨nd, rfl⟩⟩; refine ⟨_, rfl, ?_⟩) | (go_at_call 40; (with_reducible refine (spec_ShapeOk.calls a0_1 a0_2 a0_3 true _ A6.out).mono ?_); rintro e w48 ⟨rfl, hb⟩; replace BK275 := kBB BK275 hb; replace HB := bS HB hb; clear hb; obtain ⟨hcz49_0, hcz49_1, hcz49_2, hcz49_3, hcz49_4, hcz49_5, hcz49_6, hcz49_7, hcz49_8, hcz49_9, hcz49_10, hcz49_11⟩ := cz12 BK275.out; obtain ⟨hfz49_0, hfz49_1, hfz49_2, hfz49_3, hfz49_4, hfz49_5, hfz49_6, hfz49_7, hfz49_8, hfz49_9, hfz49_10, hfz49_11⟩ := fz12 BK275.out) | (go_at_call 65; (with_reducible refine (spec_l3Place.calls a0_4 a0_5 true _ A8.out).mono ?_); rintro e w50 ⟨rfl, hb⟩; replace BK275 := kBB BK275 hb; replace HB := bS HB hb; clear hb; obtain ⟨hcz51_0, hcz51_1, hcz51_2, hcz51_3, hcz51_4, hcz51_5, hcz51_6, hcz51_7, hcz51_8, hcz51_9, hcz51_10, hcz51_11⟩ := cz12 BK275.out; obtain ⟨hfz51_0, hfz51_1, hfz51_2, hfz51_3, hfz51_4, hfz51_5, hfz51_6, hfz51_7, hfz51_8, hfz51_9, hfz51_10, hfz51_11⟩ := fz12 BK275.out) | (go_at_call 49; (with_reducible refine (spec_l6Drive.calls a0_6 a0_7 false _ A10.out).mono ?_); rintro e w52 ⟨rfl, hb⟩; replace BK275 := kBB BK275 hb; replace HB := bS HB hb; clear hb))
          go_meet
          case rel => exact ⟨_, (true), (by first | rfl | (simp; done) | (simp [*]; done)), H', ⟨by first | omega | exact Nat.le_refl _⟩, ⟨qF BK275⟩, ⟨qL HB⟩⟩
        replace c9 := Bool.eq_false_iff.mpr c9
        subst c9
        replace H := qU H
        have H' := az H
        clear H
        obtain ⟨hcz53_0, hcz53_1, hcz53_2, hcz53_3, hcz53_4, hcz53_5, hcz53_6, hcz53_7, hcz53_8, hcz53_9, hcz53_10, hcz53_11⟩ := cz12 BK275.out
        obtain ⟨hfz53_0, hfz53_1, hfz53_2, hfz53_3, hfz53_4, hfz53_5, hfz53_6, hfz53_7, hfz53_8, hfz53_9, hfz53_10, hfz53_11⟩ := fz12 BK275.out
        go_wp2_with (first | ((with_reducible refine gate_callee (f := 64) rfl ?_); refine gl (some 5) Try.func64 #[.int .i64 a0_0, .int .i64 0, .int .i64 999999999] ?_; (with_reducible refine (spec_l1In.calls a0_0 0 999999999 true _ A4.out).mono ?_); rintro e w' ⟨rfl, ⟨nd, rfl⟩⟩; refine ⟨_, rfl, ?_⟩) | (go_at_call 40; (with_reducible refine (spec_ShapeOk.calls a0_1 a0_2 a0_3 true _ A6.out).mono ?_); rintro e w54 ⟨rfl, hb⟩; replace BK275 := kBB BK275 hb; replace HB := bS HB hb; clear hb; obtain ⟨hcz55_0, hcz55_1, hcz55_2, hcz55_3, hcz55_4, hcz55_5, hcz55_6, hcz55_7, hcz55_8, hcz55_9, hcz55_10, hcz55_11⟩ := cz12 BK275.out; obtain ⟨hfz55_0, hfz55_1, hfz55_2, hfz55_3, hfz55_4, hfz55_5, hfz55_6, hfz55_7, hfz55_8, hfz55_9, hfz55_10, hfz55_11⟩ := fz12 BK275.out) | (go_at_call 65; (with_reducible refine (spec_l3Place.calls a0_4 a0_5 false _ A8.out).mono ?_); rintro e w56 ⟨rfl, hb⟩; replace BK275 := kBB BK275 hb; replace HB := bS HB hb; clear hb))
        go_meet
        case rel => exact ⟨_, (true), (by first | rfl | (simp; done) | (simp [*]; done)), H', ⟨by first | omega | exact Nat.le_refl _⟩, ⟨qF BK275⟩, ⟨qL HB⟩⟩
      replace c7 := Bool.eq_false_iff.mpr c7
      subst c7
      replace H := qU H
      have H' := az H
      clear H
      obtain ⟨hcz57_0, hcz57_1, hcz57_2, hcz57_3, hcz57_4, hcz57_5, hcz57_6, hcz57_7, hcz57_8, hcz57_9, hcz57_10, hcz57_11⟩ := cz12 BK275.out
      obtain ⟨hfz57_0, hfz57_1, hfz57_2, hfz57_3, hfz57_4, hfz57_5, hfz57_6, hfz57_7, hfz57_8, hfz57_9, hfz57_10, hfz57_11⟩ := fz12 BK275.out
      go_wp2_with (first | ((with_reducible refine gate_callee (f := 64) rfl ?_); refine gl (some 5) Try.func64 #[.int .i64 a0_0, .int .i64 0, .int .i64 999999999] ?_; (with_reducible refine (spec_l1In.calls a0_0 0 999999999 true _ A4.out).mono ?_); rintro e w' ⟨rfl, ⟨nd, rfl⟩⟩; refine ⟨_, rfl, ?_⟩) | (go_at_call 40; (with_reducible refine (spec_ShapeOk.calls a0_1 a0_2 a0_3 false _ A6.out).mono ?_); rintro e w58 ⟨rfl, hb⟩; replace BK275 := kBB BK275 hb; replace HB := bS HB hb; clear hb))
      go_meet
      case rel => exact ⟨_, (true), (by first | rfl | (simp; done) | (simp [*]; done)), H', ⟨by first | omega | exact Nat.le_refl _⟩, ⟨qF BK275⟩, ⟨qL HB⟩⟩
    replace c5 := Bool.eq_false_iff.mpr c5
    subst c5
    replace H := qU H
    have H' := az H
    clear H
    obtain ⟨hcz59_0, hcz59_1, hcz59_2, hcz59_3, hcz59_4, hcz59_5, hcz59_6, hcz59_7, hcz59_8, hcz59_9, hcz59_10, hcz59_11⟩ := cz12 BK275.out
    obtain ⟨hfz59_0, hfz59_1, hfz59_2, hfz59_3, hfz59_4, hfz59_5, hfz59_6, hfz59_7, hfz59_8, hfz59_9, hfz59_10, hfz59_11⟩ := fz12 BK275.out
    go_wp2_with (first | ((with_reducible refine gate_callee (f := 64) rfl ?_); refine gl (some 5) Try.func64 #[.int .i64 a0_0, .int .i64 0, .int .i64 999999999] ?_; (with_reducible refine (spec_l1In.calls a0_0 0 999999999 false _ A4.out).mono ?_); rintro e w' ⟨rfl, ⟨nd, rfl⟩⟩; refine ⟨_, rfl, ?_⟩))
    go_meet
    case rel => exact ⟨_, (true), (by first | rfl | (simp; done) | (simp [*]; done)), H', ⟨by first | omega | exact Nat.le_refl _⟩, ⟨qF BK275⟩, ⟨qL HB⟩⟩
  case rest =>
    clear HC2
    obtain ⟨kq, x48_1, rfl, HA, HJ1, BK275, HB⟩ := hcut
    cases kq with
    | zero => exact absurd HA.out (by simp [spec_BodyOk.j0])
    | succ kj1 => ?_
    have H := HA.out
    clear HA
    simp only [spec_BodyOk.j0] at H
    by_cases c60 : x48_1 = true
    · subst c60
      replace H := qT H
      obtain rfl := Option.some.inj H
      go_wp2
      go_ret
      exact ⟨qE, qL HB⟩
    replace c60 := Bool.eq_false_iff.mpr c60
    subst c60
    replace H := qU H
    by_cases c61 : a0_8 = 0
    · rw [if_pos c61] at H
      have c61b0 : (a0_8 == 0) = true := beq_iff_eq.mpr c61
      have c61b1 : (a0_8 != 0) = false := bne_eq_false_iff_eq.mpr c61
      clear c61
      by_cases c62 : (a0_6 == 0 && (a0_7 == 0)) = true
      · rw [if_pos c62] at H
        have c62b0 : (a0_6 == 0 && (a0_7 == 0)) = true := c62
        (try (have c62b1 : decide (a0_6 = 0 && (a0_7 == 0)) = true := by simpa using c62))
        (try (have c62b2 : (a0_6 == 0 && (a0_7 == 0)) = true := by simpa using c62))
        clear c62
        obtain rfl := Option.some.inj H
        obtain ⟨hcz63_0, hcz63_1, hcz63_2, hcz63_3, hcz63_4, hcz63_5, hcz63_6, hcz63_7, hcz63_8, hcz63_9, hcz63_10, hcz63_11⟩ := cz12 BK275.out
        obtain ⟨hfz63_0, hfz63_1, hfz63_2, hfz63_3, hfz63_4, hfz63_5, hfz63_6, hfz63_7, hfz63_8, hfz63_9, hfz63_10, hfz63_11⟩ := fz12 BK275.out
        go_wp2
        go_ret
        exact ⟨qE, qL HB⟩
      rw [if_neg c62] at H
      have c62b0 : (a0_6 == 0 && (a0_7 == 0)) = false := by simpa using c62
      (try (have c62b1 : decide (a0_6 = 0 && (a0_7 == 0)) = false := by simpa using c62))
      (try (have c62b2 : (a0_6 == 0 && (a0_7 == 0)) = false := by simpa using c62))
      (try (have c62b3 : ¬ (a0_6 = 0 && (a0_7 == 0)) := by simpa using c62))
      clear c62
      obtain rfl := Option.some.inj H
      obtain ⟨hcz64_0, hcz64_1, hcz64_2, hcz64_3, hcz64_4, hcz64_5, hcz64_6, hcz64_7, hcz64_8, hcz64_9, hcz64_10, hcz64_11⟩ := cz12 BK275.out
      obtain ⟨hfz64_0, hfz64_1, hfz64_2, hfz64_3, hfz64_4, hfz64_5, hfz64_6, hfz64_7, hfz64_8, hfz64_9, hfz64_10, hfz64_11⟩ := fz12 BK275.out
      go_wp2
      go_ret
      exact ⟨qE, qL HB⟩
    rw [if_neg c61] at H
    have c61b0 : (a0_8 == 0) = false := beq_eq_false_iff_ne.mpr c61
    have c61b1 : (a0_8 != 0) = true := bne_iff_ne.mpr c61
    by_cases c65 : a0_11 < 8
    · rw [if_pos c65] at H
      have c65b0 : decide (a0_11 < 8) = true := decide_eq_true c65
      clear c65
      obtain rfl := Option.some.inj H
      obtain ⟨hcz66_0, hcz66_1, hcz66_2, hcz66_3, hcz66_4, hcz66_5, hcz66_6, hcz66_7, hcz66_8, hcz66_9, hcz66_10, hcz66_11⟩ := cz12 BK275.out
      obtain ⟨hfz66_0, hfz66_1, hfz66_2, hfz66_3, hfz66_4, hfz66_5, hfz66_6, hfz66_7, hfz66_8, hfz66_9, hfz66_10, hfz66_11⟩ := fz12 BK275.out
      go_wp2
      go_ret
      exact ⟨qE, qL HB⟩
    rw [if_neg c65] at H
    have c65b0 : decide (a0_11 < 8) = false := decide_eq_false c65
    clear c65
    obtain rfl := Option.some.inj H
    obtain ⟨hcz67_0, hcz67_1, hcz67_2, hcz67_3, hcz67_4, hcz67_5, hcz67_6, hcz67_7, hcz67_8, hcz67_9, hcz67_10, hcz67_11⟩ := cz12 BK275.out
    obtain ⟨hfz67_0, hfz67_1, hfz67_2, hfz67_3, hfz67_4, hfz67_5, hfz67_6, hfz67_7, hfz67_8, hfz67_9, hfz67_10, hfz67_11⟩ := fz12 BK275.out
    go_wp2
    go_ret
    exact ⟨qE, qL HB⟩

/-! ### spec_l6Within: function 87 -/
def spec_l6Within.f (a0 : Int) (a1 : Int) : Option (Int) := (spec_l3More.f a0 (wrap64 (-a1))).bind fun t284 => ((spec_l3Less.f t284 a1).bind fun t285 => (some t285))
set_option maxHeartbeats 8000000 in
set_option maxRecDepth 100000 in
theorem spec_l6Within.calls (a0 : Int) (a1 : Int) (r : Int) (w : World) (h : spec_l6Within.f a0 a1 = some r) :
    Calls Try.prog 87 #[.int .i64 a0, .int .i64 a1] w fun e w' => e = .returned (.int .i64 r) ∧ Drawn0 w w' := by
  have H : ((spec_l3More.f a0 (wrap64 (-a1))).bind fun t284 => ((spec_l3Less.f t284 a1).bind fun t285 => (some t285))) = some r := h
  clear h
  replace H := qH H
  obtain ⟨t284, A3, H⟩ := H
  try dsimp only at H
  replace H := qH H
  obtain ⟨t285, A4, H⟩ := H
  try dsimp only at H
  obtain rfl := Option.some.inj H
  go_enter Try.func87, Try.ntmps87
  go_wp2_with (first | ((with_reducible refine gate_callee (f := 45) rfl ?_); refine gl (some 8) Try.func45 #[.int .i64 a0, .int .i64 (wrap64 (-a1))] ?_; (with_reducible refine (spec_l3More.calls a0 (wrap64 (-a1)) t284 _ A3.out).mono ?_); rintro e w' ⟨rfl, ⟨nd, rfl⟩⟩; refine ⟨_, rfl, ?_⟩) | ((with_reducible refine gate_callee (f := 44) rfl ?_); refine gl (some 10) Try.func44 #[.int .i64 t284, .int .i64 a1] ?_; (with_reducible refine (spec_l3Less.calls t284 a1 t285 _ A4.out).mono ?_); rintro e w' ⟨rfl, ⟨nd, rfl⟩⟩; refine ⟨_, rfl, ?_⟩))
  go_ret
  exact ⟨by first | rfl | (simp; done) | (simp [*]; done), by repeat (first | exact Drawn0.refl _ | apply Drawn0.step)⟩

/-! ### spec_l6Push: function 50 -/
def spec_l6Push.f (a0_0 : Int) (a0_1 : Int) (a0_2 : Int) (a0_3 : Int) (a0_4 : Int) (a0_5 : Int) (a0_6 : Int) (a0_7 : Int) (a0_8 : Int) (a0_9 : Int) (a0_10 : Int) (a0_11 : Int) (a1_0 : Int) (a1_1 : Int) : Option (Int × Int × Int × Int × Int × Int × Int × Int × Int × Int × Int × Int) := if a0_8 = 0 then (some (a0_0, a0_1, a0_2, a0_3, a0_4, a0_5, a0_6, a0_7, a0_8, a0_9, a0_10, a0_11)) else ((spec_l6Within.f (wrap64 (a0_6 + a1_0)) 20000000).bind fun t289 => ((spec_l6Within.f (wrap64 (a0_7 + a1_1)) 20000000).bind fun t290 => (some (a0_0, a0_1, a0_2, a0_3, a0_4, a0_5, t289, t290, a0_8, a0_9, a0_10, 0))))
def spec_l6Push.T3 : Bool × List (List Nat × List Nat) := (true, [([], []), ([0], [0]), ([1], [1]), ([], []), ([3], [3]), ([2, 4], [2, 4]), ([5], [5]), ([], []), ([7], [7]), ([8], [8]), ([], []), ([10], [10]), ([9, 11], [9, 11]), ([12, 6], [12]), ([6, 13], [6, 13]), ([0, 1, 2, 3, 4, 5, 6, 7, 8, 9, 10, 11, 12, 13, 14], []), ([15, 14, 13, 0, 1, 2, 3, 4, 5, 6, 7, 8, 9, 10, 11, 12, 13, 14], [14, 15])])
def spec_l6Push.B3 : List Nat := [0, 1, 3, 0, 8, 31, 63, 0, 128, 384, 0, 1024, 3968, 8191, 16383, 32767, 65535]
theorem spec_l6Push.tab3 : rtab .any (opsOf Try.f50 3) = spec_l6Push.T3 := by kernel_rfl
theorem spec_l6Push.bits3 : waitsOk spec_l6Push.T3.2 spec_l6Push.B3 = true := by kernel_rfl
set_option maxHeartbeats 8000000 in
set_option maxRecDepth 100000 in
theorem spec_l6Push.calls (a0_0 : Int) (a0_1 : Int) (a0_2 : Int) (a0_3 : Int) (a0_4 : Int) (a0_5 : Int) (a0_6 : Int) (a0_7 : Int) (a0_8 : Int) (a0_9 : Int) (a0_10 : Int) (a0_11 : Int) (a1_0 : Int) (a1_1 : Int) (r1 : Int) (r2 : Int) (r3 : Int) (r4 : Int) (r5 : Int) (r6 : Int) (r7 : Int) (r8 : Int) (r9 : Int) (r10 : Int) (r11 : Int) (r12 : Int) (w : World) (h : spec_l6Push.f a0_0 a0_1 a0_2 a0_3 a0_4 a0_5 a0_6 a0_7 a0_8 a0_9 a0_10 a0_11 a1_0 a1_1 = some (r1, r2, r3, r4, r5, r6, r7, r8, r9, r10, r11, r12)) :
    Calls Try.prog 50 #[.agg #[.int .i64 a0_0, .int .i64 a0_1, .int .i64 a0_2, .int .i64 a0_3, .int .i64 a0_4, .int .i64 a0_5, .int .i64 a0_6, .int .i64 a0_7, .int .i64 a0_8, .int .i64 a0_9, .int .i64 a0_10, .int .i64 a0_11], .agg #[.int .i64 a1_0, .int .i64 a1_1]] w fun e w' => e = .returned (.agg #[.int .i64 r1, .int .i64 r2, .int .i64 r3, .int .i64 r4, .int .i64 r5, .int .i64 r6, .int .i64 r7, .int .i64 r8, .int .i64 r9, .int .i64 r10, .int .i64 r11, .int .i64 r12]) ∧ Below w.heap.size w w' := by
  have hu40 := Try.underlying40
  have hu24 := Try.underlying24
  have HB := az (Below.refl w.heap.size w)
  have H : (if a0_8 = 0 then (some (a0_0, a0_1, a0_2, a0_3, a0_4, a0_5, a0_6, a0_7, a0_8, a0_9, a0_10, a0_11)) else ((spec_l6Within.f (wrap64 (a0_6 + a1_0)) 20000000).bind fun t289 => ((spec_l6Within.f (wrap64 (a0_7 + a1_1)) 20000000).bind fun t290 => (some (a0_0, a0_1, a0_2, a0_3, a0_4, a0_5, t289, t290, a0_8, a0_9, a0_10, 0))))) = some (r1, r2, r3, r4, r5, r6, r7, r8, r9, r10, r11, r12) := h
  clear h
  by_cases c3 : a0_8 = 0
  · rw [if_pos c3] at H
    have c3b0 : (a0_8 == 0) = true := beq_iff_eq.mpr c3
    have c3b1 : (a0_8 != 0) = false := bne_eq_false_iff_eq.mpr c3
    clear c3
    simp only [Option.some.injEq, Prod.mk.injEq] at H
    obtain ⟨rfl, rfl, rfl, rfl, rfl, rfl, rfl, rfl, rfl, rfl, rfl, rfl⟩ := H
    go_enter Try.func50, Try.ntmps50
    go_wp2_with (first | ((with_reducible refine gate_dst (N := 2) rfl ?_); refine bx (N := 2) (cs := #[.int .i64 a0_0, .int .i64 a0_1, .int .i64 a0_2, .int .i64 a0_3, .int .i64 a0_4, .int .i64 a0_5, .int .i64 a0_6, .int .i64 a0_7, .int .i64 a0_8, .int .i64 a0_9, .int .i64 a0_10, .int .i64 a0_11]) (t := 40) ?_; intro gb286 hg w4 hbox hb; have BK286 := az hbox; have GW286 := az ((gE hg (qL HB) : w.heap.size ≤ gb286)); have GE286 := GW286; replace HB := bS HB hb; clear hb hbox hg) | ((with_reducible refine gate_dst (N := 3) rfl ?_); refine bx (N := 3) (cs := #[.int .i64 a1_0, .int .i64 a1_1]) (t := 24) ?_; intro gb287 hg w5 hbox hb; have BK287 := az hbox; have GW287 := az ((gE hg (qL HB) : w.heap.size ≤ gb287)); have GE287 := GW287; obtain ⟨NB286_287, NB287_286⟩ := nPB BK286 hg; replace BK286 := kBB BK286 hb; replace HB := bS HB hb; clear hb hbox hg) | ((with_reducible refine gate_dst (N := 4) rfl ?_); refine bx (N := 4) (cs := #[.int .i64 0, .int .i64 0, .int .i64 0, .int .i64 0, .int .i64 0, .int .i64 0, .int .i64 0, .int .i64 0, .int .i64 0, .int .i64 0, .int .i64 0, .int .i64 0]) (t := 40) ?_; intro gb288 hg w6 hbox hb; have BK288 := az hbox; have GW288 := az ((gE hg (qL HB) : w.heap.size ≤ gb288)); have GE288 := GW288; obtain ⟨NB286_288, NB288_286⟩ := nPB BK286 hg; obtain ⟨NB287_288, NB288_287⟩ := nPB BK287 hg; replace BK286 := kBB BK286 hb; replace BK287 := kBB BK287 hb; replace HB := bS HB hb; clear hb hbox hg; have hnb7 := NB286_287.out; have hnc7 := NB287_286.out; have hnb8 := NB286_288.out; have hnc8 := NB288_286.out; obtain ⟨hcz9_0, hcz9_1, hcz9_2, hcz9_3, hcz9_4, hcz9_5, hcz9_6, hcz9_7, hcz9_8, hcz9_9, hcz9_10, hcz9_11⟩ := cz12 BK286.out; obtain ⟨hfz9_0, hfz9_1, hfz9_2, hfz9_3, hfz9_4, hfz9_5, hfz9_6, hfz9_7, hfz9_8, hfz9_9, hfz9_10, hfz9_11⟩ := fz12 BK286.out; have hnb10 := NB288_287.out; have hnc10 := NB287_288.out; obtain ⟨hcz11_0, hcz11_1, hcz11_2, hcz11_3, hcz11_4, hcz11_5, hcz11_6, hcz11_7, hcz11_8, hcz11_9, hcz11_10, hcz11_11⟩ := cz12 BK288.out; obtain ⟨hfz11_0, hfz11_1, hfz11_2, hfz11_3, hfz11_4, hfz11_5, hfz11_6, hfz11_7, hfz11_8, hfz11_9, hfz11_10, hfz11_11⟩ := fz12 BK288.out))
    refine bodyPost_ret (results_cell_row rfl _ _ gb288 40 #[.int .i64 a0_0, .int .i64 a0_1, .int .i64 a0_2, .int .i64 a0_3, .int .i64 a0_4, .int .i64 a0_5, .int .i64 a0_6, .int .i64 a0_7, .int .i64 a0_8, .int .i64 a0_9, .int .i64 a0_10, .int .i64 a0_11] (0, 0) _ rfl (qP BK288) Try.underlying40 rfl (by kernel_rfl)) rfl ?_
    exact ⟨qE, qL HB⟩
  rw [if_neg c3] at H
  have c3b0 : (a0_8 == 0) = false := beq_eq_false_iff_ne.mpr c3
  have c3b1 : (a0_8 != 0) = true := bne_iff_ne.mpr c3
  replace H := qH H
  obtain ⟨t289, A12, H⟩ := H
  try dsimp only at H
  replace H := qH H
  obtain ⟨t290, A13, H⟩ := H
  try dsimp only at H
  simp only [Option.some.injEq, Prod.mk.injEq] at H
  obtain ⟨rfl, rfl, rfl, rfl, rfl, rfl, rfl, rfl, rfl, rfl, rfl, rfl⟩ := H
  go_enter Try.func50, Try.ntmps50
  try go_wp2_with (first | ((with_reducible refine gate_dst (N := 2) rfl ?_); refine bx (N := 2) (cs := #[.int .i64 a0_0, .int .i64 a0_1, .int .i64 a0_2, .int .i64 a0_3, .int .i64 a0_4, .int .i64 a0_5, .int .i64 a0_6, .int .i64 a0_7, .int .i64 a0_8, .int .i64 a0_9, .int .i64 a0_10, .int .i64 a0_11]) (t := 40) ?_; intro gb286 hg w14 hbox hb; have BK286 := az hbox; have GW286 := az ((gE hg (qL HB) : w.heap.size ≤ gb286)); have GE286 := GW286; replace HB := bS HB hb; clear hb hbox hg) | ((with_reducible refine gate_dst (N := 3) rfl ?_); refine bx (N := 3) (cs := #[.int .i64 a1_0, .int .i64 a1_1]) (t := 24) ?_; intro gb287 hg w15 hbox hb; have BK287 := az hbox; have GW287 := az ((gE hg (qL HB) : w.heap.size ≤ gb287)); have GE287 := GW287; obtain ⟨NB286_287, NB287_286⟩ := nPB BK286 hg; replace BK286 := kBB BK286 hb; replace HB := bS HB hb; clear hb hbox hg) | ((with_reducible refine gate_dst (N := 4) rfl ?_); refine bx (N := 4) (cs := #[.int .i64 0, .int .i64 0, .int .i64 0, .int .i64 0, .int .i64 0, .int .i64 0, .int .i64 0, .int .i64 0, .int .i64 0, .int .i64 0, .int .i64 0, .int .i64 0]) (t := 40) ?_; intro gb288 hg w16 hbox hb; have BK288 := az hbox; have GW288 := az ((gE hg (qL HB) : w.heap.size ≤ gb288)); have GE288 := GW288; obtain ⟨NB286_288, NB288_286⟩ := nPB BK286 hg; obtain ⟨NB287_288, NB288_287⟩ := nPB BK287 hg; replace BK286 := kBB BK286 hb; replace BK287 := kBB BK287 hb; replace HB := bS HB hb; clear hb hbox hg; have hnb17 := NB286_287.out; have hnc17 := NB287_286.out; have hnb18 := NB286_288.out; have hnc18 := NB288_286.out; obtain ⟨hcz19_0, hcz19_1, hcz19_2, hcz19_3, hcz19_4, hcz19_5, hcz19_6, hcz19_7, hcz19_8, hcz19_9, hcz19_10, hcz19_11⟩ := cz12 BK286.out; obtain ⟨hfz19_0, hfz19_1, hfz19_2, hfz19_3, hfz19_4, hfz19_5, hfz19_6, hfz19_7, hfz19_8, hfz19_9, hfz19_10, hfz19_11⟩ := fz12 BK286.out))
  replace BK286 := az (blk_drew BK286.out)
  replace BK287 := az (blk_drew BK287.out)
  replace BK288 := az (blk_drew BK288.out)
  replace HB := az (below_drew1 HB.out)
  refine start_ (n := 17) (S := fun w' => w'.cell? ⟨gb286, 0, none⟩ = some (.int .i64 a0_0) ∧ w'.cell? ⟨gb286, 1, none⟩ = some (.int .i64 a0_1) ∧ w'.cell? ⟨gb286, 2, none⟩ = some (.int .i64 a0_2) ∧ w'.cell? ⟨gb286, 3, none⟩ = some (.int .i64 a0_3) ∧ w'.cell? ⟨gb286, 4, none⟩ = some (.int .i64 a0_4) ∧ w'.cell? ⟨gb286, 5, none⟩ = some (.int .i64 a0_5) ∧ w'.cell? ⟨gb286, 6, none⟩ = some (.int .i64 a0_6) ∧ w'.cell? ⟨gb286, 7, none⟩ = some (.int .i64 a0_7) ∧ w'.cell? ⟨gb286, 8, none⟩ = some (.int .i64 a0_8) ∧ w'.cell? ⟨gb286, 9, none⟩ = some (.int .i64 a0_9) ∧ w'.cell? ⟨gb286, 10, none⟩ = some (.int .i64 a0_10) ∧ w'.cell? ⟨gb286, 11, none⟩ = some (.int .i64 a0_11) ∧ w'.cell? ⟨gb287, 0, none⟩ = some (.int .i64 a1_0) ∧ w'.cell? ⟨gb287, 1, none⟩ = some (.int .i64 a1_1)) (ds := [16]) #[false, false, false, false, false, false, false, false, false, false, false, false, false, false, false, false, false] (by kernel_rfl) rfl rfl ⟨bc BK286 0, bc BK286 1, bc BK286 2, bc BK286 3, bc BK286 4, bc BK286 5, bc BK286 6, bc BK286 7, bc BK286 8, bc BK286 9, bc BK286 10, bc BK286 11, bc BK287 0, bc BK287 1⟩ (fun hHeld => ?_); refine with_tabW spec_l6Push.tab3 spec_l6Push.bits3 (fun HT_ HW_ => ?_)
  generalize w16.drew = w20 at BK286 BK287 BK288 HB hHeld ⊢
  refine pu 0 (some 9) (fl 17 1) HT_ ?_
  refine pu 1 (some 10) (fl 17 3) HT_ ?_
  refine pu 3 (some 12) (fl 17 11) HT_ ?_
  refine pu 7 (some 16) (fl 17 139) HT_ ?_
  refine pu 8 (some 17) (fl 17 395) HT_ ?_
  refine pu 10 (some 19) (fl 17 1419) HT_ ?_
  refine tk14 2 (some 11) (fl 17 1423) HT_ HW_ hHeld ?_
  refine tk14 4 (some 13) (fl 17 1439) HT_ HW_ hHeld ?_
  refine pu 5 (some 14) (fl 17 1471) HT_ ?_
  refine tk14 9 (some 18) (fl 17 1983) HT_ HW_ hHeld ?_
  refine tk14 11 (some 20) (fl 17 4031) HT_ HW_ hHeld ?_
  refine pu 12 (some 21) (fl 17 8127) HT_ ?_
  refine on 6 (some 15) (fl 17 8191) HT_ (fun K hK => ?_)
  refine go1 Try.func87 #[.int .i64 (wrap64 (a0_6 + a1_0)), .int .i64 20000000] ?_
  with_reducible refine (spec_l6Within.calls (wrap64 (a0_6 + a1_0)) 20000000 t289 _ A12.out).mono ?_
  rintro e w' ⟨rfl, ⟨nd, rfl⟩⟩
  refine ⟨_, rfl, ?_⟩
  refine hK.out _ _ ⟨bc BK286 0, bc BK286 1, bc BK286 2, bc BK286 3, bc BK286 4, bc BK286 5, bc BK286 6, bc BK286 7, bc BK286 8, bc BK286 9, bc BK286 10, bc BK286 11, bc BK287 0, bc BK287 1⟩ (fun hHeld => ?_)
  clear hK K
  refine nm (some 15) ?_
  refine on 13 (some 22) (fl 17 16383) HT_ (fun K hK => ?_)
  refine go1 Try.func87 #[.int .i64 (wrap64 (a0_7 + a1_1)), .int .i64 20000000] ?_
  with_reducible refine (spec_l6Within.calls (wrap64 (a0_7 + a1_1)) 20000000 t290 _ A13.out).mono ?_
  rintro e w' ⟨rfl, ⟨nd, rfl⟩⟩
  refine ⟨_, rfl, ?_⟩
  refine hK.out _ _ ⟨bc BK286 0, bc BK286 1, bc BK286 2, bc BK286 3, bc BK286 4, bc BK286 5, bc BK286 6, bc BK286 7, bc BK286 8, bc BK286 9, bc BK286 10, bc BK286 11, bc BK287 0, bc BK287 1⟩ (fun hHeld => ?_)
  clear hK K
  refine nm (some 22) ?_
  refine pu 14 (some 23) (fl 17 32767) HT_ ?_
  refine pu 15 (some 24) (fl 17 65535) HT_ ?_
  refine last_ (i := 16) (N := none) (fl 17 131071) rfl rfl (one_of HT_.out (by kernel_rfl)) (by decide) (fun K hK => ?_)
  have hs21 : w20.cell? ⟨gb286, 6, none⟩ = some (.int .i64 a0_6) := bc BK286 6
  have hfs21 := blk_frozen BK286.out 6
  have hns21_1 := NB287_286.out
  have hns21_2 := NB288_286.out
  have hms21_1 := NB286_287.out
  have hms21_2 := NB286_288.out
  have hs22 : w20.cell? ⟨gb286, 7, none⟩ = some (.int .i64 a0_7) := bc BK286 7
  have hfs22 := blk_frozen BK286.out 7
  have hns22_1 := NB287_286.out
  have hns22_2 := NB288_286.out
  have hms22_1 := NB286_287.out
  have hms22_2 := NB286_288.out
  refine skip_ (w1 := ?_) ?hw ?hn ?_ ?_; (case hw => unfold Region.wanted; rfl); (case hn => rfl)
  rotate_left
  · go_simp
    rfl
  refine hK.out _ _ ?_
  clear hK K
  refine done_ (done_of HT_.out (by kernel_rfl)) ?_
  obtain ⟨hcz23_0, hcz23_1, hcz23_2, hcz23_3, hcz23_4, hcz23_5, hcz23_6, hcz23_7, hcz23_8, hcz23_9, hcz23_10, hcz23_11⟩ := cz12 BK286.out
  obtain ⟨hfz23_0, hfz23_1, hfz23_2, hfz23_3, hfz23_4, hfz23_5, hfz23_6, hfz23_7, hfz23_8, hfz23_9, hfz23_10, hfz23_11⟩ := fz12 BK286.out
  have hnb24 := NB288_287.out
  have hnc24 := NB287_288.out
  obtain ⟨hcz25_0, hcz25_1, hcz25_2, hcz25_3, hcz25_4, hcz25_5, hcz25_6, hcz25_7, hcz25_8, hcz25_9, hcz25_10, hcz25_11⟩ := cz12 BK288.out
  obtain ⟨hfz25_0, hfz25_1, hfz25_2, hfz25_3, hfz25_4, hfz25_5, hfz25_6, hfz25_7, hfz25_8, hfz25_9, hfz25_10, hfz25_11⟩ := fz12 BK288.out
  try go_wp2
  refine bodyPost_ret (results_cell_row rfl _ _ gb288 40 #[.int .i64 a0_0, .int .i64 a0_1, .int .i64 a0_2, .int .i64 a0_3, .int .i64 a0_4, .int .i64 a0_5, .int .i64 t289, .int .i64 t290, .int .i64 a0_8, .int .i64 a0_9, .int .i64 a0_10, .int .i64 0] (0, 0) _ rfl (qP BK288) Try.underlying40 rfl (by kernel_rfl)) rfl ?_
  exact ⟨qE, qL HB⟩

/-! ### spec_BodyPush: function 18 -/
def spec_BodyPush.f (k : Nat) (a0_0 : Int) (a0_1 : Int) (a0_2 : Int) (a0_3 : Int) (a0_4 : Int) (a0_5 : Int) (a0_6 : Int) (a0_7 : Int) (a0_8 : Int) (a0_9 : Int) (a0_10 : Int) (a0_11 : Int) (a1_0 : Int) (a1_1 : Int) : Option (Int × Int × Int × Int × Int × Int × Int × Int × Int × Int × Int × Int) := (spec_BodyOk.f k a0_0 a0_1 a0_2 a0_3 a0_4 a0_5 a0_6 a0_7 a0_8 a0_9 a0_10 a0_11).bind fun t294 => (if t294 = true then ((spec_l6Drive.f a1_0 a1_1).bind fun t295 => (if t295 = true then ((spec_l6Push.f a0_0 a0_1 a0_2 a0_3 a0_4 a0_5 a0_6 a0_7 a0_8 a0_9 a0_10 a0_11 a1_0 a1_1).bind fun bt296 => (some (bt296.1, bt296.2.1, bt296.2.2.1, bt296.2.2.2.1, bt296.2.2.2.2.1, bt296.2.2.2.2.2.1, bt296.2.2.2.2.2.2.1, bt296.2.2.2.2.2.2.2.1, bt296.2.2.2.2.2.2.2.2.1, bt296.2.2.2.2.2.2.2.2.2.1, bt296.2.2.2.2.2.2.2.2.2.2.1, bt296.2.2.2.2.2.2.2.2.2.2.2))) else (some (0, 0, 0, 0, 0, 0, 0, 0, 0, 0, 0, 0)))) else (some (0, 0, 0, 0, 0, 0, 0, 0, 0, 0, 0, 0)))
theorem spec_BodyPush.mono : ∀ a0 a1 a2 a3 a4 a5 a6 a7 a8 a9 a10 a11 a12 a13 k, LeO (spec_BodyPush.f k a0 a1 a2 a3 a4 a5 a6 a7 a8 a9 a10 a11 a12 a13) (spec_BodyPush.f (k + 1) a0 a1 a2 a3 a4 a5 a6 a7 a8 a9 a10 a11 a12 a13) := by
  intro a0 a1 a2 a3 a4 a5 a6 a7 a8 a9 a10 a11 a12 a13 k
  unfold spec_BodyPush.f
  repeat' first
      | (with_reducible exact spec_BodyOk.mono _ _ _ _ _ _ _ _ _ _ _ _ _)
      | (with_reducible exact LeO.refl _)
      | (with_reducible exact LeO.none _)
      | (with_reducible refine LeO.ite ?_ ?_)
      | (with_reducible refine LeO.bind ?_ (fun _ => ?_))
set_option maxHeartbeats 8000000 in
set_option maxRecDepth 100000 in
theorem spec_BodyPush.calls (k : Nat) (a0_0 : Int) (a0_1 : Int) (a0_2 : Int) (a0_3 : Int) (a0_4 : Int) (a0_5 : Int) (a0_6 : Int) (a0_7 : Int) (a0_8 : Int) (a0_9 : Int) (a0_10 : Int) (a0_11 : Int) (a1_0 : Int) (a1_1 : Int) (r1 : Int) (r2 : Int) (r3 : Int) (r4 : Int) (r5 : Int) (r6 : Int) (r7 : Int) (r8 : Int) (r9 : Int) (r10 : Int) (r11 : Int) (r12 : Int) (w : World) (h : spec_BodyPush.f k a0_0 a0_1 a0_2 a0_3 a0_4 a0_5 a0_6 a0_7 a0_8 a0_9 a0_10 a0_11 a1_0 a1_1 = some (r1, r2, r3, r4, r5, r6, r7, r8, r9, r10, r11, r12)) :
    Calls Try.prog 18 #[.agg #[.int .i64 a0_0, .int .i64 a0_1, .int .i64 a0_2, .int .i64 a0_3, .int .i64 a0_4, .int .i64 a0_5, .int .i64 a0_6, .int .i64 a0_7, .int .i64 a0_8, .int .i64 a0_9, .int .i64 a0_10, .int .i64 a0_11], .agg #[.int .i64 a1_0, .int .i64 a1_1]] w fun e w' => e = .returned (.agg #[.int .i64 r1, .int .i64 r2, .int .i64 r3, .int .i64 r4, .int .i64 r5, .int .i64 r6, .int .i64 r7, .int .i64 r8, .int .i64 r9, .int .i64 r10, .int .i64 r11, .int .i64 r12]) ∧ Below w.heap.size w w' := by
  have hu40 := Try.underlying40
  have hu24 := Try.underlying24
  have HB := az (Below.refl w.heap.size w)
  have H : ((spec_BodyOk.f k a0_0 a0_1 a0_2 a0_3 a0_4 a0_5 a0_6 a0_7 a0_8 a0_9 a0_10 a0_11).bind fun t294 => (if t294 = true then ((spec_l6Drive.f a1_0 a1_1).bind fun t295 => (if t295 = true then ((spec_l6Push.f a0_0 a0_1 a0_2 a0_3 a0_4 a0_5 a0_6 a0_7 a0_8 a0_9 a0_10 a0_11 a1_0 a1_1).bind fun bt296 => (some (bt296.1, bt296.2.1, bt296.2.2.1, bt296.2.2.2.1, bt296.2.2.2.2.1, bt296.2.2.2.2.2.1, bt296.2.2.2.2.2.2.1, bt296.2.2.2.2.2.2.2.1, bt296.2.2.2.2.2.2.2.2.1, bt296.2.2.2.2.2.2.2.2.2.1, bt296.2.2.2.2.2.2.2.2.2.2.1, bt296.2.2.2.2.2.2.2.2.2.2.2))) else (some (0, 0, 0, 0, 0, 0, 0, 0, 0, 0, 0, 0)))) else (some (0, 0, 0, 0, 0, 0, 0, 0, 0, 0, 0, 0)))) = some (r1, r2, r3, r4, r5, r6, r7, r8, r9, r10, r11, r12) := h
  clear h
  replace H := qH H
  obtain ⟨t294, A3, H⟩ := H
  try dsimp only at H
  by_cases c4 : t294 = true
  · subst c4
    replace H := qT H
    replace H := qH H
    obtain ⟨t295, A5, H⟩ := H
    try dsimp only at H
    by_cases c6 : t295 = true
    · subst c6
      replace H := qT H
      replace H := qH H
      obtain ⟨⟨t296, t297, t298, t299, t300, t301, t302, t303, t304, t305, t306, t307⟩, A7, H⟩ := H
      try dsimp only at H
      simp only [Option.some.injEq, Prod.mk.injEq] at H
      obtain ⟨rfl, rfl, rfl, rfl, rfl, rfl, rfl, rfl, rfl, rfl, rfl, rfl⟩ := H
      go_enter Try.func18, Try.ntmps18
      go_wp2_with (first | ((with_reducible refine gate_dst (N := 2) rfl ?_); refine bx (N := 2) (cs := #[.int .i64 a0_0, .int .i64 a0_1, .int .i64 a0_2, .int .i64 a0_3, .int .i64 a0_4, .int .i64 a0_5, .int .i64 a0_6, .int .i64 a0_7, .int .i64 a0_8, .int .i64 a0_9, .int .i64 a0_10, .int .i64 a0_11]) (t := 40) ?_; intro gb291 hg w8 hbox hb; have BK291 := az hbox; have GW291 := az ((gE hg (qL HB) : w.heap.size ≤ gb291)); have GE291 := GW291; replace HB := bS HB hb; clear hb hbox hg) | ((with_reducible refine gate_dst (N := 3) rfl ?_); refine bx (N := 3) (cs := #[.int .i64 a1_0, .int .i64 a1_1]) (t := 24) ?_; intro gb292 hg w9 hbox hb; have BK292 := az hbox; have GW292 := az ((gE hg (qL HB) : w.heap.size ≤ gb292)); have GE292 := GW292; obtain ⟨NB291_292, NB292_291⟩ := nPB BK291 hg; replace BK291 := kBB BK291 hb; replace HB := bS HB hb; clear hb hbox hg) | ((with_reducible refine gate_dst (N := 4) rfl ?_); refine bx (N := 4) (cs := #[.int .i64 0, .int .i64 0, .int .i64 0, .int .i64 0, .int .i64 0, .int .i64 0, .int .i64 0, .int .i64 0, .int .i64 0, .int .i64 0, .int .i64 0, .int .i64 0]) (t := 40) ?_; intro gb293 hg w10 hbox hb; have BK293 := az hbox; have GW293 := az ((gE hg (qL HB) : w.heap.size ≤ gb293)); have GE293 := GW293; obtain ⟨NB291_293, NB293_291⟩ := nPB BK291 hg; obtain ⟨NB292_293, NB293_292⟩ := nPB BK292 hg; replace BK291 := kBB BK291 hb; replace BK292 := kBB BK292 hb; replace HB := bS HB hb; clear hb hbox hg; have hnb11 := NB291_292.out; have hnc11 := NB292_291.out; have hnb12 := NB291_293.out; have hnc12 := NB293_291.out; obtain ⟨hcz13_0, hcz13_1, hcz13_2, hcz13_3, hcz13_4, hcz13_5, hcz13_6, hcz13_7, hcz13_8, hcz13_9, hcz13_10, hcz13_11⟩ := cz12 BK291.out; obtain ⟨hfz13_0, hfz13_1, hfz13_2, hfz13_3, hfz13_4, hfz13_5, hfz13_6, hfz13_7, hfz13_8, hfz13_9, hfz13_10, hfz13_11⟩ := fz12 BK291.out) | ((with_reducible refine gate_callee (f := 26) rfl ?_); refine gl (some 6) Try.func26 #[.agg #[.int .i64 a0_0, .int .i64 a0_1, .int .i64 a0_2, .int .i64 a0_3, .int .i64 a0_4, .int .i64 a0_5, .int .i64 a0_6, .int .i64 a0_7, .int .i64 a0_8, .int .i64 a0_9, .int .i64 a0_10, .int .i64 a0_11]] ?_; (with_reducible refine (spec_BodyOk.calls k a0_0 a0_1 a0_2 a0_3 a0_4 a0_5 a0_6 a0_7 a0_8 a0_9 a0_10 a0_11 true _ A3.out).mono ?_); rintro e w14 ⟨rfl, hb⟩; refine ⟨_, rfl, ?_⟩; replace BK291 := kBB BK291 hb; replace BK292 := kBB BK292 hb; replace BK293 := kBB BK293 hb; replace HB := bS HB hb; clear hb; have hnb15 := NB292_293.out; have hnc15 := NB293_292.out; obtain ⟨hcz16_0, hcz16_1⟩ := cz2 BK292.out; have hfz16_0 := blk_frozen BK292.out 0; have hfz16_1 := blk_frozen BK292.out 1) | (go_at_call 49; (with_reducible refine (spec_l6Drive.calls a1_0 a1_1 true _ A5.out).mono ?_); rintro e w17 ⟨rfl, hb⟩; replace BK291 := kBB BK291 hb; replace BK292 := kBB BK292 hb; replace BK293 := kBB BK293 hb; replace HB := bS HB hb; clear hb; obtain ⟨hcz18_0, hcz18_1, hcz18_2, hcz18_3, hcz18_4, hcz18_5, hcz18_6, hcz18_7, hcz18_8, hcz18_9, hcz18_10, hcz18_11⟩ := cz12 BK291.out; obtain ⟨hfz18_0, hfz18_1, hfz18_2, hfz18_3, hfz18_4, hfz18_5, hfz18_6, hfz18_7, hfz18_8, hfz18_9, hfz18_10, hfz18_11⟩ := fz12 BK291.out; obtain ⟨hcz19_0, hcz19_1⟩ := cz2 BK292.out; have hfz19_0 := blk_frozen BK292.out 0; have hfz19_1 := blk_frozen BK292.out 1) | ((with_reducible refine gate_callee (f := 50) rfl ?_); refine gl (some 16) Try.func50 #[.agg #[.int .i64 a0_0, .int .i64 a0_1, .int .i64 a0_2, .int .i64 a0_3, .int .i64 a0_4, .int .i64 a0_5, .int .i64 a0_6, .int .i64 a0_7, .int .i64 a0_8, .int .i64 a0_9, .int .i64 a0_10, .int .i64 a0_11], .agg #[.int .i64 a1_0, .int .i64 a1_1]] ?_; (with_reducible refine (spec_l6Push.calls a0_0 a0_1 a0_2 a0_3 a0_4 a0_5 a0_6 a0_7 a0_8 a0_9 a0_10 a0_11 a1_0 a1_1 t296 t297 t298 t299 t300 t301 t302 t303 t304 t305 t306 t307 _ A7.out).mono ?_); rintro e w20 ⟨rfl, hb⟩; refine ⟨_, rfl, ?_⟩; replace BK291 := kBB BK291 hb; replace BK292 := kBB BK292 hb; replace BK293 := kBB BK293 hb; replace HB := bS HB hb; clear hb; obtain ⟨hcz21_0, hcz21_1, hcz21_2, hcz21_3, hcz21_4, hcz21_5, hcz21_6, hcz21_7, hcz21_8, hcz21_9, hcz21_10, hcz21_11⟩ := cz12 BK293.out; obtain ⟨hfz21_0, hfz21_1, hfz21_2, hfz21_3, hfz21_4, hfz21_5, hfz21_6, hfz21_7, hfz21_8, hfz21_9, hfz21_10, hfz21_11⟩ := fz12 BK293.out))
      refine bodyPost_ret (results_cell_row rfl _ _ gb293 40 #[.int .i64 t296, .int .i64 t297, .int .i64 t298, .int .i64 t299, .int .i64 t300, .int .i64 t301, .int .i64 t302, .int .i64 t303, .int .i64 t304, .int .i64 t305, .int .i64 t306, .int .i64 t307] (0, 0) _ rfl (qP BK293) Try.underlying40 rfl (by kernel_rfl)) rfl ?_
      exact ⟨qE, qL HB⟩
    replace c6 := Bool.eq_false_iff.mpr c6
    subst c6
    replace H := qU H
    simp only [Option.some.injEq, Prod.mk.injEq] at H
    obtain ⟨rfl, rfl, rfl, rfl, rfl, rfl, rfl, rfl, rfl, rfl, rfl, rfl⟩ := H
    go_enter Try.func18, Try.ntmps18
    go_wp2_with (first | ((with_reducible refine gate_dst (N := 2) rfl ?_); refine bx (N := 2) (cs := #[.int .i64 a0_0, .int .i64 a0_1, .int .i64 a0_2, .int .i64 a0_3, .int .i64 a0_4, .int .i64 a0_5, .int .i64 a0_6, .int .i64 a0_7, .int .i64 a0_8, .int .i64 a0_9, .int .i64 a0_10, .int .i64 a0_11]) (t := 40) ?_; intro gb291 hg w22 hbox hb; have BK291 := az hbox; have GW291 := az ((gE hg (qL HB) : w.heap.size ≤ gb291)); have GE291 := GW291; replace HB := bS HB hb; clear hb hbox hg) | ((with_reducible refine gate_dst (N := 3) rfl ?_); refine bx (N := 3) (cs := #[.int .i64 a1_0, .int .i64 a1_1]) (t := 24) ?_; intro gb292 hg w23 hbox hb; have BK292 := az hbox; have GW292 := az ((gE hg (qL HB) : w.heap.size ≤ gb292)); have GE292 := GW292; obtain ⟨NB291_292, NB292_291⟩ := nPB BK291 hg; replace BK291 := kBB BK291 hb; replace HB := bS HB hb; clear hb hbox hg) | ((with_reducible refine gate_dst (N := 4) rfl ?_); refine bx (N := 4) (cs := #[.int .i64 0, .int .i64 0, .int .i64 0, .int .i64 0, .int .i64 0, .int .i64 0, .int .i64 0, .int .i64 0, .int .i64 0, .int .i64 0, .int .i64 0, .int .i64 0]) (t := 40) ?_; intro gb293 hg w24 hbox hb; have BK293 := az hbox; have GW293 := az ((gE hg (qL HB) : w.heap.size ≤ gb293)); have GE293 := GW293; obtain ⟨NB291_293, NB293_291⟩ := nPB BK291 hg; obtain ⟨NB292_293, NB293_292⟩ := nPB BK292 hg; replace BK291 := kBB BK291 hb; replace BK292 := kBB BK292 hb; replace HB := bS HB hb; clear hb hbox hg; have hnb25 := NB291_292.out; have hnc25 := NB292_291.out; have hnb26 := NB291_293.out; have hnc26 := NB293_291.out; obtain ⟨hcz27_0, hcz27_1, hcz27_2, hcz27_3, hcz27_4, hcz27_5, hcz27_6, hcz27_7, hcz27_8, hcz27_9, hcz27_10, hcz27_11⟩ := cz12 BK291.out; obtain ⟨hfz27_0, hfz27_1, hfz27_2, hfz27_3, hfz27_4, hfz27_5, hfz27_6, hfz27_7, hfz27_8, hfz27_9, hfz27_10, hfz27_11⟩ := fz12 BK291.out) | ((with_reducible refine gate_callee (f := 26) rfl ?_); refine gl (some 6) Try.func26 #[.agg #[.int .i64 a0_0, .int .i64 a0_1, .int .i64 a0_2, .int .i64 a0_3, .int .i64 a0_4, .int .i64 a0_5, .int .i64 a0_6, .int .i64 a0_7, .int .i64 a0_8, .int .i64 a0_9, .int .i64 a0_10, .int .i64 a0_11]] ?_; (with_reducible refine (spec_BodyOk.calls k a0_0 a0_1 a0_2 a0_3 a0_4 a0_5 a0_6 a0_7 a0_8 a0_9 a0_10 a0_11 true _ A3.out).mono ?_); rintro e w28 ⟨rfl, hb⟩; refine ⟨_, rfl, ?_⟩; replace BK291 := kBB BK291 hb; replace BK292 := kBB BK292 hb; replace BK293 := kBB BK293 hb; replace HB := bS HB hb; clear hb; have hnb29 := NB292_293.out; have hnc29 := NB293_292.out; obtain ⟨hcz30_0, hcz30_1⟩ := cz2 BK292.out; have hfz30_0 := blk_frozen BK292.out 0; have hfz30_1 := blk_frozen BK292.out 1) | (go_at_call 49; (with_reducible refine (spec_l6Drive.calls a1_0 a1_1 false _ A5.out).mono ?_); rintro e w31 ⟨rfl, hb⟩; replace BK291 := kBB BK291 hb; replace BK292 := kBB BK292 hb; replace BK293 := kBB BK293 hb; replace HB := bS HB hb; clear hb; obtain ⟨hcz32_0, hcz32_1, hcz32_2, hcz32_3, hcz32_4, hcz32_5, hcz32_6, hcz32_7, hcz32_8, hcz32_9, hcz32_10, hcz32_11⟩ := cz12 BK293.out; obtain ⟨hfz32_0, hfz32_1, hfz32_2, hfz32_3, hfz32_4, hfz32_5, hfz32_6, hfz32_7, hfz32_8, hfz32_9, hfz32_10, hfz32_11⟩ := fz12 BK293.out))
    refine bodyPost_ret (results_cell_row rfl _ _ gb293 40 #[.int .i64 0, .int .i64 0, .int .i64 0, .int .i64 0, .int .i64 0, .int .i64 0, .int .i64 0, .int .i64 0, .int .i64 0, .int .i64 0, .int .i64 0, .int .i64 0] (0, 0) _ rfl (qP BK293) Try.underlying40 rfl (by kernel_rfl)) rfl ?_
    exact ⟨qE, qL HB⟩
  replace c4 := Bool.eq_false_iff.mpr c4
  subst c4
  replace H := qU H
  simp only [Option.some.injEq, Prod.mk.injEq] at H
  obtain ⟨rfl, rfl, rfl, rfl, rfl, rfl, rfl, rfl, rfl, rfl, rfl, rfl⟩ := H
  go_enter Try.func18, Try.ntmps18
  go_wp2_with (first | ((with_reducible refine gate_dst (N := 2) rfl ?_); refine bx (N := 2) (cs := #[.int .i64 a0_0, .int .i64 a0_1, .int .i64 a0_2, .int .i64 a0_3, .int .i64 a0_4, .int .i64 a0_5, .int .i64 a0_6, .int .i64 a0_7, .int .i64 a0_8, .int .i64 a0_9, .int .i64 a0_10, .int .i64 a0_11]) (t := 40) ?_; intro gb291 hg w33 hbox hb; have BK291 := az hbox; have GW291 := az ((gE hg (qL HB) : w.heap.size ≤ gb291)); have GE291 := GW291; replace HB := bS HB hb; clear hb hbox hg) | ((with_reducible refine gate_dst (N := 3) rfl ?_); refine bx (N := 3) (cs := #[.int .i64 a1_0, .int .i64 a1_1]) (t := 24) ?_; intro gb292 hg w34 hbox hb; have BK292 := az hbox; have GW292 := az ((gE hg (qL HB) : w.heap.size ≤ gb292)); have GE292 := GW292; obtain ⟨NB291_292, NB292_291⟩ := nPB BK291 hg; replace BK291 := kBB BK291 hb; replace HB := bS HB hb; clear hb hbox hg) | ((with_reducible refine gate_dst (N := 4) rfl ?_); refine bx (N := 4) (cs := #[.int .i64 0, .int .i64 0, .int .i64 0, .int .i64 0, .int .i64 0, .int .i64 0, .int .i64 0, .int .i64 0, .int .i64 0, .int .i64 0, .int .i64 0, .int .i64 0]) (t := 40) ?_; intro gb293 hg w35 hbox hb; have BK293 := az hbox; have GW293 := az ((gE hg (qL HB) : w.heap.size ≤ gb293)); have GE293 := GW293; obtain ⟨NB291_293, NB293_291⟩ := nPB BK291 hg; obtain ⟨NB292_293, NB293_292⟩ := nPB BK292 hg; replace BK291 := kBB BK291 hb; replace BK292 := kBB BK292 hb; replace HB := bS HB hb; clear hb hbox hg; have hnb36 := NB291_292.out; have hnc36 := NB292_291.out; have hnb37 := NB291_293.out; have hnc37 := NB293_291.out; obtain ⟨hcz38_0, hcz38_1, hcz38_2, hcz38_3, hcz38_4, hcz38_5, hcz38_6, hcz38_7, hcz38_8, hcz38_9, hcz38_10, hcz38_11⟩ := cz12 BK291.out; obtain ⟨hfz38_0, hfz38_1, hfz38_2, hfz38_3, hfz38_4, hfz38_5, hfz38_6, hfz38_7, hfz38_8, hfz38_9, hfz38_10, hfz38_11⟩ := fz12 BK291.out) | ((with_reducible refine gate_callee (f := 26) rfl ?_); refine gl (some 6) Try.func26 #[.agg #[.int .i64 a0_0, .int .i64 a0_1, .int .i64 a0_2, .int .i64 a0_3, .int .i64 a0_4, .int .i64 a0_5, .int .i64 a0_6, .int .i64 a0_7, .int .i64 a0_8, .int .i64 a0_9, .int .i64 a0_10, .int .i64 a0_11]] ?_; (with_reducible refine (spec_BodyOk.calls k a0_0 a0_1 a0_2 a0_3 a0_4 a0_5 a0_6 a0_7 a0_8 a0_9 a0_10 a0_11 false _ A3.out).mono ?_); rintro e w39 ⟨rfl, hb⟩; refine ⟨_, rfl, ?_⟩; replace BK291 := kBB BK291 hb; replace BK292 := kBB BK292 hb; replace BK293 := kBB BK293 hb; replace HB := bS HB hb; clear hb; have hnb40 := NB293_292.out; have hnc40 := NB292_293.out; obtain ⟨hcz41_0, hcz41_1, hcz41_2, hcz41_3, hcz41_4, hcz41_5, hcz41_6, hcz41_7, hcz41_8, hcz41_9, hcz41_10, hcz41_11⟩ := cz12 BK293.out; obtain ⟨hfz41_0, hfz41_1, hfz41_2, hfz41_3, hfz41_4, hfz41_5, hfz41_6, hfz41_7, hfz41_8, hfz41_9, hfz41_10, hfz41_11⟩ := fz12 BK293.out))
  refine bodyPost_ret (results_cell_row rfl _ _ gb293 40 #[.int .i64 0, .int .i64 0, .int .i64 0, .int .i64 0, .int .i64 0, .int .i64 0, .int .i64 0, .int .i64 0, .int .i64 0, .int .i64 0, .int .i64 0, .int .i64 0] (0, 0) _ rfl (qP BK293) Try.underlying40 rfl (by kernel_rfl)) rfl ?_
  exact ⟨qE, qL HB⟩
end Go.Proofs.Ytihajbjkjclmoaa.PBig
