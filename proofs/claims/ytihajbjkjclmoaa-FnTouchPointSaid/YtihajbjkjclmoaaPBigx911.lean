/- What these functions compute, each walked once: impl_Body_sleeps, impl_BodyOk, impl_Vec_plus, impl_Body_push, impl_BodyPush; for all arguments and worlds, under the conditions that each theorem names. -/
import Derived.Test.YtihajbjkjclmoaaSq
import Derived.Test.YtihajbjkjclmoaaPBigx900
import Derived.Test.YtihajbjkjclmoaaPBigx907
namespace Go.Proofs.Ytihajbjkjclmoaa.PBig
open Go.RowKit Go.Proofs.YtihajbjkjclmoaaW.PrintWords Go.Proofs.YtihajbjkjclmoaaW.PrintLast Go.Proofs.YtihajbjkjclmoaaW.PrintMore
attribute [local go_sem] max2_int min2_int max_two min_two max_three min_three max_four min_four   -- for this text's walks alone
set_option linter.unusedVariables false
set_option linter.unusedSimpArgs false

/-! ### impl_Body_sleeps: function 70 -/
def impl_Body_sleeps.f (a0_0 : Int) (a0_1 : Int) (a0_2 : Int) (a0_3 : Int) (a0_4 : Int) (a0_5 : Int) (a0_6 : Int) (a0_7 : Int) (a0_8 : Int) (a0_9 : Int) (a0_10 : Int) (a0_11 : Int) : Option (Bool) := some (a0_11 == 8)
set_option maxHeartbeats 8000000 in
set_option maxRecDepth 100000 in
theorem impl_Body_sleeps.calls (a0_0 : Int) (a0_1 : Int) (a0_2 : Int) (a0_3 : Int) (a0_4 : Int) (a0_5 : Int) (a0_6 : Int) (a0_7 : Int) (a0_8 : Int) (a0_9 : Int) (a0_10 : Int) (a0_11 : Int) (r : Bool) (w : World) (h : impl_Body_sleeps.f a0_0 a0_1 a0_2 a0_3 a0_4 a0_5 a0_6 a0_7 a0_8 a0_9 a0_10 a0_11 = some r) :
    Calls Try.prog 70 #[.agg #[.int .i64 a0_0, .int .i64 a0_1, .int .i64 a0_2, .int .i64 a0_3, .int .i64 a0_4, .int .i64 a0_5, .int .i64 a0_6, .int .i64 a0_7, .int .i64 a0_8, .int .i64 a0_9, .int .i64 a0_10, .int .i64 a0_11]] w fun e w' => e = .returned (.bool r) ∧ Below w.heap.size w w' := by
  have hu40 := Try.underlying40
  have HB := az (Below.refl w.heap.size w)
  have H : (some (a0_11 == 8)) = some r := h
  clear h
  obtain rfl := Option.some.inj H
  go_enter Try.func70, Try.ntmps70
  go_wp2_with (first | ((with_reducible refine gate_dst (N := 1) rfl ?_); refine bx (N := 1) (cs := #[.int .i64 a0_0, .int .i64 a0_1, .int .i64 a0_2, .int .i64 a0_3, .int .i64 a0_4, .int .i64 a0_5, .int .i64 a0_6, .int .i64 a0_7, .int .i64 a0_8, .int .i64 a0_9, .int .i64 a0_10, .int .i64 a0_11]) (t := 40) ?_; intro gb339 hg w2 hbox hb; have BK339 := az hbox; have GW339 := az ((gE hg (qL HB) : w.heap.size ≤ gb339)); have GE339 := GW339; replace HB := bS HB hb; clear hb hbox hg; obtain ⟨hcz3_0, hcz3_1, hcz3_2, hcz3_3, hcz3_4, hcz3_5, hcz3_6, hcz3_7, hcz3_8, hcz3_9, hcz3_10, hcz3_11⟩ := cz12 BK339.out; obtain ⟨hfz3_0, hfz3_1, hfz3_2, hfz3_3, hfz3_4, hfz3_5, hfz3_6, hfz3_7, hfz3_8, hfz3_9, hfz3_10, hfz3_11⟩ := fz12 BK339.out))
  go_ret
  exact ⟨qE, qL HB⟩

attribute [local go_sem high] eqA24
/-! ### impl_BodyOk: function 27 -/
mutual
def impl_BodyOk.j0 : Nat → Bool → Int → Int → Int → Int → Int → Int → Int → Int → Int → Int → Int → Int → Option (Bool)
  | 0, _, _, _, _, _, _, _, _, _, _, _, _, _ => none
  | k + 1, x31, x341000, x341001, x341002, x341003, x341004, x341005, x341006, x341007, x341008, x341009, x341010, x341011 => if x31 = true then (some false) else ((impl_in.f x341009 0 256).bind fun t346 => (if t346 = true then ((impl_in.f x341010 0 256).bind fun t347 => (if t347 = true then ((impl_in.f x341011 0 8).bind fun t348 => (impl_BodyOk.j1 k (!t348) x341000 x341001 x341002 x341003 x341004 x341005 x341006 x341007 x341008 x341009 x341010 x341011)) else (impl_BodyOk.j1 k true x341000 x341001 x341002 x341003 x341004 x341005 x341006 x341007 x341008 x341009 x341010 x341011))) else (impl_BodyOk.j1 k true x341000 x341001 x341002 x341003 x341004 x341005 x341006 x341007 x341008 x341009 x341010 x341011)))
def impl_BodyOk.j1 : Nat → Bool → Int → Int → Int → Int → Int → Int → Int → Int → Int → Int → Int → Int → Option (Bool)
  | 0, _, _, _, _, _, _, _, _, _, _, _, _, _ => none
  | k + 1, x47, x341000, x341001, x341002, x341003, x341004, x341005, x341006, x341007, x341008, x341009, x341010, x341011 => if x47 = true then (some false) else ((impl_Body_fixed.f x341000 x341001 x341002 x341003 x341004 x341005 x341006 x341007 x341008 x341009 x341010 x341011).bind fun t349 => (if t349 = true then (if (x341006 == 0 && (x341007 == 0)) = true then (if x341011 = 0 then ((impl_Body_sleeps.f x341000 x341001 x341002 x341003 x341004 x341005 x341006 x341007 x341008 x341009 x341010 x341011).bind fun t350 => (if t350 = true then (some (x341006 == 0 && (x341007 == 0))) else (some true))) else (some false)) else (some false)) else ((impl_Body_sleeps.f x341000 x341001 x341002 x341003 x341004 x341005 x341006 x341007 x341008 x341009 x341010 x341011).bind fun t351 => (if t351 = true then (some (x341006 == 0 && (x341007 == 0))) else (some true)))))
end
def impl_BodyOk.f (k : Nat) (a0_0 : Int) (a0_1 : Int) (a0_2 : Int) (a0_3 : Int) (a0_4 : Int) (a0_5 : Int) (a0_6 : Int) (a0_7 : Int) (a0_8 : Int) (a0_9 : Int) (a0_10 : Int) (a0_11 : Int) : Option (Bool) := (impl_in.f a0_0 0 999999999).bind fun t341 => (if t341 = true then ((impl_ShapeOk.f a0_1 a0_2 a0_3).bind fun t342 => (if t342 = true then ((impl_isPlace.f a0_4 a0_5).bind fun t343 => (if t343 = true then ((impl_isDrive.f a0_6 a0_7).bind fun t344 => (if t344 = true then ((impl_in.f a0_8 0 1000).bind fun t345 => (impl_BodyOk.j0 k (!t345) a0_0 a0_1 a0_2 a0_3 a0_4 a0_5 a0_6 a0_7 a0_8 a0_9 a0_10 a0_11)) else (impl_BodyOk.j0 k true a0_0 a0_1 a0_2 a0_3 a0_4 a0_5 a0_6 a0_7 a0_8 a0_9 a0_10 a0_11))) else (impl_BodyOk.j0 k true a0_0 a0_1 a0_2 a0_3 a0_4 a0_5 a0_6 a0_7 a0_8 a0_9 a0_10 a0_11))) else (impl_BodyOk.j0 k true a0_0 a0_1 a0_2 a0_3 a0_4 a0_5 a0_6 a0_7 a0_8 a0_9 a0_10 a0_11))) else (impl_BodyOk.j0 k true a0_0 a0_1 a0_2 a0_3 a0_4 a0_5 a0_6 a0_7 a0_8 a0_9 a0_10 a0_11))
theorem impl_BodyOk.mono_l : ∀ k, (∀ y0 y1 y2 y3 y4 y5 y6 y7 y8 y9 y10 y11 y12, LeO (impl_BodyOk.j0 k y0 y1 y2 y3 y4 y5 y6 y7 y8 y9 y10 y11 y12) (impl_BodyOk.j0 (k + 1) y0 y1 y2 y3 y4 y5 y6 y7 y8 y9 y10 y11 y12)) ∧ (∀ y0 y1 y2 y3 y4 y5 y6 y7 y8 y9 y10 y11 y12, LeO (impl_BodyOk.j1 k y0 y1 y2 y3 y4 y5 y6 y7 y8 y9 y10 y11 y12) (impl_BodyOk.j1 (k + 1) y0 y1 y2 y3 y4 y5 y6 y7 y8 y9 y10 y11 y12))
  | 0 => ⟨fun _ _ _ _ _ _ _ _ _ _ _ _ _ r h => by simp [impl_BodyOk.j0] at h, fun _ _ _ _ _ _ _ _ _ _ _ _ _ r h => by simp [impl_BodyOk.j1] at h⟩
  | k + 1 => by
    obtain ⟨ih0, ih1⟩ := impl_BodyOk.mono_l k
    refine ⟨?_, ?_⟩
    · intro y0 y1 y2 y3 y4 y5 y6 y7 y8 y9 y10 y11 y12
      unfold impl_BodyOk.j0
      repeat' first
      | (with_reducible exact ih0 _ _ _ _ _ _ _ _ _ _ _ _ _)
      | (with_reducible exact ih1 _ _ _ _ _ _ _ _ _ _ _ _ _)
      | (with_reducible exact LeO.refl _)
      | (with_reducible exact LeO.none _)
      | (with_reducible refine LeO.ite ?_ ?_)
      | (with_reducible refine LeO.bind ?_ (fun _ => ?_))
    · intro y0 y1 y2 y3 y4 y5 y6 y7 y8 y9 y10 y11 y12
      unfold impl_BodyOk.j1
      repeat' first
      | (with_reducible exact ih0 _ _ _ _ _ _ _ _ _ _ _ _ _)
      | (with_reducible exact ih1 _ _ _ _ _ _ _ _ _ _ _ _ _)
      | (with_reducible exact LeO.refl _)
      | (with_reducible exact LeO.none _)
      | (with_reducible refine LeO.ite ?_ ?_)
      | (with_reducible refine LeO.bind ?_ (fun _ => ?_))
theorem impl_BodyOk.mono : ∀ a0 a1 a2 a3 a4 a5 a6 a7 a8 a9 a10 a11 k, LeO (impl_BodyOk.f k a0 a1 a2 a3 a4 a5 a6 a7 a8 a9 a10 a11) (impl_BodyOk.f (k + 1) a0 a1 a2 a3 a4 a5 a6 a7 a8 a9 a10 a11) := by
  intro a0 a1 a2 a3 a4 a5 a6 a7 a8 a9 a10 a11 k
  obtain ⟨ih0, ih1⟩ := impl_BodyOk.mono_l k
  unfold impl_BodyOk.f
  repeat' first
      | (with_reducible exact ih0 _ _ _ _ _ _ _ _ _ _ _ _ _)
      | (with_reducible exact ih1 _ _ _ _ _ _ _ _ _ _ _ _ _)
      | (with_reducible exact LeO.refl _)
      | (with_reducible exact LeO.none _)
      | (with_reducible refine LeO.ite ?_ ?_)
      | (with_reducible refine LeO.bind ?_ (fun _ => ?_))
set_option maxHeartbeats 8000000 in
set_option maxRecDepth 100000 in
theorem impl_BodyOk.calls (k : Nat) (a0_0 : Int) (a0_1 : Int) (a0_2 : Int) (a0_3 : Int) (a0_4 : Int) (a0_5 : Int) (a0_6 : Int) (a0_7 : Int) (a0_8 : Int) (a0_9 : Int) (a0_10 : Int) (a0_11 : Int) (r : Bool) (w : World) (h : impl_BodyOk.f k a0_0 a0_1 a0_2 a0_3 a0_4 a0_5 a0_6 a0_7 a0_8 a0_9 a0_10 a0_11 = some r) :
    Calls Try.prog 27 #[.agg #[.int .i64 a0_0, .int .i64 a0_1, .int .i64 a0_2, .int .i64 a0_3, .int .i64 a0_4, .int .i64 a0_5, .int .i64 a0_6, .int .i64 a0_7, .int .i64 a0_8, .int .i64 a0_9, .int .i64 a0_10, .int .i64 a0_11]] w fun e w' => e = .returned (.bool r) ∧ Below w.heap.size w w' := by
  have hu40 := Try.underlying40
  have hu38 := Try.underlying38
  have hu24 := Try.underlying24
  have HB := az (Below.refl w.heap.size w)
  have H : ((impl_in.f a0_0 0 999999999).bind fun t341 => (if t341 = true then ((impl_ShapeOk.f a0_1 a0_2 a0_3).bind fun t342 => (if t342 = true then ((impl_isPlace.f a0_4 a0_5).bind fun t343 => (if t343 = true then ((impl_isDrive.f a0_6 a0_7).bind fun t344 => (if t344 = true then ((impl_in.f a0_8 0 1000).bind fun t345 => (impl_BodyOk.j0 k (!t345) a0_0 a0_1 a0_2 a0_3 a0_4 a0_5 a0_6 a0_7 a0_8 a0_9 a0_10 a0_11)) else (impl_BodyOk.j0 k true a0_0 a0_1 a0_2 a0_3 a0_4 a0_5 a0_6 a0_7 a0_8 a0_9 a0_10 a0_11))) else (impl_BodyOk.j0 k true a0_0 a0_1 a0_2 a0_3 a0_4 a0_5 a0_6 a0_7 a0_8 a0_9 a0_10 a0_11))) else (impl_BodyOk.j0 k true a0_0 a0_1 a0_2 a0_3 a0_4 a0_5 a0_6 a0_7 a0_8 a0_9 a0_10 a0_11))) else (impl_BodyOk.j0 k true a0_0 a0_1 a0_2 a0_3 a0_4 a0_5 a0_6 a0_7 a0_8 a0_9 a0_10 a0_11))) = some r := h
  clear h
  have HC2 := az H
  clear H
  go_enter Try.func27, Try.ntmps27
  go_upto_region 1 with (first | ((with_reducible refine gate_dst (N := 1) rfl ?_); refine bx (N := 1) (cs := #[.int .i64 a0_0, .int .i64 a0_1, .int .i64 a0_2, .int .i64 a0_3, .int .i64 a0_4, .int .i64 a0_5, .int .i64 a0_6, .int .i64 a0_7, .int .i64 a0_8, .int .i64 a0_9, .int .i64 a0_10, .int .i64 a0_11]) (t := 40) ?_; intro gb340 hg w3 hbox hb; have BK340 := az hbox; have GW340 := az ((gE hg (qL HB) : w.heap.size ≤ gb340)); have GE340 := GW340; replace HB := bS HB hb; clear hb hbox hg))
  (try simp only [Act.put, List.setIfInBounds_toArray, List.set_cons_zero, List.set_cons_succ])
  go_cut [31] (fun v31 wc => ∃ (kq : Nat) (x31_1 : Bool), v31 = .bool x31_1 ∧ Aside0 (impl_BodyOk.j0 kq x31_1 a0_0 a0_1 a0_2 a0_3 a0_4 a0_5 a0_6 a0_7 a0_8 a0_9 a0_10 a0_11 = some r) ∧ Aside0 (kq ≤ k) ∧ Aside0 (wc.heap[gb340]? = some (.cells #[.int .i64 a0_0, .int .i64 a0_1, .int .i64 a0_2, .int .i64 a0_3, .int .i64 a0_4, .int .i64 a0_5, .int .i64 a0_6, .int .i64 a0_7, .int .i64 a0_8, .int .i64 a0_9, .int .i64 a0_10, .int .i64 a0_11] 40 (0, 0))) ∧ Aside0 (Below w.heap.size w wc))
  case first =>
    have H := HC2.out
    clear HC2
    replace H := qH H
    obtain ⟨t341, A4, H⟩ := H
    try dsimp only at H
    by_cases c5 : t341 = true
    · subst c5
      replace H := qT H
      replace H := qH H
      obtain ⟨t342, A6, H⟩ := H
      try dsimp only at H
      by_cases c7 : t342 = true
      · subst c7
        replace H := qT H
        replace H := qH H
        obtain ⟨t343, A8, H⟩ := H
        try dsimp only at H
        by_cases c9 : t343 = true
        · subst c9
          replace H := qT H
          replace H := qH H
          obtain ⟨t344, A10, H⟩ := H
          try dsimp only at H
          by_cases c11 : t344 = true
          · subst c11
            replace H := qT H
            replace H := qH H
            obtain ⟨t345, A12, H⟩ := H
            try dsimp only at H
            have H' := az H
            clear H
            obtain ⟨hcz13_0, hcz13_1, hcz13_2, hcz13_3, hcz13_4, hcz13_5, hcz13_6, hcz13_7, hcz13_8, hcz13_9, hcz13_10, hcz13_11⟩ := cz12 BK340.out
            obtain ⟨hfz13_0, hfz13_1, hfz13_2, hfz13_3, hfz13_4, hfz13_5, hfz13_6, hfz13_7, hfz13_8, hfz13_9, hfz13_10, hfz13_11⟩ := fz12 BK340.out
            go_wp2_with (first | ((with_reducible refine gate_callee (f := 66) rfl ?_); refine gl (some 6) Try.func66 #[.int .i64 a0_0, .int .i64 0, .int .i64 999999999] ?_; (with_reducible refine (impl_in.calls a0_0 0 999999999 true _ A4.out).mono ?_); rintro e w' ⟨rfl, ⟨nd, rfl⟩⟩; refine ⟨_, rfl, ?_⟩) | (go_at_call 67; (with_reducible refine (impl_ShapeOk.calls a0_1 a0_2 a0_3 true _ A6.out).mono ?_); rintro e w14 ⟨rfl, hb⟩; replace BK340 := kBB BK340 hb; replace HB := bS HB hb; clear hb; obtain ⟨hcz15_0, hcz15_1, hcz15_2, hcz15_3, hcz15_4, hcz15_5, hcz15_6, hcz15_7, hcz15_8, hcz15_9, hcz15_10, hcz15_11⟩ := cz12 BK340.out; obtain ⟨hfz15_0, hfz15_1, hfz15_2, hfz15_3, hfz15_4, hfz15_5, hfz15_6, hfz15_7, hfz15_8, hfz15_9, hfz15_10, hfz15_11⟩ := fz12 BK340.out) | (go_at_call 68; (with_reducible refine (impl_isPlace.calls a0_4 a0_5 true _ A8.out).mono ?_); rintro e w16 ⟨rfl, hb⟩; replace BK340 := kBB BK340 hb; replace HB := bS HB hb; clear hb; obtain ⟨hcz17_0, hcz17_1, hcz17_2, hcz17_3, hcz17_4, hcz17_5, hcz17_6, hcz17_7, hcz17_8, hcz17_9, hcz17_10, hcz17_11⟩ := cz12 BK340.out; obtain ⟨hfz17_0, hfz17_1, hfz17_2, hfz17_3, hfz17_4, hfz17_5, hfz17_6, hfz17_7, hfz17_8, hfz17_9, hfz17_10, hfz17_11⟩ := fz12 BK340.out) | (go_at_call 51; (with_reducible refine (impl_isDrive.calls a0_6 a0_7 true _ A10.out).mono ?_); rintro e w18 ⟨rfl, hb⟩; replace BK340 := kBB BK340 hb; replace HB := bS HB hb; clear hb; obtain ⟨hcz19_0, hcz19_1, hcz19_2, hcz19_3, hcz19_4, hcz19_5, hcz19_6, hcz19_7, hcz19_8, hcz19_9, hcz19_10, hcz19_11⟩ := cz12 BK340.out; obtain ⟨hfz19_0, hfz19_1, hfz19_2, hfz19_3, hfz19_4, hfz19_5, hfz19_6, hfz19_7, hfz19_8, hfz19_9, hfz19_10, hfz19_11⟩ := fz12 BK340.out) | (go_at_call 66; (with_reducible refine (impl_in.calls a0_8 0 1000 t345 _ A12.out).mono ?_); rintro e w' ⟨rfl, ⟨nd, rfl⟩⟩))
            go_meet
            case rel => exact ⟨_, (!t345), (by first | rfl | (simp; done) | (simp [*]; done)), H', ⟨by first | omega | exact Nat.le_refl _⟩, ⟨qF BK340⟩, ⟨qL HB⟩⟩
          replace c11 := Bool.eq_false_iff.mpr c11
          subst c11
          replace H := qU H
          have H' := az H
          clear H
          obtain ⟨hcz20_0, hcz20_1, hcz20_2, hcz20_3, hcz20_4, hcz20_5, hcz20_6, hcz20_7, hcz20_8, hcz20_9, hcz20_10, hcz20_11⟩ := cz12 BK340.out
          obtain ⟨hfz20_0, hfz20_1, hfz20_2, hfz20_3, hfz20_4, hfz20_5, hfz20_6, hfz20_7, hfz20_8, hfz20_9, hfz20_10, hfz20_11⟩ := fz12 BK340.out
          go_wp2_with (first | ((with_reducible refine gate_callee (f := 66) rfl ?_); refine gl (some 6) Try.func66 #[.int .i64 a0_0, .int .i64 0, .int .i64 999999999] ?_; (with_reducible refine (impl_in.calls a0_0 0 999999999 true _ A4.out).mono ?_); rintro e w' ⟨rfl, ⟨nd, rfl⟩⟩; refine ⟨_, rfl, ?_⟩) | (go_at_call 67; (with_reducible refine (impl_ShapeOk.calls a0_1 a0_2 a0_3 true _ A6.out).mono ?_); rintro e w21 ⟨rfl, hb⟩; replace BK340 := kBB BK340 hb; replace HB := bS HB hb; clear hb; obtain ⟨hcz22_0, hcz22_1, hcz22_2, hcz22_3, hcz22_4, hcz22_5, hcz22_6, hcz22_7, hcz22_8, hcz22_9, hcz22_10, hcz22_11⟩ := cz12 BK340.out; obtain ⟨hfz22_0, hfz22_1, hfz22_2, hfz22_3, hfz22_4, hfz22_5, hfz22_6, hfz22_7, hfz22_8, hfz22_9, hfz22_10, hfz22_11⟩ := fz12 BK340.out) | (go_at_call 68; (with_reducible refine (impl_isPlace.calls a0_4 a0_5 true _ A8.out).mono ?_); rintro e w23 ⟨rfl, hb⟩; replace BK340 := kBB BK340 hb; replace HB := bS HB hb; clear hb; obtain ⟨hcz24_0, hcz24_1, hcz24_2, hcz24_3, hcz24_4, hcz24_5, hcz24_6, hcz24_7, hcz24_8, hcz24_9, hcz24_10, hcz24_11⟩ := cz12 BK340.out; obtain ⟨hfz24_0, hfz24_1, hfz24_2, hfz24_3, hfz24_4, hfz24_5, hfz24_6, hfz24_7, hfz24_8, hfz24_9, hfz24_10, hfz24_11⟩ := fz12 BK340.out) | (go_at_call 51; (with_reducible refine (impl_isDrive.calls a0_6 a0_7 false _ A10.out).mono ?_); rintro e w25 ⟨rfl, hb⟩; replace BK340 := kBB BK340 hb; replace HB := bS HB hb; clear hb))
          go_meet
          case rel => exact ⟨_, (true), (by first | rfl | (simp; done) | (simp [*]; done)), H', ⟨by first | omega | exact Nat.le_refl _⟩, ⟨qF BK340⟩, ⟨qL HB⟩⟩
        replace c9 := Bool.eq_false_iff.mpr c9
        subst c9
        replace H := qU H
        have H' := az H
        clear H
        obtain ⟨hcz26_0, hcz26_1, hcz26_2, hcz26_3, hcz26_4, hcz26_5, hcz26_6, hcz26_7, hcz26_8, hcz26_9, hcz26_10, hcz26_11⟩ := cz12 BK340.out
        obtain ⟨hfz26_0, hfz26_1, hfz26_2, hfz26_3, hfz26_4, hfz26_5, hfz26_6, hfz26_7, hfz26_8, hfz26_9, hfz26_10, hfz26_11⟩ := fz12 BK340.out
        go_wp2_with (first | ((with_reducible refine gate_callee (f := 66) rfl ?_); refine gl (some 6) Try.func66 #[.int .i64 a0_0, .int .i64 0, .int .i64 999999999] ?_; (with_reducible refine (impl_in.calls a0_0 0 999999999 true _ A4.out).mono ?_); rintro e w' ⟨rfl, ⟨nd, rfl⟩⟩; refine ⟨_, rfl, ?_⟩) | (go_at_call 67; (with_reducible refine (impl_ShapeOk.calls a0_1 a0_2 a0_3 true _ A6.out).mono ?_); rintro e w27 ⟨rfl, hb⟩; replace BK340 := kBB BK340 hb; replace HB := bS HB hb; clear hb; obtain ⟨hcz28_0, hcz28_1, hcz28_2, hcz28_3, hcz28_4, hcz28_5, hcz28_6, hcz28_7, hcz28_8, hcz28_9, hcz28_10, hcz28_11⟩ := cz12 BK340.out; obtain ⟨hfz28_0, hfz28_1, hfz28_2, hfz28_3, hfz28_4, hfz28_5, hfz28_6, hfz28_7, hfz28_8, hfz28_9, hfz28_10, hfz28_11⟩ := fz12 BK340.out) | (go_at_call 68; (with_reducible refine (impl_isPlace.calls a0_4 a0_5 false _ A8.out).mono ?_); rintro e w29 ⟨rfl, hb⟩; replace BK340 := kBB BK340 hb; replace HB := bS HB hb; clear hb))
        go_meet
        case rel => exact ⟨_, (true), (by first | rfl | (simp; done) | (simp [*]; done)), H', ⟨by first | omega | exact Nat.le_refl _⟩, ⟨qF BK340⟩, ⟨qL HB⟩⟩
      replace c7 := Bool.eq_false_iff.mpr c7
      subst c7
      replace H := qU H
      have H' := az H
      clear H
      obtain ⟨hcz30_0, hcz30_1, hcz30_2, hcz30_3, hcz30_4, hcz30_5, hcz30_6, hcz30_7, hcz30_8, hcz30_9, hcz30_10, hcz30_11⟩ := cz12 BK340.out
      obtain ⟨hfz30_0, hfz30_1, hfz30_2, hfz30_3, hfz30_4, hfz30_5, hfz30_6, hfz30_7, hfz30_8, hfz30_9, hfz30_10, hfz30_11⟩ := fz12 BK340.out
      go_wp2_with (first | ((with_reducible refine gate_callee (f := 66) rfl ?_); refine gl (some 6) Try.func66 #[.int .i64 a0_0, .int .i64 0, .int .i64 999999999] ?_; (with_reducible refine (impl_in.calls a0_0 0 999999999 true _ A4.out).mono ?_); rintro e w' ⟨rfl, ⟨nd, rfl⟩⟩; refine ⟨_, rfl, ?_⟩) | (go_at_call 67; (with_reducible refine (impl_ShapeOk.calls a0_1 a0_2 a0_3 false _ A6.out).mono ?_); rintro e w31 ⟨rfl, hb⟩; replace BK340 := kBB BK340 hb; replace HB := bS HB hb; clear hb))
      go_meet
      case rel => exact ⟨_, (true), (by first | rfl | (simp; done) | (simp [*]; done)), H', ⟨by first | omega | exact Nat.le_refl _⟩, ⟨qF BK340⟩, ⟨qL HB⟩⟩
    replace c5 := Bool.eq_false_iff.mpr c5
    subst c5
    replace H := qU H
    have H' := az H
    clear H
    obtain ⟨hcz32_0, hcz32_1, hcz32_2, hcz32_3, hcz32_4, hcz32_5, hcz32_6, hcz32_7, hcz32_8, hcz32_9, hcz32_10, hcz32_11⟩ := cz12 BK340.out
    obtain ⟨hfz32_0, hfz32_1, hfz32_2, hfz32_3, hfz32_4, hfz32_5, hfz32_6, hfz32_7, hfz32_8, hfz32_9, hfz32_10, hfz32_11⟩ := fz12 BK340.out
    go_wp2_with (first | ((with_reducible refine gate_callee (f := 66) rfl ?_); refine gl (some 6) Try.func66 #[.int .i64 a0_0, .int .i64 0, .int .i64 999999999] ?_; (with_reducible refine (impl_in.calls a0_0 0 999999999 false _ A4.out).mono ?_); rintro e w' ⟨rfl, ⟨nd, rfl⟩⟩; refine ⟨_, rfl, ?_⟩))
    go_meet
    case rel => exact ⟨_, (true), (by first | rfl | (simp; done) | (simp [*]; done)), H', ⟨by first | omega | exact Nat.le_refl _⟩, ⟨qF BK340⟩, ⟨qL HB⟩⟩
  case rest =>
    clear HC2
    obtain ⟨kq, x31_1, rfl, HA, HJ1, BK340, HB⟩ := hcut
    cases kq with
    | zero => exact absurd HA.out (by simp [impl_BodyOk.j0])
    | succ kj1 => ?_
    have H := HA.out
    clear HA
    simp only [impl_BodyOk.j0] at H
    by_cases c33 : x31_1 = true
    · subst c33
      replace H := qT H
      obtain rfl := Option.some.inj H
      go_wp2
      go_ret
      exact ⟨qE, qL HB⟩
    replace c33 := Bool.eq_false_iff.mpr c33
    subst c33
    replace H := qU H
    have HC34 := az H
    clear H
    go_upto_region 3 with (fail)
    go_cut [47] (fun v47 wc => ∃ (kq : Nat) (x47_33 : Bool), v47 = .bool x47_33 ∧ Aside0 (impl_BodyOk.j1 kq x47_33 a0_0 a0_1 a0_2 a0_3 a0_4 a0_5 a0_6 a0_7 a0_8 a0_9 a0_10 a0_11 = some r) ∧ Aside0 (kq ≤ kj1) ∧ Aside0 (wc.heap[gb340]? = some (.cells #[.int .i64 a0_0, .int .i64 a0_1, .int .i64 a0_2, .int .i64 a0_3, .int .i64 a0_4, .int .i64 a0_5, .int .i64 a0_6, .int .i64 a0_7, .int .i64 a0_8, .int .i64 a0_9, .int .i64 a0_10, .int .i64 a0_11] 40 (0, 0))) ∧ Aside0 (Below w.heap.size w wc))
    case first =>
      have H := HC34.out
      clear HC34
      replace H := qH H
      obtain ⟨t346, A35, H⟩ := H
      try dsimp only at H
      by_cases c36 : t346 = true
      · subst c36
        replace H := qT H
        replace H := qH H
        obtain ⟨t347, A37, H⟩ := H
        try dsimp only at H
        by_cases c38 : t347 = true
        · subst c38
          replace H := qT H
          replace H := qH H
          obtain ⟨t348, A39, H⟩ := H
          try dsimp only at H
          have H' := az H
          clear H
          obtain ⟨hcz40_0, hcz40_1, hcz40_2, hcz40_3, hcz40_4, hcz40_5, hcz40_6, hcz40_7, hcz40_8, hcz40_9, hcz40_10, hcz40_11⟩ := cz12 BK340.out
          obtain ⟨hfz40_0, hfz40_1, hfz40_2, hfz40_3, hfz40_4, hfz40_5, hfz40_6, hfz40_7, hfz40_8, hfz40_9, hfz40_10, hfz40_11⟩ := fz12 BK340.out
          go_wp2_with (first | ((with_reducible refine gate_callee (f := 66) rfl ?_); refine gl (some 34) Try.func66 #[.int .i64 a0_9, .int .i64 0, .int .i64 256] ?_; (with_reducible refine (impl_in.calls a0_9 0 256 true _ A35.out).mono ?_); rintro e w' ⟨rfl, ⟨nd, rfl⟩⟩; refine ⟨_, rfl, ?_⟩) | (go_at_call 66; (with_reducible refine (impl_in.calls a0_10 0 256 true _ A37.out).mono ?_); rintro e w' ⟨rfl, ⟨nd, rfl⟩⟩) | (go_at_call 66; (with_reducible refine (impl_in.calls a0_11 0 8 t348 _ A39.out).mono ?_); rintro e w' ⟨rfl, ⟨nd, rfl⟩⟩))
          go_meet
          case rel => exact ⟨_, (!t348), (by first | rfl | (simp; done) | (simp [*]; done)), H', ⟨by have := HJ1.out; first | omega | exact Nat.le_refl _⟩, ⟨qF BK340⟩, ⟨qL HB⟩⟩
        replace c38 := Bool.eq_false_iff.mpr c38
        subst c38
        replace H := qU H
        have H' := az H
        clear H
        obtain ⟨hcz41_0, hcz41_1, hcz41_2, hcz41_3, hcz41_4, hcz41_5, hcz41_6, hcz41_7, hcz41_8, hcz41_9, hcz41_10, hcz41_11⟩ := cz12 BK340.out
        obtain ⟨hfz41_0, hfz41_1, hfz41_2, hfz41_3, hfz41_4, hfz41_5, hfz41_6, hfz41_7, hfz41_8, hfz41_9, hfz41_10, hfz41_11⟩ := fz12 BK340.out
        go_wp2_with (first | ((with_reducible refine gate_callee (f := 66) rfl ?_); refine gl (some 34) Try.func66 #[.int .i64 a0_9, .int .i64 0, .int .i64 256] ?_; (with_reducible refine (impl_in.calls a0_9 0 256 true _ A35.out).mono ?_); rintro e w' ⟨rfl, ⟨nd, rfl⟩⟩; refine ⟨_, rfl, ?_⟩) | (go_at_call 66; (with_reducible refine (impl_in.calls a0_10 0 256 false _ A37.out).mono ?_); rintro e w' ⟨rfl, ⟨nd, rfl⟩⟩))
        go_meet
        case rel => exact ⟨_, (true), (by first | rfl | (simp; done) | (simp [*]; done)), H', ⟨by have := HJ1.out; first | omega | exact Nat.le_refl _⟩, ⟨qF BK340⟩, ⟨qL HB⟩⟩
      replace c36 := Bool.eq_false_iff.mpr c36
      subst c36
      replace H := qU H
      have H' := az H
      clear H
      obtain ⟨hcz42_0, hcz42_1, hcz42_2, hcz42_3, hcz42_4, hcz42_5, hcz42_6, hcz42_7, hcz42_8, hcz42_9, hcz42_10, hcz42_11⟩ := cz12 BK340.out
      obtain ⟨hfz42_0, hfz42_1, hfz42_2, hfz42_3, hfz42_4, hfz42_5, hfz42_6, hfz42_7, hfz42_8, hfz42_9, hfz42_10, hfz42_11⟩ := fz12 BK340.out
      go_wp2_with (first | ((with_reducible refine gate_callee (f := 66) rfl ?_); refine gl (some 34) Try.func66 #[.int .i64 a0_9, .int .i64 0, .int .i64 256] ?_; (with_reducible refine (impl_in.calls a0_9 0 256 false _ A35.out).mono ?_); rintro e w' ⟨rfl, ⟨nd, rfl⟩⟩; refine ⟨_, rfl, ?_⟩))
      go_meet
      case rel => exact ⟨_, (true), (by first | rfl | (simp; done) | (simp [*]; done)), H', ⟨by have := HJ1.out; first | omega | exact Nat.le_refl _⟩, ⟨qF BK340⟩, ⟨qL HB⟩⟩
    case rest =>
      clear HC34
      (try clear c33)
      obtain ⟨kq, x47_33, rfl, HA, HJ33, BK340, HB⟩ := hcut
      cases kq with
      | zero => exact absurd HA.out (by simp [impl_BodyOk.j1])
      | succ kj33 => ?_
      have H := HA.out
      clear HA
      simp only [impl_BodyOk.j1] at H
      by_cases c43 : x47_33 = true
      · subst c43
        replace H := qT H
        obtain rfl := Option.some.inj H
        go_wp2
        go_ret
        exact ⟨qE, qL HB⟩
      replace c43 := Bool.eq_false_iff.mpr c43
      subst c43
      replace H := qU H
      replace H := qH H
      obtain ⟨t349, A44, H⟩ := H
      try dsimp only at H
      by_cases c45 : t349 = true
      · subst c45
        replace H := qT H
        by_cases c46 : (a0_6 == 0 && (a0_7 == 0)) = true
        · rw [if_pos c46] at H
          have c46b0 : (a0_6 == 0 && (a0_7 == 0)) = true := c46
          (try (have c46b1 : decide (a0_6 = 0 && (a0_7 == 0)) = true := by simpa using c46))
          (try (have c46b2 : (a0_6 == 0 && (a0_7 == 0)) = true := by simpa using c46))
          clear c46
          by_cases c47 : a0_11 = 0
          · rw [if_pos c47] at H
            have c47b0 : (a0_11 == 0) = true := beq_iff_eq.mpr c47
            have c47b1 : (a0_11 != 0) = false := bne_eq_false_iff_eq.mpr c47
            clear c47
            replace H := qH H
            obtain ⟨t350, A48, H⟩ := H
            try dsimp only at H
            by_cases c49 : t350 = true
            · subst c49
              replace H := qT H
              obtain rfl := Option.some.inj H
              obtain ⟨hcz50_0, hcz50_1, hcz50_2, hcz50_3, hcz50_4, hcz50_5, hcz50_6, hcz50_7, hcz50_8, hcz50_9, hcz50_10, hcz50_11⟩ := cz12 BK340.out
              obtain ⟨hfz50_0, hfz50_1, hfz50_2, hfz50_3, hfz50_4, hfz50_5, hfz50_6, hfz50_7, hfz50_8, hfz50_9, hfz50_10, hfz50_11⟩ := fz12 BK340.out
              go_wp2_with (first | ((with_reducible refine gate_callee (f := 69) rfl ?_); refine gl (some 53) Try.func69 #[.agg #[.int .i64 a0_0, .int .i64 a0_1, .int .i64 a0_2, .int .i64 a0_3, .int .i64 a0_4, .int .i64 a0_5, .int .i64 a0_6, .int .i64 a0_7, .int .i64 a0_8, .int .i64 a0_9, .int .i64 a0_10, .int .i64 a0_11]] ?_; (with_reducible refine (impl_Body_fixed.calls a0_0 a0_1 a0_2 a0_3 a0_4 a0_5 a0_6 a0_7 a0_8 a0_9 a0_10 a0_11 true _ A44.out).mono ?_); rintro e w51 ⟨rfl, hb⟩; refine ⟨_, rfl, ?_⟩; replace BK340 := kBB BK340 hb; replace HB := bS HB hb; clear hb; obtain ⟨hcz52_0, hcz52_1, hcz52_2, hcz52_3, hcz52_4, hcz52_5, hcz52_6, hcz52_7, hcz52_8, hcz52_9, hcz52_10, hcz52_11⟩ := cz12 BK340.out; obtain ⟨hfz52_0, hfz52_1, hfz52_2, hfz52_3, hfz52_4, hfz52_5, hfz52_6, hfz52_7, hfz52_8, hfz52_9, hfz52_10, hfz52_11⟩ := fz12 BK340.out) | (go_at_call 70; (with_reducible refine (impl_Body_sleeps.calls a0_0 a0_1 a0_2 a0_3 a0_4 a0_5 a0_6 a0_7 a0_8 a0_9 a0_10 a0_11 true _ A48.out).mono ?_); rintro e w53 ⟨rfl, hb⟩; replace BK340 := kBB BK340 hb; replace HB := bS HB hb; clear hb))
              go_ret
              exact ⟨qE, qL HB⟩
            replace c49 := Bool.eq_false_iff.mpr c49
            subst c49
            replace H := qU H
            obtain rfl := Option.some.inj H
            obtain ⟨hcz54_0, hcz54_1, hcz54_2, hcz54_3, hcz54_4, hcz54_5, hcz54_6, hcz54_7, hcz54_8, hcz54_9, hcz54_10, hcz54_11⟩ := cz12 BK340.out
            obtain ⟨hfz54_0, hfz54_1, hfz54_2, hfz54_3, hfz54_4, hfz54_5, hfz54_6, hfz54_7, hfz54_8, hfz54_9, hfz54_10, hfz54_11⟩ := fz12 BK340.out
            go_wp2_with (first | ((with_reducible refine gate_callee (f := 69) rfl ?_); refine gl (some 53) Try.func69 #[.agg #[.int .i64 a0_0, .int .i64 a0_1, .int .i64 a0_2, .int .i64 a0_3, .int .i64 a0_4, .int .i64 a0_5, .int .i64 a0_6, .int .i64 a0_7, .int .i64 a0_8, .int .i64 a0_9, .int .i64 a0_10, .int .i64 a0_11]] ?_; (with_reducible refine (impl_Body_fixed.calls a0_0 a0_1 a0_2 a0_3 a0_4 a0_5 a0_6 a0_7 a0_8 a0_9 a0_10 a0_11 true _ A44.out).mono ?_); rintro e w55 ⟨rfl, hb⟩; refine ⟨_, rfl, ?_⟩; replace BK340 := kBB BK340 hb; replace HB := bS HB hb; clear hb; obtain ⟨hcz56_0, hcz56_1, hcz56_2, hcz56_3, hcz56_4, hcz56_5, hcz56_6, hcz56_7, hcz56_8, hcz56_9, hcz56_10, hcz56_11⟩ := cz12 BK340.out; obtain ⟨hfz56_0, hfz56_1, hfz56_2, hfz56_3, hfz56_4, hfz56_5, hfz56_6, hfz56_7, hfz56_8, hfz56_9, hfz56_10, hfz56_11⟩ := fz12 BK340.out) | (go_at_call 70; (with_reducible refine (impl_Body_sleeps.calls a0_0 a0_1 a0_2 a0_3 a0_4 a0_5 a0_6 a0_7 a0_8 a0_9 a0_10 a0_11 false _ A48.out).mono ?_); rintro e w57 ⟨rfl, hb⟩; replace BK340 := kBB BK340 hb; replace HB := bS HB hb; clear hb))
            go_ret
            exact ⟨qE, qL HB⟩
          rw [if_neg c47] at H
          have c47b0 : (a0_11 == 0) = false := beq_eq_false_iff_ne.mpr c47
          have c47b1 : (a0_11 != 0) = true := bne_iff_ne.mpr c47
          obtain rfl := Option.some.inj H
          obtain ⟨hcz58_0, hcz58_1, hcz58_2, hcz58_3, hcz58_4, hcz58_5, hcz58_6, hcz58_7, hcz58_8, hcz58_9, hcz58_10, hcz58_11⟩ := cz12 BK340.out
          obtain ⟨hfz58_0, hfz58_1, hfz58_2, hfz58_3, hfz58_4, hfz58_5, hfz58_6, hfz58_7, hfz58_8, hfz58_9, hfz58_10, hfz58_11⟩ := fz12 BK340.out
          go_wp2_with (first | ((with_reducible refine gate_callee (f := 69) rfl ?_); refine gl (some 53) Try.func69 #[.agg #[.int .i64 a0_0, .int .i64 a0_1, .int .i64 a0_2, .int .i64 a0_3, .int .i64 a0_4, .int .i64 a0_5, .int .i64 a0_6, .int .i64 a0_7, .int .i64 a0_8, .int .i64 a0_9, .int .i64 a0_10, .int .i64 a0_11]] ?_; (with_reducible refine (impl_Body_fixed.calls a0_0 a0_1 a0_2 a0_3 a0_4 a0_5 a0_6 a0_7 a0_8 a0_9 a0_10 a0_11 true _ A44.out).mono ?_); rintro e w59 ⟨rfl, hb⟩; refine ⟨_, rfl, ?_⟩; replace BK340 := kBB BK340 hb; replace HB := bS HB hb; clear hb; obtain ⟨hcz60_0, hcz60_1, hcz60_2, hcz60_3, hcz60_4, hcz60_5, hcz60_6, hcz60_7, hcz60_8, hcz60_9, hcz60_10, hcz60_11⟩ := cz12 BK340.out; obtain ⟨hfz60_0, hfz60_1, hfz60_2, hfz60_3, hfz60_4, hfz60_5, hfz60_6, hfz60_7, hfz60_8, hfz60_9, hfz60_10, hfz60_11⟩ := fz12 BK340.out))
          go_ret
          exact ⟨qE, qL HB⟩
        rw [if_neg c46] at H
        have c46b0 : (a0_6 == 0 && (a0_7 == 0)) = false := by simpa using c46
        (try (have c46b1 : decide (a0_6 = 0 && (a0_7 == 0)) = false := by simpa using c46))
        (try (have c46b2 : (a0_6 == 0 && (a0_7 == 0)) = false := by simpa using c46))
        (try (have c46b3 : ¬ (a0_6 = 0 && (a0_7 == 0)) := by simpa using c46))
        clear c46
        obtain rfl := Option.some.inj H
        obtain ⟨hcz61_0, hcz61_1, hcz61_2, hcz61_3, hcz61_4, hcz61_5, hcz61_6, hcz61_7, hcz61_8, hcz61_9, hcz61_10, hcz61_11⟩ := cz12 BK340.out
        obtain ⟨hfz61_0, hfz61_1, hfz61_2, hfz61_3, hfz61_4, hfz61_5, hfz61_6, hfz61_7, hfz61_8, hfz61_9, hfz61_10, hfz61_11⟩ := fz12 BK340.out
        go_wp2_with (first | ((with_reducible refine gate_callee (f := 69) rfl ?_); refine gl (some 53) Try.func69 #[.agg #[.int .i64 a0_0, .int .i64 a0_1, .int .i64 a0_2, .int .i64 a0_3, .int .i64 a0_4, .int .i64 a0_5, .int .i64 a0_6, .int .i64 a0_7, .int .i64 a0_8, .int .i64 a0_9, .int .i64 a0_10, .int .i64 a0_11]] ?_; (with_reducible refine (impl_Body_fixed.calls a0_0 a0_1 a0_2 a0_3 a0_4 a0_5 a0_6 a0_7 a0_8 a0_9 a0_10 a0_11 true _ A44.out).mono ?_); rintro e w62 ⟨rfl, hb⟩; refine ⟨_, rfl, ?_⟩; replace BK340 := kBB BK340 hb; replace HB := bS HB hb; clear hb))
        go_ret
        exact ⟨qE, qL HB⟩
      replace c45 := Bool.eq_false_iff.mpr c45
      subst c45
      replace H := qU H
      replace H := qH H
      obtain ⟨t351, A63, H⟩ := H
      try dsimp only at H
      by_cases c64 : t351 = true
      · subst c64
        replace H := qT H
        obtain rfl := Option.some.inj H
        obtain ⟨hcz65_0, hcz65_1, hcz65_2, hcz65_3, hcz65_4, hcz65_5, hcz65_6, hcz65_7, hcz65_8, hcz65_9, hcz65_10, hcz65_11⟩ := cz12 BK340.out
        obtain ⟨hfz65_0, hfz65_1, hfz65_2, hfz65_3, hfz65_4, hfz65_5, hfz65_6, hfz65_7, hfz65_8, hfz65_9, hfz65_10, hfz65_11⟩ := fz12 BK340.out
        go_wp2_with (first | ((with_reducible refine gate_callee (f := 69) rfl ?_); refine gl (some 53) Try.func69 #[.agg #[.int .i64 a0_0, .int .i64 a0_1, .int .i64 a0_2, .int .i64 a0_3, .int .i64 a0_4, .int .i64 a0_5, .int .i64 a0_6, .int .i64 a0_7, .int .i64 a0_8, .int .i64 a0_9, .int .i64 a0_10, .int .i64 a0_11]] ?_; (with_reducible refine (impl_Body_fixed.calls a0_0 a0_1 a0_2 a0_3 a0_4 a0_5 a0_6 a0_7 a0_8 a0_9 a0_10 a0_11 false _ A44.out).mono ?_); rintro e w66 ⟨rfl, hb⟩; refine ⟨_, rfl, ?_⟩; replace BK340 := kBB BK340 hb; replace HB := bS HB hb; clear hb; obtain ⟨hcz67_0, hcz67_1, hcz67_2, hcz67_3, hcz67_4, hcz67_5, hcz67_6, hcz67_7, hcz67_8, hcz67_9, hcz67_10, hcz67_11⟩ := cz12 BK340.out; obtain ⟨hfz67_0, hfz67_1, hfz67_2, hfz67_3, hfz67_4, hfz67_5, hfz67_6, hfz67_7, hfz67_8, hfz67_9, hfz67_10, hfz67_11⟩ := fz12 BK340.out) | (go_at_call 70; (with_reducible refine (impl_Body_sleeps.calls a0_0 a0_1 a0_2 a0_3 a0_4 a0_5 a0_6 a0_7 a0_8 a0_9 a0_10 a0_11 true _ A63.out).mono ?_); rintro e w68 ⟨rfl, hb⟩; replace BK340 := kBB BK340 hb; replace HB := bS HB hb; clear hb))
        go_ret
        exact ⟨qE, qL HB⟩
      replace c64 := Bool.eq_false_iff.mpr c64
      subst c64
      replace H := qU H
      obtain rfl := Option.some.inj H
      obtain ⟨hcz69_0, hcz69_1, hcz69_2, hcz69_3, hcz69_4, hcz69_5, hcz69_6, hcz69_7, hcz69_8, hcz69_9, hcz69_10, hcz69_11⟩ := cz12 BK340.out
      obtain ⟨hfz69_0, hfz69_1, hfz69_2, hfz69_3, hfz69_4, hfz69_5, hfz69_6, hfz69_7, hfz69_8, hfz69_9, hfz69_10, hfz69_11⟩ := fz12 BK340.out
      go_wp2_with (first | ((with_reducible refine gate_callee (f := 69) rfl ?_); refine gl (some 53) Try.func69 #[.agg #[.int .i64 a0_0, .int .i64 a0_1, .int .i64 a0_2, .int .i64 a0_3, .int .i64 a0_4, .int .i64 a0_5, .int .i64 a0_6, .int .i64 a0_7, .int .i64 a0_8, .int .i64 a0_9, .int .i64 a0_10, .int .i64 a0_11]] ?_; (with_reducible refine (impl_Body_fixed.calls a0_0 a0_1 a0_2 a0_3 a0_4 a0_5 a0_6 a0_7 a0_8 a0_9 a0_10 a0_11 false _ A44.out).mono ?_); rintro e w70 ⟨rfl, hb⟩; refine ⟨_, rfl, ?_⟩; replace BK340 := kBB BK340 hb; replace HB := bS HB hb; clear hb; obtain ⟨hcz71_0, hcz71_1, hcz71_2, hcz71_3, hcz71_4, hcz71_5, hcz71_6, hcz71_7, hcz71_8, hcz71_9, hcz71_10, hcz71_11⟩ := cz12 BK340.out; obtain ⟨hfz71_0, hfz71_1, hfz71_2, hfz71_3, hfz71_4, hfz71_5, hfz71_6, hfz71_7, hfz71_8, hfz71_9, hfz71_10, hfz71_11⟩ := fz12 BK340.out) | (go_at_call 70; (with_reducible refine (impl_Body_sleeps.calls a0_0 a0_1 a0_2 a0_3 a0_4 a0_5 a0_6 a0_7 a0_8 a0_9 a0_10 a0_11 false _ A63.out).mono ?_); rintro e w72 ⟨rfl, hb⟩; replace BK340 := kBB BK340 hb; replace HB := bS HB hb; clear hb))
      go_ret
      exact ⟨qE, qL HB⟩

/-! ### impl_Vec_plus: function 72 -/
def impl_Vec_plus.f (a0_0 : Int) (a0_1 : Int) (a1_0 : Int) (a1_1 : Int) : Option (Int × Int) := some (wrap64 (a0_0 + a1_0), wrap64 (a0_1 + a1_1))
set_option maxHeartbeats 8000000 in
set_option maxRecDepth 100000 in
theorem impl_Vec_plus.calls (a0_0 : Int) (a0_1 : Int) (a1_0 : Int) (a1_1 : Int) (r1 : Int) (r2 : Int) (w : World) (h : impl_Vec_plus.f a0_0 a0_1 a1_0 a1_1 = some (r1, r2)) :
    Calls Try.prog 72 #[.agg #[.int .i64 a0_0, .int .i64 a0_1], .agg #[.int .i64 a1_0, .int .i64 a1_1]] w fun e w' => e = .returned (.agg #[.int .i64 r1, .int .i64 r2]) ∧ Below w.heap.size w w' := by
  have hu24 := Try.underlying24
  have HB := az (Below.refl w.heap.size w)
  have H : (some (wrap64 (a0_0 + a1_0), wrap64 (a0_1 + a1_1))) = some (r1, r2) := h
  clear h
  simp only [Option.some.injEq, Prod.mk.injEq] at H
  obtain ⟨rfl, rfl⟩ := H
  go_enter Try.func72, Try.ntmps72
  go_wp2_with (first | ((with_reducible refine gate_dst (N := 2) rfl ?_); refine bx (N := 2) (cs := #[.int .i64 a0_0, .int .i64 a0_1]) (t := 24) ?_; intro gb352 hg w3 hbox hb; have BK352 := az hbox; have GW352 := az ((gE hg (qL HB) : w.heap.size ≤ gb352)); have GE352 := GW352; replace HB := bS HB hb; clear hb hbox hg) | ((with_reducible refine gate_dst (N := 3) rfl ?_); refine bx (N := 3) (cs := #[.int .i64 a1_0, .int .i64 a1_1]) (t := 24) ?_; intro gb353 hg w4 hbox hb; have BK353 := az hbox; have GW353 := az ((gE hg (qL HB) : w.heap.size ≤ gb353)); have GE353 := GW353; obtain ⟨NB352_353, NB353_352⟩ := nPB BK352 hg; replace BK352 := kBB BK352 hb; replace HB := bS HB hb; clear hb hbox hg) | ((with_reducible refine gate_dst (N := 4) rfl ?_); refine bx (N := 4) (cs := #[.int .i64 0, .int .i64 0]) (t := 24) ?_; intro gb354 hg w5 hbox hb; have BK354 := az hbox; have GW354 := az ((gE hg (qL HB) : w.heap.size ≤ gb354)); have GE354 := GW354; obtain ⟨NB352_354, NB354_352⟩ := nPB BK352 hg; obtain ⟨NB353_354, NB354_353⟩ := nPB BK353 hg; replace BK352 := kBB BK352 hb; replace BK353 := kBB BK353 hb; replace HB := bS HB hb; clear hb hbox hg; have hnb6 := NB352_353.out; have hnc6 := NB353_352.out; have hnb7 := NB352_354.out; have hnc7 := NB354_352.out; obtain ⟨hcz8_0, hcz8_1⟩ := cz2 BK352.out; have hfz8_0 := blk_frozen BK352.out 0; have hfz8_1 := blk_frozen BK352.out 1; have hnb9 := NB353_354.out; have hnc9 := NB354_353.out; obtain ⟨hcz10_0, hcz10_1⟩ := cz2 BK353.out; have hfz10_0 := blk_frozen BK353.out 0; have hfz10_1 := blk_frozen BK353.out 1; obtain ⟨hcz11_0, hcz11_1⟩ := cz2 BK354.out; have hfz11_0 := blk_frozen BK354.out 0; have hfz11_1 := blk_frozen BK354.out 1))
  refine bodyPost_ret (results_cell_row rfl _ _ gb354 24 #[.int .i64 (wrap64 (a0_0 + a1_0)), .int .i64 (wrap64 (a0_1 + a1_1))] (0, 0) _ rfl (qP BK354) Try.underlying24 rfl (by kernel_rfl)) rfl ?_
  exact ⟨qE, qL HB⟩

/-! ### impl_Body_push: function 52 -/
def impl_Body_push.f (a0 a1 a2 a3 a4 a5 a6 a7 a8 a9 a10 a11 p0 p1 : Int) : Option (Int × Int × Int × Int × Int × Int × Int × Int × Int × Int × Int × Int) := (impl_Body_fixed.f a0 a1 a2 a3 a4 a5 a6 a7 a8 a9 a10 a11).bind fun t => if t = true then some (a0, a1, a2, a3, a4, a5, a6, a7, a8, a9, a10, a11) else (impl_Vec_plus.f a6 a7 p0 p1).bind fun v => (impl_Vec_clamped.f v.1 v.2 20000000).bind fun u => some (a0, a1, a2, a3, a4, a5, u.1, u.2, a8, a9, a10, 0)
def impl_Body_push.T2 : Bool × List (List Nat × List Nat) := (true, [([], []), ([], []), ([], []), ([2], [2]), ([3], [3]), ([4], [4]), ([], []), ([5, 6], [5, 6]), ([7, 7], [7]), ([0, 0, 2, 3, 4, 5, 6, 7, 8], [0]), ([9, 0, 2, 3, 4, 5, 6, 7, 8], [9]), ([10, 8, 8, 0, 2, 3, 4, 5, 6, 7, 8], [8, 10]), ([1, 0, 1, 2, 3, 4, 5, 6, 7, 8, 9, 10, 11], [1]), ([12, 0, 1, 2, 3, 4, 5, 6, 7, 8, 9, 10, 11], [12]), ([13, 11, 0, 1, 2, 3, 4, 5, 6, 7, 8, 9, 10, 11], [13])])
def impl_Body_push.B2 : List Nat := [0, 0, 0, 4, 12, 28, 0, 124, 252, 509, 1021, 2045, 4095, 8191, 16383]
theorem impl_Body_push.tab2 : rtab .any (opsOf Try.f52 2) = impl_Body_push.T2 := by kernel_rfl
theorem impl_Body_push.bits2 : waitsOk impl_Body_push.T2.2 impl_Body_push.B2 = true := by kernel_rfl
set_option maxHeartbeats 4000000 in
set_option maxRecDepth 100000 in
theorem impl_Body_push.calls (g : Nat) (a0 a1 a2 a3 a4 a5 a6 a7 a8 a9 a10 a11 p0 p1 r0 r1 r2 r3 r4 r5 r6 r7 r8 r9 r10 r11 : Int) (w0 w : World) (hB : Below w0.heap.size w0 w) (hg : w0.heap.size ≤ g) (B : w.heap[g]? = some (.cells #[.int .i64 a0, .int .i64 a1, .int .i64 a2, .int .i64 a3, .int .i64 a4, .int .i64 a5, .int .i64 a6, .int .i64 a7, .int .i64 a8, .int .i64 a9, .int .i64 a10, .int .i64 a11] 40 (0, 0))) (h : impl_Body_push.f a0 a1 a2 a3 a4 a5 a6 a7 a8 a9 a10 a11 p0 p1 = some (r0, r1, r2, r3, r4, r5, r6, r7, r8, r9, r10, r11)) :
    Calls Try.prog 52 #[.pointer (some ⟨g, 0, none⟩), .agg #[.int .i64 p0, .int .i64 p1]] w fun e w' => e = .returned (.tuple #[]) ∧ w'.heap[g]? = some (.cells #[.int .i64 r0, .int .i64 r1, .int .i64 r2, .int .i64 r3, .int .i64 r4, .int .i64 r5, .int .i64 r6, .int .i64 r7, .int .i64 r8, .int .i64 r9, .int .i64 r10, .int .i64 r11] 40 (0, 0)) ∧ KeepBut w w' g none ∧ Below w0.heap.size w0 w' := by
  have hu40 := Try.underlying40
  have hu24 := Try.underlying24
  have BK0 := az B
  clear B
  have HK := az (KeepBut.refl w g none)
  have HB := az hB
  have GE0 := az hg
  clear hB hg
  have H := h
  clear h
  unfold impl_Body_push.f at H
  replace H := qH H
  obtain ⟨t1, A1, H⟩ := H
  try dsimp only at H
  by_cases c : t1 = true
  · subst c
    rw [if_pos rfl] at H
    simp only [Option.some.injEq, Prod.mk.injEq] at H
    obtain ⟨rfl, rfl, rfl, rfl, rfl, rfl, rfl, rfl, rfl, rfl, rfl, rfl⟩ := H
    go_enter Try.func52, Try.ntmps52
    go_wp2_with (first | ((with_reducible refine gate_dst (N := 3) rfl ?_); refine bx (N := 3) (cs := #[.int .i64 p0, .int .i64 p1]) (t := 24) ?_; intro gb1 hg w1 hbox hb; have BK1 := az hbox; have NB1_0 := nGB BK0 hg; have NB0_1 := nLB BK0 hg; replace BK0 := kBB BK0 hb; replace HK := az (KeepBut.trans (qK HK) (KeepBut.of_below hb g none) (.inl rfl)); replace HB := bS HB hb; clear hb hbox hg; obtain ⟨za_0, za_1, za_2, za_3, za_4, za_5, za_6, za_7, za_8, za_9, za_10, za_11⟩ := cz12 BK0.out; obtain ⟨fa_0, fa_1, fa_2, fa_3, fa_4, fa_5, fa_6, fa_7, fa_8, fa_9, fa_10, fa_11⟩ := fz12 BK0.out) | ((with_reducible refine gate_callee (f := 69) rfl ?_); refine gl (some 7) Try.func69 #[.agg #[.int .i64 a0, .int .i64 a1, .int .i64 a2, .int .i64 a3, .int .i64 a4, .int .i64 a5, .int .i64 a6, .int .i64 a7, .int .i64 a8, .int .i64 a9, .int .i64 a10, .int .i64 a11]] ?_; (with_reducible refine (impl_Body_fixed.calls a0 a1 a2 a3 a4 a5 a6 a7 a8 a9 a10 a11 true _ A1.out).mono ?_); rintro e w2 ⟨rfl, hb⟩; refine ⟨_, rfl, ?_⟩; replace BK0 := kBB BK0 hb; replace BK1 := kBB BK1 hb; replace HK := az (KeepBut.trans (qK HK) (KeepBut.of_below hb g none) (.inl rfl)); replace HB := bS HB hb; clear hb))
    first | go_end0 | ((try simp only [Exit.inBlock, Exit.then]); refine bodyPost_ret (results_none rfl _ _ _) rfl ?_)
    exact ⟨qE, qB BK0, qK HK, qL HB⟩
  replace c := Bool.eq_false_iff.mpr c
  subst c
  rw [if_neg (show ¬ (false = true) by decide)] at H
  replace H := qH H
  obtain ⟨⟨v0, v1⟩, A2, H⟩ := H
  try dsimp only at H
  replace H := qH H
  obtain ⟨⟨u0, u1⟩, A3, H⟩ := H
  try dsimp only at H
  simp only [Option.some.injEq, Prod.mk.injEq] at H
  obtain ⟨rfl, rfl, rfl, rfl, rfl, rfl, rfl, rfl, rfl, rfl, rfl, rfl⟩ := H
  go_enter Try.func52, Try.ntmps52
  go_wp2_with (first | ((with_reducible refine gate_dst (N := 3) rfl ?_); refine bx (N := 3) (cs := #[.int .i64 p0, .int .i64 p1]) (t := 24) ?_; intro gb1 hg w1 hbox hb; have BK1 := az hbox; have NB1_0 := nGB BK0 hg; have NB0_1 := nLB BK0 hg; replace BK0 := kBB BK0 hb; replace HK := az (KeepBut.trans (qK HK) (KeepBut.of_below hb g none) (.inl rfl)); replace HB := bS HB hb; clear hb hbox hg; obtain ⟨za_0, za_1, za_2, za_3, za_4, za_5, za_6, za_7, za_8, za_9, za_10, za_11⟩ := cz12 BK0.out; obtain ⟨fa_0, fa_1, fa_2, fa_3, fa_4, fa_5, fa_6, fa_7, fa_8, fa_9, fa_10, fa_11⟩ := fz12 BK0.out) | ((with_reducible refine gate_callee (f := 69) rfl ?_); refine gl (some 7) Try.func69 #[.agg #[.int .i64 a0, .int .i64 a1, .int .i64 a2, .int .i64 a3, .int .i64 a4, .int .i64 a5, .int .i64 a6, .int .i64 a7, .int .i64 a8, .int .i64 a9, .int .i64 a10, .int .i64 a11]] ?_; (with_reducible refine (impl_Body_fixed.calls a0 a1 a2 a3 a4 a5 a6 a7 a8 a9 a10 a11 false _ A1.out).mono ?_); rintro e w2 ⟨rfl, hb⟩; refine ⟨_, rfl, ?_⟩; replace BK0 := kBB BK0 hb; replace BK1 := kBB BK1 hb; replace HK := az (KeepBut.trans (qK HK) (KeepBut.of_below hb g none) (.inl rfl)); replace HB := bS HB hb; clear hb))
  replace BK0 := az (blk_drew BK0.out)
  replace BK1 := az (blk_drew BK1.out)
  replace HK := az (keep_drew HK.out)
  replace HB := az (below_drew1 HB.out)
  refine start_ (n := 15) (S := fun w' => w'.cell? ⟨g, 6, none⟩ = some (.int .i64 a6) ∧ w'.cell? ⟨g, 7, none⟩ = some (.int .i64 a7) ∧ w'.cell? ⟨gb1, 0, none⟩ = some (.int .i64 p0) ∧ w'.cell? ⟨gb1, 1, none⟩ = some (.int .i64 p1)) (ds := [11, 14]) #[false, false, false, false, false, false, false, false, false, false, false, false, false, false, false] (by kernel_rfl) rfl rfl ⟨bc BK0 6, bc BK0 7, bc BK1 0, bc BK1 1⟩ (fun hHeld => ?_); refine with_tabW impl_Body_push.tab2 impl_Body_push.bits2 (fun HT_ HW_ => ?_)
  generalize w2.drew = w3 at BK0 BK1 HK HB hHeld ⊢
  refine pu 0 (some 9) (fl 15 1) HT_ ?_
  refine pu 1 (some 10) (fl 15 3) HT_ ?_
  refine pu 2 (some 11) (fl 15 7) HT_ ?_
  refine pu 3 (some 12) (fl 15 15) HT_ ?_
  refine pu 4 (some 13) (fl 15 31) HT_ ?_
  refine tk4 5 (some 14) (fl 15 63) HT_ HW_ hHeld ?_
  refine tk4 6 (some 15) (fl 15 127) HT_ HW_ hHeld ?_
  refine on 7 (some 16) (fl 15 255) HT_ (fun K hK => ?_)
  refine go1 Try.func72 #[.agg #[.int .i64 a6, .int .i64 a7], .agg #[.int .i64 p0, .int .i64 p1]] ?_
  with_reducible refine (impl_Vec_plus.calls a6 a7 p0 p1 v0 v1 _ A2.out).mono ?_
  rintro e w4 ⟨rfl, hb⟩
  refine ⟨_, rfl, ?_⟩
  replace BK0 := kBB BK0 hb
  replace BK1 := kBB BK1 hb
  replace HK := az (KeepBut.trans (qK HK) (KeepBut.of_below hb g none) (.inl rfl)); replace HB := bS HB hb
  clear hb
  refine hK.out _ _ ⟨bc BK0 6, bc BK0 7, bc BK1 0, bc BK1 1⟩ (fun hHeld => ?_)
  clear hK K
  refine nm (some 16) ?_
  refine on 8 (some 17) (fl 15 511) HT_ (fun K hK => ?_)
  refine go1 Try.func71 #[.agg #[.int .i64 v0, .int .i64 v1], .int .i64 20000000] ?_
  with_reducible refine (impl_Vec_clamped.calls v0 v1 20000000 u0 u1 _ A3.out).mono ?_
  rintro e w5 ⟨rfl, hb⟩
  refine ⟨_, rfl, ?_⟩
  replace BK0 := kBB BK0 hb
  replace BK1 := kBB BK1 hb
  replace HK := az (KeepBut.trans (qK HK) (KeepBut.of_below hb g none) (.inl rfl)); replace HB := bS HB hb
  clear hb
  refine hK.out _ _ ⟨bc BK0 6, bc BK0 7, bc BK1 0, bc BK1 1⟩ (fun hHeld => ?_)
  clear hK K
  refine nm (some 17) ?_
  refine pu 9 (some 18) (fl 15 1023) HT_ ?_
  refine pu 10 (some 19) (fl 15 2047) HT_ ?_
  refine last_ (i := 11) (N := none) (fl 15 4095) rfl rfl (one_of HT_.out (by kernel_rfl)) (by decide) (fun K hK => ?_)
  have hs6 : w5.cell? ⟨g, 6, none⟩ = some (.int .i64 a6) := bc BK0 6
  have hfs6 := blk_frozen BK0.out 6
  have hs7 : w5.cell? ⟨g, 7, none⟩ = some (.int .i64 a7) := bc BK0 7
  have hfs7 := blk_frozen BK0.out 7
  refine skip_ (w1 := ?_) (by rfl) rfl ?_ ?_
  rotate_left
  · go_simp
    rfl
  refine hK.out _ _ ?_
  clear hK K
  refine pu 12 (some 20) (fl 15 8191) HT_ ?_
  refine pu 13 (some 21) (fl 15 16383) HT_ ?_
  refine last_ (i := 14) (N := none) (fl 15 32767) rfl rfl (one_of HT_.out (by kernel_rfl)) (by decide) (fun K hK => ?_)
  have hs11 : w5.cell? ⟨g, 11, none⟩ = some (.int .i64 a11) := bc BK0 11
  have hfs11 := blk_frozen BK0.out 11
  refine skip_ (w1 := ?_) (by rfl) rfl ?_ ?_
  rotate_left
  · go_simp
    rfl
  refine hK.out _ _ ?_
  clear hK K
  refine done_ (done_of HT_.out (by kernel_rfl)) ?_
  try go_wp2
  first | go_end0 | ((try simp only [Exit.inBlock, Exit.then]); refine bodyPost_ret (results_none rfl _ _ _) rfl ?_)
  exact ⟨qE, qP BK0, qK HK, qL HB⟩

/-! ### impl_BodyPush: function 21 -/
def impl_BodyPush.f (k : Nat) (a0 a1 a2 a3 a4 a5 a6 a7 a8 a9 a10 a11 p0 p1 : Int) : Option (Int × Int × Int × Int × Int × Int × Int × Int × Int × Int × Int × Int) := (impl_BodyOk.f k a0 a1 a2 a3 a4 a5 a6 a7 a8 a9 a10 a11).bind fun t => if t = true then (impl_isDrive.f p0 p1).bind fun s => (if s = true then impl_Body_push.f a0 a1 a2 a3 a4 a5 a6 a7 a8 a9 a10 a11 p0 p1 else some (0, 0, 0, 0, 0, 0, 0, 0, 0, 0, 0, 0)) else some (0, 0, 0, 0, 0, 0, 0, 0, 0, 0, 0, 0)
theorem impl_BodyPush.mono : ∀ a0 a1 a2 a3 a4 a5 a6 a7 a8 a9 a10 a11 p0 p1 k, LeO (impl_BodyPush.f k a0 a1 a2 a3 a4 a5 a6 a7 a8 a9 a10 a11 p0 p1) (impl_BodyPush.f (k + 1) a0 a1 a2 a3 a4 a5 a6 a7 a8 a9 a10 a11 p0 p1) := by
  intro a0 a1 a2 a3 a4 a5 a6 a7 a8 a9 a10 a11 p0 p1 k
  unfold impl_BodyPush.f
  exact LeO.bind (impl_BodyOk.mono _ _ _ _ _ _ _ _ _ _ _ _ _) (fun _ => LeO.refl _)
set_option maxHeartbeats 8000000 in
set_option maxRecDepth 100000 in
theorem impl_BodyPush.calls (k : Nat) (a0 a1 a2 a3 a4 a5 a6 a7 a8 a9 a10 a11 p0 p1 r0 r1 r2 r3 r4 r5 r6 r7 r8 r9 r10 r11 : Int) (w : World) (h : impl_BodyPush.f k a0 a1 a2 a3 a4 a5 a6 a7 a8 a9 a10 a11 p0 p1 = some (r0, r1, r2, r3, r4, r5, r6, r7, r8, r9, r10, r11)) :
    Calls Try.prog 21 #[.agg #[.int .i64 a0, .int .i64 a1, .int .i64 a2, .int .i64 a3, .int .i64 a4, .int .i64 a5, .int .i64 a6, .int .i64 a7, .int .i64 a8, .int .i64 a9, .int .i64 a10, .int .i64 a11], .agg #[.int .i64 p0, .int .i64 p1]] w fun e w' => e = .returned (.agg #[.int .i64 r0, .int .i64 r1, .int .i64 r2, .int .i64 r3, .int .i64 r4, .int .i64 r5, .int .i64 r6, .int .i64 r7, .int .i64 r8, .int .i64 r9, .int .i64 r10, .int .i64 r11]) ∧ Below w.heap.size w w' := by
  have hu40 := Try.underlying40
  have hu24 := Try.underlying24
  have HB := az (Below.refl w.heap.size w)
  have H := h
  clear h
  unfold impl_BodyPush.f at H
  replace H := qH H
  obtain ⟨t1, A1, H⟩ := H
  try dsimp only at H
  by_cases c : t1 = true
  · subst c
    rw [if_pos rfl] at H
    replace H := qH H
    obtain ⟨t2, A2, H⟩ := H
    try dsimp only at H
    by_cases d : t2 = true
    · subst d
      rw [if_pos rfl] at H
      have A3 := az H
      clear H
      go_enter Try.func21, Try.ntmps21
      go_wp2_with (first | ((with_reducible refine gate_dst (N := 2) rfl ?_); refine bx (N := 2) (cs := #[.int .i64 a0, .int .i64 a1, .int .i64 a2, .int .i64 a3, .int .i64 a4, .int .i64 a5, .int .i64 a6, .int .i64 a7, .int .i64 a8, .int .i64 a9, .int .i64 a10, .int .i64 a11]) (t := 40) ?_; intro gb2 hg w2 hbox hb; have BK2 := az hbox; have GW2 := az (gE hg (qL HB) : w.heap.size ≤ gb2); replace HB := bS HB hb; clear hb hbox hg) | ((with_reducible refine gate_dst (N := 3) rfl ?_); refine bx (N := 3) (cs := #[.int .i64 p0, .int .i64 p1]) (t := 24) ?_; intro gb3 hg w3 hbox hb; have BK3 := az hbox; have GW3 := az (gE hg (qL HB) : w.heap.size ≤ gb3); obtain ⟨NB2_3, NB3_2⟩ := nPB BK2 hg; replace BK2 := kBB BK2 hb; replace HB := bS HB hb; clear hb hbox hg) | ((with_reducible refine gate_dst (N := 4) rfl ?_); refine bx (N := 4) (cs := #[.int .i64 0, .int .i64 0, .int .i64 0, .int .i64 0, .int .i64 0, .int .i64 0, .int .i64 0, .int .i64 0, .int .i64 0, .int .i64 0, .int .i64 0, .int .i64 0]) (t := 40) ?_; intro gb4 hg w4 hbox hb; have BK4 := az hbox; have GW4 := az (gE hg (qL HB) : w.heap.size ≤ gb4); obtain ⟨NB2_4, NB4_2⟩ := nPB BK2 hg; obtain ⟨NB3_4, NB4_3⟩ := nPB BK3 hg; replace BK2 := kBB BK2 hb; replace BK3 := kBB BK3 hb; replace HB := bS HB hb; clear hb hbox hg; have hnb23 := NB2_3.out; have hnb32 := NB3_2.out; have hnb24 := NB2_4.out; have hnb42 := NB4_2.out; have hnb34 := NB3_4.out; have hnb43 := NB4_3.out; obtain ⟨za_0, za_1, za_2, za_3, za_4, za_5, za_6, za_7, za_8, za_9, za_10, za_11⟩ := cz12 BK2.out; obtain ⟨fa_0, fa_1, fa_2, fa_3, fa_4, fa_5, fa_6, fa_7, fa_8, fa_9, fa_10, fa_11⟩ := fz12 BK2.out) | ((with_reducible refine gate_callee (f := 27) rfl ?_); refine gl (some 6) Try.func27 #[.agg #[.int .i64 a0, .int .i64 a1, .int .i64 a2, .int .i64 a3, .int .i64 a4, .int .i64 a5, .int .i64 a6, .int .i64 a7, .int .i64 a8, .int .i64 a9, .int .i64 a10, .int .i64 a11]] ?_; (with_reducible refine (impl_BodyOk.calls k a0 a1 a2 a3 a4 a5 a6 a7 a8 a9 a10 a11 true _ A1.out).mono ?_); rintro e w5 ⟨rfl, hb⟩; refine ⟨_, rfl, ?_⟩; replace BK2 := kBB BK2 hb; replace BK3 := kBB BK3 hb; replace BK4 := kBB BK4 hb; replace HB := bS HB hb; clear hb; obtain ⟨zb_0, zb_1⟩ := cz2 BK3.out; have fb_0 := blk_frozen BK3.out 0; have fb_1 := blk_frozen BK3.out 1) | (go_at_call 51; (with_reducible refine (impl_isDrive.calls p0 p1 true _ A2.out).mono ?_); rintro e w6 ⟨rfl, hb⟩; replace BK2 := kBB BK2 hb; replace BK3 := kBB BK3 hb; replace BK4 := kBB BK4 hb; replace HB := bS HB hb; clear hb; obtain ⟨zc_0, zc_1⟩ := cz2 BK3.out; have fc_0 := blk_frozen BK3.out 0; have fc_1 := blk_frozen BK3.out 1) | ((with_reducible refine gate_callee (f := 52) rfl ?_); refine gl (some 15) Try.func52 #[.pointer (some ⟨gb2, 0, none⟩), .agg #[.int .i64 p0, .int .i64 p1]] ?_; (with_reducible refine (impl_Body_push.calls gb2 a0 a1 a2 a3 a4 a5 a6 a7 a8 a9 a10 a11 p0 p1 r0 r1 r2 r3 r4 r5 r6 r7 r8 r9 r10 r11 w _ ?s1 GW2.out ?s2 A3.out).mono ?_); (case s1 => exact qL HB); (case s2 => exact qB BK2); rintro e w7 ⟨rfl, hB2, hk, hb⟩; refine ⟨_, rfl, ?_⟩; replace BK2 := az hB2; replace BK4 := kKB BK4 hk NB4_2; replace HB := az hb; clear hb hk hB2; obtain ⟨zd_0, zd_1, zd_2, zd_3, zd_4, zd_5, zd_6, zd_7, zd_8, zd_9, zd_10, zd_11⟩ := cz12 BK2.out; obtain ⟨fd_0, fd_1, fd_2, fd_3, fd_4, fd_5, fd_6, fd_7, fd_8, fd_9, fd_10, fd_11⟩ := fz12 BK2.out; obtain ⟨ze_0, ze_1, ze_2, ze_3, ze_4, ze_5, ze_6, ze_7, ze_8, ze_9, ze_10, ze_11⟩ := cz12 BK4.out; obtain ⟨fe_0, fe_1, fe_2, fe_3, fe_4, fe_5, fe_6, fe_7, fe_8, fe_9, fe_10, fe_11⟩ := fz12 BK4.out))
      refine bodyPost_ret (results_cell_row rfl _ _ gb4 40 #[.int .i64 r0, .int .i64 r1, .int .i64 r2, .int .i64 r3, .int .i64 r4, .int .i64 r5, .int .i64 r6, .int .i64 r7, .int .i64 r8, .int .i64 r9, .int .i64 r10, .int .i64 r11] (0, 0) _ rfl (qP BK4) Try.underlying40 rfl (by kernel_rfl)) rfl ?_
      exact ⟨qE, qL HB⟩
    replace d := Bool.eq_false_iff.mpr d
    subst d
    rw [if_neg (show ¬ (false = true) by decide)] at H
    simp only [Option.some.injEq, Prod.mk.injEq] at H
    obtain ⟨rfl, rfl, rfl, rfl, rfl, rfl, rfl, rfl, rfl, rfl, rfl, rfl⟩ := H
    go_enter Try.func21, Try.ntmps21
    go_wp2_with (first | ((with_reducible refine gate_dst (N := 2) rfl ?_); refine bx (N := 2) (cs := #[.int .i64 a0, .int .i64 a1, .int .i64 a2, .int .i64 a3, .int .i64 a4, .int .i64 a5, .int .i64 a6, .int .i64 a7, .int .i64 a8, .int .i64 a9, .int .i64 a10, .int .i64 a11]) (t := 40) ?_; intro gb2 hg w2 hbox hb; have BK2 := az hbox; have GW2 := az (gE hg (qL HB) : w.heap.size ≤ gb2); replace HB := bS HB hb; clear hb hbox hg) | ((with_reducible refine gate_dst (N := 3) rfl ?_); refine bx (N := 3) (cs := #[.int .i64 p0, .int .i64 p1]) (t := 24) ?_; intro gb3 hg w3 hbox hb; have BK3 := az hbox; have GW3 := az (gE hg (qL HB) : w.heap.size ≤ gb3); obtain ⟨NB2_3, NB3_2⟩ := nPB BK2 hg; replace BK2 := kBB BK2 hb; replace HB := bS HB hb; clear hb hbox hg) | ((with_reducible refine gate_dst (N := 4) rfl ?_); refine bx (N := 4) (cs := #[.int .i64 0, .int .i64 0, .int .i64 0, .int .i64 0, .int .i64 0, .int .i64 0, .int .i64 0, .int .i64 0, .int .i64 0, .int .i64 0, .int .i64 0, .int .i64 0]) (t := 40) ?_; intro gb4 hg w4 hbox hb; have BK4 := az hbox; have GW4 := az (gE hg (qL HB) : w.heap.size ≤ gb4); obtain ⟨NB2_4, NB4_2⟩ := nPB BK2 hg; obtain ⟨NB3_4, NB4_3⟩ := nPB BK3 hg; replace BK2 := kBB BK2 hb; replace BK3 := kBB BK3 hb; replace HB := bS HB hb; clear hb hbox hg; have hnb23 := NB2_3.out; have hnb32 := NB3_2.out; have hnb24 := NB2_4.out; have hnb42 := NB4_2.out; have hnb34 := NB3_4.out; have hnb43 := NB4_3.out; obtain ⟨za_0, za_1, za_2, za_3, za_4, za_5, za_6, za_7, za_8, za_9, za_10, za_11⟩ := cz12 BK2.out; obtain ⟨fa_0, fa_1, fa_2, fa_3, fa_4, fa_5, fa_6, fa_7, fa_8, fa_9, fa_10, fa_11⟩ := fz12 BK2.out) | ((with_reducible refine gate_callee (f := 27) rfl ?_); refine gl (some 6) Try.func27 #[.agg #[.int .i64 a0, .int .i64 a1, .int .i64 a2, .int .i64 a3, .int .i64 a4, .int .i64 a5, .int .i64 a6, .int .i64 a7, .int .i64 a8, .int .i64 a9, .int .i64 a10, .int .i64 a11]] ?_; (with_reducible refine (impl_BodyOk.calls k a0 a1 a2 a3 a4 a5 a6 a7 a8 a9 a10 a11 true _ A1.out).mono ?_); rintro e w5 ⟨rfl, hb⟩; refine ⟨_, rfl, ?_⟩; replace BK2 := kBB BK2 hb; replace BK3 := kBB BK3 hb; replace BK4 := kBB BK4 hb; replace HB := bS HB hb; clear hb; obtain ⟨zb_0, zb_1⟩ := cz2 BK3.out; have fb_0 := blk_frozen BK3.out 0; have fb_1 := blk_frozen BK3.out 1) | (go_at_call 51; (with_reducible refine (impl_isDrive.calls p0 p1 false _ A2.out).mono ?_); rintro e w6 ⟨rfl, hb⟩; replace BK2 := kBB BK2 hb; replace BK3 := kBB BK3 hb; replace BK4 := kBB BK4 hb; replace HB := bS HB hb; clear hb; obtain ⟨zc_0, zc_1, zc_2, zc_3, zc_4, zc_5, zc_6, zc_7, zc_8, zc_9, zc_10, zc_11⟩ := cz12 BK4.out; obtain ⟨fc_0, fc_1, fc_2, fc_3, fc_4, fc_5, fc_6, fc_7, fc_8, fc_9, fc_10, fc_11⟩ := fz12 BK4.out))
    refine bodyPost_ret (results_cell_row rfl _ _ gb4 40 #[.int .i64 0, .int .i64 0, .int .i64 0, .int .i64 0, .int .i64 0, .int .i64 0, .int .i64 0, .int .i64 0, .int .i64 0, .int .i64 0, .int .i64 0, .int .i64 0] (0, 0) _ rfl (qP BK4) Try.underlying40 rfl (by kernel_rfl)) rfl ?_
    exact ⟨qE, qL HB⟩
  replace c := Bool.eq_false_iff.mpr c
  subst c
  rw [if_neg (show ¬ (false = true) by decide)] at H
  simp only [Option.some.injEq, Prod.mk.injEq] at H
  obtain ⟨rfl, rfl, rfl, rfl, rfl, rfl, rfl, rfl, rfl, rfl, rfl, rfl⟩ := H
  go_enter Try.func21, Try.ntmps21
  go_wp2_with (first | ((with_reducible refine gate_dst (N := 2) rfl ?_); refine bx (N := 2) (cs := #[.int .i64 a0, .int .i64 a1, .int .i64 a2, .int .i64 a3, .int .i64 a4, .int .i64 a5, .int .i64 a6, .int .i64 a7, .int .i64 a8, .int .i64 a9, .int .i64 a10, .int .i64 a11]) (t := 40) ?_; intro gb2 hg w2 hbox hb; have BK2 := az hbox; have GW2 := az (gE hg (qL HB) : w.heap.size ≤ gb2); replace HB := bS HB hb; clear hb hbox hg) | ((with_reducible refine gate_dst (N := 3) rfl ?_); refine bx (N := 3) (cs := #[.int .i64 p0, .int .i64 p1]) (t := 24) ?_; intro gb3 hg w3 hbox hb; have BK3 := az hbox; have GW3 := az (gE hg (qL HB) : w.heap.size ≤ gb3); obtain ⟨NB2_3, NB3_2⟩ := nPB BK2 hg; replace BK2 := kBB BK2 hb; replace HB := bS HB hb; clear hb hbox hg) | ((with_reducible refine gate_dst (N := 4) rfl ?_); refine bx (N := 4) (cs := #[.int .i64 0, .int .i64 0, .int .i64 0, .int .i64 0, .int .i64 0, .int .i64 0, .int .i64 0, .int .i64 0, .int .i64 0, .int .i64 0, .int .i64 0, .int .i64 0]) (t := 40) ?_; intro gb4 hg w4 hbox hb; have BK4 := az hbox; have GW4 := az (gE hg (qL HB) : w.heap.size ≤ gb4); obtain ⟨NB2_4, NB4_2⟩ := nPB BK2 hg; obtain ⟨NB3_4, NB4_3⟩ := nPB BK3 hg; replace BK2 := kBB BK2 hb; replace BK3 := kBB BK3 hb; replace HB := bS HB hb; clear hb hbox hg; have hnb23 := NB2_3.out; have hnb32 := NB3_2.out; have hnb24 := NB2_4.out; have hnb42 := NB4_2.out; have hnb34 := NB3_4.out; have hnb43 := NB4_3.out; obtain ⟨za_0, za_1, za_2, za_3, za_4, za_5, za_6, za_7, za_8, za_9, za_10, za_11⟩ := cz12 BK2.out; obtain ⟨fa_0, fa_1, fa_2, fa_3, fa_4, fa_5, fa_6, fa_7, fa_8, fa_9, fa_10, fa_11⟩ := fz12 BK2.out) | ((with_reducible refine gate_callee (f := 27) rfl ?_); refine gl (some 6) Try.func27 #[.agg #[.int .i64 a0, .int .i64 a1, .int .i64 a2, .int .i64 a3, .int .i64 a4, .int .i64 a5, .int .i64 a6, .int .i64 a7, .int .i64 a8, .int .i64 a9, .int .i64 a10, .int .i64 a11]] ?_; (with_reducible refine (impl_BodyOk.calls k a0 a1 a2 a3 a4 a5 a6 a7 a8 a9 a10 a11 false _ A1.out).mono ?_); rintro e w5 ⟨rfl, hb⟩; refine ⟨_, rfl, ?_⟩; replace BK2 := kBB BK2 hb; replace BK3 := kBB BK3 hb; replace BK4 := kBB BK4 hb; replace HB := bS HB hb; clear hb; obtain ⟨zb_0, zb_1, zb_2, zb_3, zb_4, zb_5, zb_6, zb_7, zb_8, zb_9, zb_10, zb_11⟩ := cz12 BK4.out; obtain ⟨fb_0, fb_1, fb_2, fb_3, fb_4, fb_5, fb_6, fb_7, fb_8, fb_9, fb_10, fb_11⟩ := fz12 BK4.out))
  refine bodyPost_ret (results_cell_row rfl _ _ gb4 40 #[.int .i64 0, .int .i64 0, .int .i64 0, .int .i64 0, .int .i64 0, .int .i64 0, .int .i64 0, .int .i64 0, .int .i64 0, .int .i64 0, .int .i64 0, .int .i64 0] (0, 0) _ rfl (qP BK4) Try.underlying40 rfl (by kernel_rfl)) rfl ?_
  exact ⟨qE, qL HB⟩
end Go.Proofs.Ytihajbjkjclmoaa.PBig
