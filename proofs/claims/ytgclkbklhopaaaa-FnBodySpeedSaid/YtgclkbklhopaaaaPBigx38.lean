-- MINE
import Derived.Test.YtgclkbklhopaaaaSq
import Derived.Test.YtgclkbklhopaaaaPBigx900
namespace Go.Proofs.Ytgclkbklhopaaaa.PBig
open Go.RowKit Go.Proofs.YtgclkbklhopaaaaW.PrintWords Go.Proofs.YtgclkbklhopaaaaW.PrintLast Go.Proofs.YtgclkbklhopaaaaW.PrintMore
attribute [local go_sem] max2_int min2_int max_two min_two max_three min_three max_four min_four   -- for this text's walks alone
set_option linter.unusedVariables false
set_option linter.unusedSimpArgs false

attribute [local go_sem high] eqA24
/-! ### impl_BodyOk: function 52 -/
mutual
def impl_BodyOk.j0 : Nat → Bool → Int → Int → Int → Int → Int → Int → Int → Int → Int → Int → Int → Int → Option (Bool)
  | 0, _, _, _, _, _, _, _, _, _, _, _, _, _ => none
  | k + 1, x31, x308000, x308001, x308002, x308003, x308004, x308005, x308006, x308007, x308008, x308009, x308010, x308011 => if x31 = true then (some false) else ((impl_in.f x308009 0 256).bind fun t313 => (if t313 = true then ((impl_in.f x308010 0 256).bind fun t314 => (if t314 = true then ((impl_in.f x308011 0 8).bind fun t315 => (impl_BodyOk.j1 k (!t315) x308000 x308001 x308002 x308003 x308004 x308005 x308006 x308007 x308008 x308009 x308010 x308011)) else (impl_BodyOk.j1 k true x308000 x308001 x308002 x308003 x308004 x308005 x308006 x308007 x308008 x308009 x308010 x308011))) else (impl_BodyOk.j1 k true x308000 x308001 x308002 x308003 x308004 x308005 x308006 x308007 x308008 x308009 x308010 x308011)))
def impl_BodyOk.j1 : Nat → Bool → Int → Int → Int → Int → Int → Int → Int → Int → Int → Int → Int → Int → Option (Bool)
  | 0, _, _, _, _, _, _, _, _, _, _, _, _, _ => none
  | k + 1, x47, x308000, x308001, x308002, x308003, x308004, x308005, x308006, x308007, x308008, x308009, x308010, x308011 => if x47 = true then (some false) else ((impl_Body_fixed.f x308000 x308001 x308002 x308003 x308004 x308005 x308006 x308007 x308008 x308009 x308010 x308011).bind fun t316 => (if t316 = true then (if (x308006 == 0 && (x308007 == 0)) = true then (if x308011 = 0 then ((impl_Body_sleeps.f x308000 x308001 x308002 x308003 x308004 x308005 x308006 x308007 x308008 x308009 x308010 x308011).bind fun t317 => (if t317 = true then (some (x308006 == 0 && (x308007 == 0))) else (some true))) else (some false)) else (some false)) else ((impl_Body_sleeps.f x308000 x308001 x308002 x308003 x308004 x308005 x308006 x308007 x308008 x308009 x308010 x308011).bind fun t318 => (if t318 = true then (some (x308006 == 0 && (x308007 == 0))) else (some true)))))
end
def impl_BodyOk.f (k : Nat) (a0_0 : Int) (a0_1 : Int) (a0_2 : Int) (a0_3 : Int) (a0_4 : Int) (a0_5 : Int) (a0_6 : Int) (a0_7 : Int) (a0_8 : Int) (a0_9 : Int) (a0_10 : Int) (a0_11 : Int) : Option (Bool) := (impl_in.f a0_0 0 999999999).bind fun t308 => (if t308 = true then ((impl_ShapeOk.f a0_1 a0_2 a0_3).bind fun t309 => (if t309 = true then ((impl_isPlace.f a0_4 a0_5).bind fun t310 => (if t310 = true then ((impl_isDrive.f a0_6 a0_7).bind fun t311 => (if t311 = true then ((impl_in.f a0_8 0 1000).bind fun t312 => (impl_BodyOk.j0 k (!t312) a0_0 a0_1 a0_2 a0_3 a0_4 a0_5 a0_6 a0_7 a0_8 a0_9 a0_10 a0_11)) else (impl_BodyOk.j0 k true a0_0 a0_1 a0_2 a0_3 a0_4 a0_5 a0_6 a0_7 a0_8 a0_9 a0_10 a0_11))) else (impl_BodyOk.j0 k true a0_0 a0_1 a0_2 a0_3 a0_4 a0_5 a0_6 a0_7 a0_8 a0_9 a0_10 a0_11))) else (impl_BodyOk.j0 k true a0_0 a0_1 a0_2 a0_3 a0_4 a0_5 a0_6 a0_7 a0_8 a0_9 a0_10 a0_11))) else (impl_BodyOk.j0 k true a0_0 a0_1 a0_2 a0_3 a0_4 a0_5 a0_6 a0_7 a0_8 a0_9 a0_10 a0_11))
theorem impl_BodyOk.mono_l : ∀ k, (∀ y0 y1 y2 y3 y4 y5 y6 y7 y8 y9 y10 y11 y12, LeO (impl_BodyOk.j0 k y0 y1 y2 y3 y4 y5 y6 y7 y8 y9 y10 y11 y12) (impl_BodyOk.j0 (k + 1) y0 y1 y2 y3 y4 y5 y6 y7 y8 y9 y10 y11 y12)) ∧ (∀ y0 y1 y2 y3 y4 y5 y6 y7 y8 y9 y10 y11 y12, LeO (impl_BodyOk.j1 k y0 y1 y2 y3 y4 y5 y6 y7 y8 y9 y10 y11 y12) (impl_BodyOk.j1 (k + 1) y0 y1 y2 y3 y4 y5 y6 y7 y8 y9 y10 y11 y12))
  | 0 => ⟨fun _ _ _ _ _ _ _ _ _ _ _ _ _ r h => by simp [impl_BodyOk.j0] at h, fun _ _ _ _ _ _ _ _ _ _ _ _ _ r h => by simp [impl_BodyOk.j1] at h⟩
  | k + 1 => by
    obtain ⟨ih0, ih1⟩ := impl_BodyOk.mono_l k
    refine ⟨?_, ?_⟩
    · intro y0 y1 y2 y3 y4 y5 y6 y7 y8 y9 y10 y11 y12
      unfold impl_BodyOk.j0
      repeat' first
      | (with_reducible exact ih0 _ _ _ _ _ _ _ _ _ _ _ _ _)
      | (with_reducible exact ih1 _ _ _ _ _ _ _ _ _ _ _ _ _)
      | (with_reducible exact LeO.refl _)
      | (with_reducible exact LeO.none _)
      | (with_reducible refine LeO.ite ?_ ?_)
      | (with_reducible refine LeO.bind ?_ (fun _ => ?_))
      | exact ih0 _ _ _ _ _ _ _ _ _ _ _ _ _
      | exact ih1 _ _ _ _ _ _ _ _ _ _ _ _ _
      | exact LeO.none _
      | refine LeO.ite ?_ ?_
      | refine LeO.bind ?_ (fun _ => ?_)
    · intro y0 y1 y2 y3 y4 y5 y6 y7 y8 y9 y10 y11 y12
      unfold impl_BodyOk.j1
      repeat' first
      | (with_reducible exact ih0 _ _ _ _ _ _ _ _ _ _ _ _ _)
      | (with_reducible exact ih1 _ _ _ _ _ _ _ _ _ _ _ _ _)
      | (with_reducible exact LeO.refl _)
      | (with_reducible exact LeO.none _)
      | (with_reducible refine LeO.ite ?_ ?_)
      | (with_reducible refine LeO.bind ?_ (fun _ => ?_))
      | exact ih0 _ _ _ _ _ _ _ _ _ _ _ _ _
      | exact ih1 _ _ _ _ _ _ _ _ _ _ _ _ _
      | exact LeO.none _
      | refine LeO.ite ?_ ?_
      | refine LeO.bind ?_ (fun _ => ?_)
theorem impl_BodyOk.mono : ∀ a0 a1 a2 a3 a4 a5 a6 a7 a8 a9 a10 a11 k, LeO (impl_BodyOk.f k a0 a1 a2 a3 a4 a5 a6 a7 a8 a9 a10 a11) (impl_BodyOk.f (k + 1) a0 a1 a2 a3 a4 a5 a6 a7 a8 a9 a10 a11) := by
  intro a0 a1 a2 a3 a4 a5 a6 a7 a8 a9 a10 a11 k
  obtain ⟨ih0, ih1⟩ := impl_BodyOk.mono_l k
  unfold impl_BodyOk.f
  repeat' first
      | (with_reducible exact ih0 _ _ _ _ _ _ _ _ _ _ _ _ _)
      | (with_reducible exact ih1 _ _ _ _ _ _ _ _ _ _ _ _ _)
      | (with_reducible exact LeO.refl _)
      | (with_reducible exact LeO.none _)
      | (with_reducible refine LeO.ite ?_ ?_)
      | (with_reducible refine LeO.bind ?_ (fun _ => ?_))
      | exact ih0 _ _ _ _ _ _ _ _ _ _ _ _ _
      | exact ih1 _ _ _ _ _ _ _ _ _ _ _ _ _
      | exact LeO.none _
      | refine LeO.ite ?_ ?_
      | refine LeO.bind ?_ (fun _ => ?_)
set_option maxHeartbeats 8000000 in
set_option maxRecDepth 100000 in
theorem impl_BodyOk.calls (k : Nat) (a0_0 : Int) (a0_1 : Int) (a0_2 : Int) (a0_3 : Int) (a0_4 : Int) (a0_5 : Int) (a0_6 : Int) (a0_7 : Int) (a0_8 : Int) (a0_9 : Int) (a0_10 : Int) (a0_11 : Int) (r : Bool) (w : World) (h : impl_BodyOk.f k a0_0 a0_1 a0_2 a0_3 a0_4 a0_5 a0_6 a0_7 a0_8 a0_9 a0_10 a0_11 = some r) :
    Calls Try.prog 52 #[.agg #[.int .i64 a0_0, .int .i64 a0_1, .int .i64 a0_2, .int .i64 a0_3, .int .i64 a0_4, .int .i64 a0_5, .int .i64 a0_6, .int .i64 a0_7, .int .i64 a0_8, .int .i64 a0_9, .int .i64 a0_10, .int .i64 a0_11]] w fun e w' => e = .returned (.bool r) ∧ Below w.heap.size w w' := by
  have hu41 := Try.underlying41
  have hu39 := Try.underlying39
  have hu24 := Try.underlying24
  have HB := Aside0.mk (Below.refl w.heap.size w)
  have H : ((impl_in.f a0_0 0 999999999).bind fun t308 => (if t308 = true then ((impl_ShapeOk.f a0_1 a0_2 a0_3).bind fun t309 => (if t309 = true then ((impl_isPlace.f a0_4 a0_5).bind fun t310 => (if t310 = true then ((impl_isDrive.f a0_6 a0_7).bind fun t311 => (if t311 = true then ((impl_in.f a0_8 0 1000).bind fun t312 => (impl_BodyOk.j0 k (!t312) a0_0 a0_1 a0_2 a0_3 a0_4 a0_5 a0_6 a0_7 a0_8 a0_9 a0_10 a0_11)) else (impl_BodyOk.j0 k true a0_0 a0_1 a0_2 a0_3 a0_4 a0_5 a0_6 a0_7 a0_8 a0_9 a0_10 a0_11))) else (impl_BodyOk.j0 k true a0_0 a0_1 a0_2 a0_3 a0_4 a0_5 a0_6 a0_7 a0_8 a0_9 a0_10 a0_11))) else (impl_BodyOk.j0 k true a0_0 a0_1 a0_2 a0_3 a0_4 a0_5 a0_6 a0_7 a0_8 a0_9 a0_10 a0_11))) else (impl_BodyOk.j0 k true a0_0 a0_1 a0_2 a0_3 a0_4 a0_5 a0_6 a0_7 a0_8 a0_9 a0_10 a0_11))) = some r := h
  clear h
  have HC2 := Aside0.mk H
  clear H
  go_enter Try.func52, Try.ntmps52
  go_upto_region 1 with (first | ((with_reducible refine gate_dst (N := 1) rfl ?_); refine bx (N := 1) (cs := #[.int .i64 a0_0, .int .i64 a0_1, .int .i64 a0_2, .int .i64 a0_3, .int .i64 a0_4, .int .i64 a0_5, .int .i64 a0_6, .int .i64 a0_7, .int .i64 a0_8, .int .i64 a0_9, .int .i64 a0_10, .int .i64 a0_11]) (t := 41) ?_; intro gb307 hg w3 hbox hb; have BK307 := Aside0.mk (hbox); have GW307 := Aside0.mk ((gE hg (qL HB) : w.heap.size ≤ gb307)); have GE307 := Aside0.mk ((gE hg (qL HB) : w.heap.size ≤ gb307)); replace HB := bS HB hb; clear hb hbox hg))
  (try simp only [Act.put, List.setIfInBounds_toArray, List.set_cons_zero, List.set_cons_succ])
  go_cut [31] (fun v31 wc => ∃ (kq : Nat) (x31_1 : Bool), v31 = .bool x31_1 ∧ Aside0 (impl_BodyOk.j0 kq x31_1 a0_0 a0_1 a0_2 a0_3 a0_4 a0_5 a0_6 a0_7 a0_8 a0_9 a0_10 a0_11 = some r) ∧ Aside0 (kq ≤ k) ∧ Aside0 (wc.heap[gb307]? = some (.cells #[.int .i64 a0_0, .int .i64 a0_1, .int .i64 a0_2, .int .i64 a0_3, .int .i64 a0_4, .int .i64 a0_5, .int .i64 a0_6, .int .i64 a0_7, .int .i64 a0_8, .int .i64 a0_9, .int .i64 a0_10, .int .i64 a0_11] 41 (0, 0))) ∧ Aside0 (Below w.heap.size w wc))
  case first =>
    have H := HC2.out
    clear HC2
    replace H := qH H
    obtain ⟨t308, A4, H⟩ := H
    try dsimp only at H
    by_cases c5 : t308 = true
    · subst c5
      have H1 : ((impl_ShapeOk.f a0_1 a0_2 a0_3).bind fun t309 => (if t309 = true then ((impl_isPlace.f a0_4 a0_5).bind fun t310 => (if t310 = true then ((impl_isDrive.f a0_6 a0_7).bind fun t311 => (if t311 = true then ((impl_in.f a0_8 0 1000).bind fun t312 => (impl_BodyOk.j0 k (!t312) a0_0 a0_1 a0_2 a0_3 a0_4 a0_5 a0_6 a0_7 a0_8 a0_9 a0_10 a0_11)) else (impl_BodyOk.j0 k true a0_0 a0_1 a0_2 a0_3 a0_4 a0_5 a0_6 a0_7 a0_8 a0_9 a0_10 a0_11))) else (impl_BodyOk.j0 k true a0_0 a0_1 a0_2 a0_3 a0_4 a0_5 a0_6 a0_7 a0_8 a0_9 a0_10 a0_11))) else (impl_BodyOk.j0 k true a0_0 a0_1 a0_2 a0_3 a0_4 a0_5 a0_6 a0_7 a0_8 a0_9 a0_10 a0_11))) = some r := by rw [if_pos rfl] at H; exact H
      clear H
      have H := H1
      clear H1
      replace H := qH H
      obtain ⟨t309, A6, H⟩ := H
      try dsimp only at H
      by_cases c7 : t309 = true
      · subst c7
        have H1 : ((impl_isPlace.f a0_4 a0_5).bind fun t310 => (if t310 = true then ((impl_isDrive.f a0_6 a0_7).bind fun t311 => (if t311 = true then ((impl_in.f a0_8 0 1000).bind fun t312 => (impl_BodyOk.j0 k (!t312) a0_0 a0_1 a0_2 a0_3 a0_4 a0_5 a0_6 a0_7 a0_8 a0_9 a0_10 a0_11)) else (impl_BodyOk.j0 k true a0_0 a0_1 a0_2 a0_3 a0_4 a0_5 a0_6 a0_7 a0_8 a0_9 a0_10 a0_11))) else (impl_BodyOk.j0 k true a0_0 a0_1 a0_2 a0_3 a0_4 a0_5 a0_6 a0_7 a0_8 a0_9 a0_10 a0_11))) = some r := by rw [if_pos rfl] at H; exact H
        clear H
        have H := H1
        clear H1
        replace H := qH H
        obtain ⟨t310, A8, H⟩ := H
        try dsimp only at H
        by_cases c9 : t310 = true
        · subst c9
          have H1 : ((impl_isDrive.f a0_6 a0_7).bind fun t311 => (if t311 = true then ((impl_in.f a0_8 0 1000).bind fun t312 => (impl_BodyOk.j0 k (!t312) a0_0 a0_1 a0_2 a0_3 a0_4 a0_5 a0_6 a0_7 a0_8 a0_9 a0_10 a0_11)) else (impl_BodyOk.j0 k true a0_0 a0_1 a0_2 a0_3 a0_4 a0_5 a0_6 a0_7 a0_8 a0_9 a0_10 a0_11))) = some r := by rw [if_pos rfl] at H; exact H
          clear H
          have H := H1
          clear H1
          replace H := qH H
          obtain ⟨t311, A10, H⟩ := H
          try dsimp only at H
          by_cases c11 : t311 = true
          · subst c11
            have H1 : ((impl_in.f a0_8 0 1000).bind fun t312 => (impl_BodyOk.j0 k (!t312) a0_0 a0_1 a0_2 a0_3 a0_4 a0_5 a0_6 a0_7 a0_8 a0_9 a0_10 a0_11)) = some r := by rw [if_pos rfl] at H; exact H
            clear H
            have H := H1
            clear H1
            replace H := qH H
            obtain ⟨t312, A12, H⟩ := H
            try dsimp only at H
            have H' := Aside0.mk H
            clear H
            obtain ⟨hcz13_0, hcz13_1, hcz13_2, hcz13_3, hcz13_4, hcz13_5, hcz13_6, hcz13_7, hcz13_8, hcz13_9, hcz13_10, hcz13_11⟩ := cz12 BK307.out
            obtain ⟨hfz13_0, hfz13_1, hfz13_2, hfz13_3, hfz13_4, hfz13_5, hfz13_6, hfz13_7, hfz13_8, hfz13_9, hfz13_10, hfz13_11⟩ := fz12 BK307.out
            go_wp2_with (first | ((with_reducible refine gate_callee (f := 89) rfl ?_); refine gl (some 6) Try.func89 #[.int .i64 a0_0, .int .i64 0, .int .i64 999999999] ?_; (with_reducible refine (impl_in.calls a0_0 0 999999999 true _ A4.out).mono ?_); rintro e w' ⟨rfl, ⟨nd, rfl⟩⟩; refine ⟨_, rfl, ?_⟩) | (go_at_call 37; (with_reducible refine (impl_ShapeOk.calls a0_1 a0_2 a0_3 true _ A6.out).mono ?_); rintro e w14 ⟨rfl, hb⟩; replace BK307 := kBB BK307 hb; replace HB := bS HB hb; clear hb; obtain ⟨hcz15_0, hcz15_1, hcz15_2, hcz15_3, hcz15_4, hcz15_5, hcz15_6, hcz15_7, hcz15_8, hcz15_9, hcz15_10, hcz15_11⟩ := cz12 BK307.out; obtain ⟨hfz15_0, hfz15_1, hfz15_2, hfz15_3, hfz15_4, hfz15_5, hfz15_6, hfz15_7, hfz15_8, hfz15_9, hfz15_10, hfz15_11⟩ := fz12 BK307.out) | (go_at_call 85; (with_reducible refine (impl_isPlace.calls a0_4 a0_5 true _ A8.out).mono ?_); rintro e w16 ⟨rfl, hb⟩; replace BK307 := kBB BK307 hb; replace HB := bS HB hb; clear hb; obtain ⟨hcz17_0, hcz17_1, hcz17_2, hcz17_3, hcz17_4, hcz17_5, hcz17_6, hcz17_7, hcz17_8, hcz17_9, hcz17_10, hcz17_11⟩ := cz12 BK307.out; obtain ⟨hfz17_0, hfz17_1, hfz17_2, hfz17_3, hfz17_4, hfz17_5, hfz17_6, hfz17_7, hfz17_8, hfz17_9, hfz17_10, hfz17_11⟩ := fz12 BK307.out) | (go_at_call 95; (with_reducible refine (impl_isDrive.calls a0_6 a0_7 true _ A10.out).mono ?_); rintro e w18 ⟨rfl, hb⟩; replace BK307 := kBB BK307 hb; replace HB := bS HB hb; clear hb; obtain ⟨hcz19_0, hcz19_1, hcz19_2, hcz19_3, hcz19_4, hcz19_5, hcz19_6, hcz19_7, hcz19_8, hcz19_9, hcz19_10, hcz19_11⟩ := cz12 BK307.out; obtain ⟨hfz19_0, hfz19_1, hfz19_2, hfz19_3, hfz19_4, hfz19_5, hfz19_6, hfz19_7, hfz19_8, hfz19_9, hfz19_10, hfz19_11⟩ := fz12 BK307.out) | (go_at_call 89; (with_reducible refine (impl_in.calls a0_8 0 1000 t312 _ A12.out).mono ?_); rintro e w' ⟨rfl, ⟨nd, rfl⟩⟩))
            go_meet
            case rel => exact ⟨_, (!t312), (by first | rfl | (simp; done) | (simp [*]; done)), H', ⟨by first | omega | exact Nat.le_refl _⟩, ⟨qF BK307⟩, ⟨qL HB⟩⟩
          replace c11 := Bool.eq_false_iff.mpr c11
          subst c11
          have H1 : (impl_BodyOk.j0 k true a0_0 a0_1 a0_2 a0_3 a0_4 a0_5 a0_6 a0_7 a0_8 a0_9 a0_10 a0_11) = some r := by rw [if_neg (show ¬ (false = true) by decide)] at H; exact H
          clear H
          have H := H1
          clear H1
          have H' := Aside0.mk H
          clear H
          obtain ⟨hcz20_0, hcz20_1, hcz20_2, hcz20_3, hcz20_4, hcz20_5, hcz20_6, hcz20_7, hcz20_8, hcz20_9, hcz20_10, hcz20_11⟩ := cz12 BK307.out
          obtain ⟨hfz20_0, hfz20_1, hfz20_2, hfz20_3, hfz20_4, hfz20_5, hfz20_6, hfz20_7, hfz20_8, hfz20_9, hfz20_10, hfz20_11⟩ := fz12 BK307.out
          go_wp2_with (first | ((with_reducible refine gate_callee (f := 89) rfl ?_); refine gl (some 6) Try.func89 #[.int .i64 a0_0, .int .i64 0, .int .i64 999999999] ?_; (with_reducible refine (impl_in.calls a0_0 0 999999999 true _ A4.out).mono ?_); rintro e w' ⟨rfl, ⟨nd, rfl⟩⟩; refine ⟨_, rfl, ?_⟩) | (go_at_call 37; (with_reducible refine (impl_ShapeOk.calls a0_1 a0_2 a0_3 true _ A6.out).mono ?_); rintro e w21 ⟨rfl, hb⟩; replace BK307 := kBB BK307 hb; replace HB := bS HB hb; clear hb; obtain ⟨hcz22_0, hcz22_1, hcz22_2, hcz22_3, hcz22_4, hcz22_5, hcz22_6, hcz22_7, hcz22_8, hcz22_9, hcz22_10, hcz22_11⟩ := cz12 BK307.out; obtain ⟨hfz22_0, hfz22_1, hfz22_2, hfz22_3, hfz22_4, hfz22_5, hfz22_6, hfz22_7, hfz22_8, hfz22_9, hfz22_10, hfz22_11⟩ := fz12 BK307.out) | (go_at_call 85; (with_reducible refine (impl_isPlace.calls a0_4 a0_5 true _ A8.out).mono ?_); rintro e w23 ⟨rfl, hb⟩; replace BK307 := kBB BK307 hb; replace HB := bS HB hb; clear hb; obtain ⟨hcz24_0, hcz24_1, hcz24_2, hcz24_3, hcz24_4, hcz24_5, hcz24_6, hcz24_7, hcz24_8, hcz24_9, hcz24_10, hcz24_11⟩ := cz12 BK307.out; obtain ⟨hfz24_0, hfz24_1, hfz24_2, hfz24_3, hfz24_4, hfz24_5, hfz24_6, hfz24_7, hfz24_8, hfz24_9, hfz24_10, hfz24_11⟩ := fz12 BK307.out) | (go_at_call 95; (with_reducible refine (impl_isDrive.calls a0_6 a0_7 false _ A10.out).mono ?_); rintro e w25 ⟨rfl, hb⟩; replace BK307 := kBB BK307 hb; replace HB := bS HB hb; clear hb))
          go_meet
          case rel => exact ⟨_, (true), (by first | rfl | (simp; done) | (simp [*]; done)), H', ⟨by first | omega | exact Nat.le_refl _⟩, ⟨qF BK307⟩, ⟨qL HB⟩⟩
        replace c9 := Bool.eq_false_iff.mpr c9
        subst c9
        have H1 : (impl_BodyOk.j0 k true a0_0 a0_1 a0_2 a0_3 a0_4 a0_5 a0_6 a0_7 a0_8 a0_9 a0_10 a0_11) = some r := by rw [if_neg (show ¬ (false = true) by decide)] at H; exact H
        clear H
        have H := H1
        clear H1
        have H' := Aside0.mk H
        clear H
        obtain ⟨hcz26_0, hcz26_1, hcz26_2, hcz26_3, hcz26_4, hcz26_5, hcz26_6, hcz26_7, hcz26_8, hcz26_9, hcz26_10, hcz26_11⟩ := cz12 BK307.out
        obtain ⟨hfz26_0, hfz26_1, hfz26_2, hfz26_3, hfz26_4, hfz26_5, hfz26_6, hfz26_7, hfz26_8, hfz26_9, hfz26_10, hfz26_11⟩ := fz12 BK307.out
        go_wp2_with (first | ((with_reducible refine gate_callee (f := 89) rfl ?_); refine gl (some 6) Try.func89 #[.int .i64 a0_0, .int .i64 0, .int .i64 999999999] ?_; (with_reducible refine (impl_in.calls a0_0 0 999999999 true _ A4.out).mono ?_); rintro e w' ⟨rfl, ⟨nd, rfl⟩⟩; refine ⟨_, rfl, ?_⟩) | (go_at_call 37; (with_reducible refine (impl_ShapeOk.calls a0_1 a0_2 a0_3 true _ A6.out).mono ?_); rintro e w27 ⟨rfl, hb⟩; replace BK307 := kBB BK307 hb; replace HB := bS HB hb; clear hb; obtain ⟨hcz28_0, hcz28_1, hcz28_2, hcz28_3, hcz28_4, hcz28_5, hcz28_6, hcz28_7, hcz28_8, hcz28_9, hcz28_10, hcz28_11⟩ := cz12 BK307.out; obtain ⟨hfz28_0, hfz28_1, hfz28_2, hfz28_3, hfz28_4, hfz28_5, hfz28_6, hfz28_7, hfz28_8, hfz28_9, hfz28_10, hfz28_11⟩ := fz12 BK307.out) | (go_at_call 85; (with_reducible refine (impl_isPlace.calls a0_4 a0_5 false _ A8.out).mono ?_); rintro e w29 ⟨rfl, hb⟩; replace BK307 := kBB BK307 hb; replace HB := bS HB hb; clear hb))
        go_meet
        case rel => exact ⟨_, (true), (by first | rfl | (simp; done) | (simp [*]; done)), H', ⟨by first | omega | exact Nat.le_refl _⟩, ⟨qF BK307⟩, ⟨qL HB⟩⟩
      replace c7 := Bool.eq_false_iff.mpr c7
      subst c7
      have H1 : (impl_BodyOk.j0 k true a0_0 a0_1 a0_2 a0_3 a0_4 a0_5 a0_6 a0_7 a0_8 a0_9 a0_10 a0_11) = some r := by rw [if_neg (show ¬ (false = true) by decide)] at H; exact H
      clear H
      have H := H1
      clear H1
      have H' := Aside0.mk H
      clear H
      obtain ⟨hcz30_0, hcz30_1, hcz30_2, hcz30_3, hcz30_4, hcz30_5, hcz30_6, hcz30_7, hcz30_8, hcz30_9, hcz30_10, hcz30_11⟩ := cz12 BK307.out
      obtain ⟨hfz30_0, hfz30_1, hfz30_2, hfz30_3, hfz30_4, hfz30_5, hfz30_6, hfz30_7, hfz30_8, hfz30_9, hfz30_10, hfz30_11⟩ := fz12 BK307.out
      go_wp2_with (first | ((with_reducible refine gate_callee (f := 89) rfl ?_); refine gl (some 6) Try.func89 #[.int .i64 a0_0, .int .i64 0, .int .i64 999999999] ?_; (with_reducible refine (impl_in.calls a0_0 0 999999999 true _ A4.out).mono ?_); rintro e w' ⟨rfl, ⟨nd, rfl⟩⟩; refine ⟨_, rfl, ?_⟩) | (go_at_call 37; (with_reducible refine (impl_ShapeOk.calls a0_1 a0_2 a0_3 false _ A6.out).mono ?_); rintro e w31 ⟨rfl, hb⟩; replace BK307 := kBB BK307 hb; replace HB := bS HB hb; clear hb))
      go_meet
      case rel => exact ⟨_, (true), (by first | rfl | (simp; done) | (simp [*]; done)), H', ⟨by first | omega | exact Nat.le_refl _⟩, ⟨qF BK307⟩, ⟨qL HB⟩⟩
    replace c5 := Bool.eq_false_iff.mpr c5
    subst c5
    have H1 : (impl_BodyOk.j0 k true a0_0 a0_1 a0_2 a0_3 a0_4 a0_5 a0_6 a0_7 a0_8 a0_9 a0_10 a0_11) = some r := by rw [if_neg (show ¬ (false = true) by decide)] at H; exact H
    clear H
    have H := H1
    clear H1
    have H' := Aside0.mk H
    clear H
    obtain ⟨hcz32_0, hcz32_1, hcz32_2, hcz32_3, hcz32_4, hcz32_5, hcz32_6, hcz32_7, hcz32_8, hcz32_9, hcz32_10, hcz32_11⟩ := cz12 BK307.out
    obtain ⟨hfz32_0, hfz32_1, hfz32_2, hfz32_3, hfz32_4, hfz32_5, hfz32_6, hfz32_7, hfz32_8, hfz32_9, hfz32_10, hfz32_11⟩ := fz12 BK307.out
    go_wp2_with (first | ((with_reducible refine gate_callee (f := 89) rfl ?_); refine gl (some 6) Try.func89 #[.int .i64 a0_0, .int .i64 0, .int .i64 999999999] ?_; (with_reducible refine (impl_in.calls a0_0 0 999999999 false _ A4.out).mono ?_); rintro e w' ⟨rfl, ⟨nd, rfl⟩⟩; refine ⟨_, rfl, ?_⟩))
    go_meet
    case rel => exact ⟨_, (true), (by first | rfl | (simp; done) | (simp [*]; done)), H', ⟨by first | omega | exact Nat.le_refl _⟩, ⟨qF BK307⟩, ⟨qL HB⟩⟩
  case rest =>
    clear HC2
    (try clear c1); (try clear p2); (try clear c5); (try clear c7); (try clear c8); (try clear c9); (try clear c11); (try clear hcz13_0); (try clear hcz13_1); (try clear hcz13_10); (try clear hcz13_11); (try clear hcz13_2); (try clear hcz13_3); (try clear hcz13_4); (try clear hcz13_5); (try clear hcz13_6); (try clear hcz13_7); (try clear hcz13_8); (try clear hcz13_9); (try clear hcz15_0); (try clear hcz15_1); (try clear hcz15_10); (try clear hcz15_11); (try clear hcz15_2); (try clear hcz15_3); (try clear hcz15_4); (try clear hcz15_5); (try clear hcz15_6); (try clear hcz15_7); (try clear hcz15_8); (try clear hcz15_9); (try clear hcz17_0); (try clear hcz17_1); (try clear hcz17_10); (try clear hcz17_11); (try clear hcz17_2); (try clear hcz17_3); (try clear hcz17_4); (try clear hcz17_5); (try clear hcz17_6); (try clear hcz17_7); (try clear hcz17_8); (try clear hcz17_9); (try clear hcz19_0); (try clear hcz19_1); (try clear hcz19_10); (try clear hcz19_11); (try clear hcz19_2); (try clear hcz19_3); (try clear hcz19_4); (try clear hcz19_5); (try clear hcz19_6); (try clear hcz19_7); (try clear hcz19_8); (try clear hcz19_9); (try clear hcz20_0); (try clear hcz20_1); (try clear hcz20_10); (try clear hcz20_11); (try clear hcz20_2); (try clear hcz20_3); (try clear hcz20_4); (try clear hcz20_5); (try clear hcz20_6); (try clear hcz20_7); (try clear hcz20_8); (try clear hcz20_9); (try clear hcz22_0); (try clear hcz22_1); (try clear hcz22_10); (try clear hcz22_11); (try clear hcz22_2); (try clear hcz22_3); (try clear hcz22_4); (try clear hcz22_5); (try clear hcz22_6); (try clear hcz22_7); (try clear hcz22_8); (try clear hcz22_9); (try clear hcz24_0); (try clear hcz24_1); (try clear hcz24_10); (try clear hcz24_11); (try clear hcz24_2); (try clear hcz24_3); (try clear hcz24_4); (try clear hcz24_5); (try clear hcz24_6); (try clear hcz24_7); (try clear hcz24_8); (try clear hcz24_9); (try clear hcz26_0); (try clear hcz26_1); (try clear hcz26_10); (try clear hcz26_11); (try clear hcz26_2); (try clear hcz26_3); (try clear hcz26_4); (try clear hcz26_5); (try clear hcz26_6); (try clear hcz26_7); (try clear hcz26_8); (try clear hcz26_9); (try clear hcz28_0); (try clear hcz28_1); (try clear hcz28_10); (try clear hcz28_11); (try clear hcz28_2); (try clear hcz28_3); (try clear hcz28_4); (try clear hcz28_5); (try clear hcz28_6); (try clear hcz28_7); (try clear hcz28_8); (try clear hcz28_9); (try clear hcz30_0); (try clear hcz30_1); (try clear hcz30_10); (try clear hcz30_11); (try clear hcz30_2); (try clear hcz30_3); (try clear hcz30_4); (try clear hcz30_5); (try clear hcz30_6); (try clear hcz30_7); (try clear hcz30_8); (try clear hcz30_9); (try clear hcz32_0); (try clear hcz32_1); (try clear hcz32_10); (try clear hcz32_11); (try clear hcz32_2); (try clear hcz32_3); (try clear hcz32_4); (try clear hcz32_5); (try clear hcz32_6); (try clear hcz32_7); (try clear hcz32_8); (try clear hcz32_9); (try clear hfz13_0); (try clear hfz13_1); (try clear hfz13_10); (try clear hfz13_11); (try clear hfz13_2); (try clear hfz13_3); (try clear hfz13_4); (try clear hfz13_5); (try clear hfz13_6); (try clear hfz13_7); (try clear hfz13_8); (try clear hfz13_9); (try clear hfz15_0); (try clear hfz15_1); (try clear hfz15_10); (try clear hfz15_11); (try clear hfz15_2); (try clear hfz15_3); (try clear hfz15_4); (try clear hfz15_5); (try clear hfz15_6); (try clear hfz15_7); (try clear hfz15_8); (try clear hfz15_9); (try clear hfz17_0); (try clear hfz17_1); (try clear hfz17_10); (try clear hfz17_11); (try clear hfz17_2); (try clear hfz17_3); (try clear hfz17_4); (try clear hfz17_5); (try clear hfz17_6); (try clear hfz17_7); (try clear hfz17_8); (try clear hfz17_9); (try clear hfz19_0); (try clear hfz19_1); (try clear hfz19_10); (try clear hfz19_11); (try clear hfz19_2); (try clear hfz19_3); (try clear hfz19_4); (try clear hfz19_5); (try clear hfz19_6); (try clear hfz19_7); (try clear hfz19_8); (try clear hfz19_9); (try clear hfz20_0); (try clear hfz20_1); (try clear hfz20_10); (try clear hfz20_11); (try clear hfz20_2); (try clear hfz20_3); (try clear hfz20_4); (try clear hfz20_5); (try clear hfz20_6); (try clear hfz20_7); (try clear hfz20_8); (try clear hfz20_9); (try clear hfz22_0); (try clear hfz22_1); (try clear hfz22_10); (try clear hfz22_11); (try clear hfz22_2); (try clear hfz22_3); (try clear hfz22_4); (try clear hfz22_5); (try clear hfz22_6); (try clear hfz22_7); (try clear hfz22_8); (try clear hfz22_9); (try clear hfz24_0); (try clear hfz24_1); (try clear hfz24_10); (try clear hfz24_11); (try clear hfz24_2); (try clear hfz24_3); (try clear hfz24_4); (try clear hfz24_5); (try clear hfz24_6); (try clear hfz24_7); (try clear hfz24_8); (try clear hfz24_9); (try clear hfz26_0); (try clear hfz26_1); (try clear hfz26_10); (try clear hfz26_11); (try clear hfz26_2); (try clear hfz26_3); (try clear hfz26_4); (try clear hfz26_5); (try clear hfz26_6); (try clear hfz26_7); (try clear hfz26_8); (try clear hfz26_9); (try clear hfz28_0); (try clear hfz28_1); (try clear hfz28_10); (try clear hfz28_11); (try clear hfz28_2); (try clear hfz28_3); (try clear hfz28_4); (try clear hfz28_5); (try clear hfz28_6); (try clear hfz28_7); (try clear hfz28_8); (try clear hfz28_9); (try clear hfz30_0); (try clear hfz30_1); (try clear hfz30_10); (try clear hfz30_11); (try clear hfz30_2); (try clear hfz30_3); (try clear hfz30_4); (try clear hfz30_5); (try clear hfz30_6); (try clear hfz30_7); (try clear hfz30_8); (try clear hfz30_9); (try clear hfz32_0); (try clear hfz32_1); (try clear hfz32_10); (try clear hfz32_11); (try clear hfz32_2); (try clear hfz32_3); (try clear hfz32_4); (try clear hfz32_5); (try clear hfz32_6); (try clear hfz32_7); (try clear hfz32_8); (try clear hfz32_9)
    obtain ⟨kq, x31_1, rfl, HA, HJ1, BK307, HB⟩ := hcut
    cases kq with
    | zero => exact absurd HA.out (by simp [impl_BodyOk.j0])
    | succ kj1 => ?_
    have H := HA.out
    clear HA
    simp only [impl_BodyOk.j0] at H
    by_cases c33 : x31_1 = true
    · subst c33
      have H1 : (some false) = some r := by rw [if_pos rfl] at H; exact H
      clear H
      have H := H1
      clear H1
      obtain rfl := Option.some.inj H
      go_wp2
      go_ret
      exact ⟨qE, qL HB⟩
    replace c33 := Bool.eq_false_iff.mpr c33
    subst c33
    have H1 : ((impl_in.f a0_9 0 256).bind fun t313 => (if t313 = true then ((impl_in.f a0_10 0 256).bind fun t314 => (if t314 = true then ((impl_in.f a0_11 0 8).bind fun t315 => (impl_BodyOk.j1 kj1 (!t315) a0_0 a0_1 a0_2 a0_3 a0_4 a0_5 a0_6 a0_7 a0_8 a0_9 a0_10 a0_11)) else (impl_BodyOk.j1 kj1 true a0_0 a0_1 a0_2 a0_3 a0_4 a0_5 a0_6 a0_7 a0_8 a0_9 a0_10 a0_11))) else (impl_BodyOk.j1 kj1 true a0_0 a0_1 a0_2 a0_3 a0_4 a0_5 a0_6 a0_7 a0_8 a0_9 a0_10 a0_11))) = some r := by rw [if_neg (show ¬ (false = true) by decide)] at H; exact H
    clear H
    have H := H1
    clear H1
    have HC34 := Aside0.mk H
    clear H
    go_upto_region 3 with (fail)
    go_cut [47] (fun v47 wc => ∃ (kq : Nat) (x47_33 : Bool), v47 = .bool x47_33 ∧ Aside0 (impl_BodyOk.j1 kq x47_33 a0_0 a0_1 a0_2 a0_3 a0_4 a0_5 a0_6 a0_7 a0_8 a0_9 a0_10 a0_11 = some r) ∧ Aside0 (kq ≤ kj1) ∧ Aside0 (wc.heap[gb307]? = some (.cells #[.int .i64 a0_0, .int .i64 a0_1, .int .i64 a0_2, .int .i64 a0_3, .int .i64 a0_4, .int .i64 a0_5, .int .i64 a0_6, .int .i64 a0_7, .int .i64 a0_8, .int .i64 a0_9, .int .i64 a0_10, .int .i64 a0_11] 41 (0, 0))) ∧ Aside0 (Below w.heap.size w wc))
    case first =>
      have H := HC34.out
      clear HC34
      replace H := qH H
      obtain ⟨t313, A35, H⟩ := H
      try dsimp only at H
      by_cases c36 : t313 = true
      · subst c36
        have H1 : ((impl_in.f a0_10 0 256).bind fun t314 => (if t314 = true then ((impl_in.f a0_11 0 8).bind fun t315 => (impl_BodyOk.j1 kj1 (!t315) a0_0 a0_1 a0_2 a0_3 a0_4 a0_5 a0_6 a0_7 a0_8 a0_9 a0_10 a0_11)) else (impl_BodyOk.j1 kj1 true a0_0 a0_1 a0_2 a0_3 a0_4 a0_5 a0_6 a0_7 a0_8 a0_9 a0_10 a0_11))) = some r := by rw [if_pos rfl] at H; exact H
        clear H
        have H := H1
        clear H1
        replace H := qH H
        obtain ⟨t314, A37, H⟩ := H
        try dsimp only at H
        by_cases c38 : t314 = true
        · subst c38
          have H1 : ((impl_in.f a0_11 0 8).bind fun t315 => (impl_BodyOk.j1 kj1 (!t315) a0_0 a0_1 a0_2 a0_3 a0_4 a0_5 a0_6 a0_7 a0_8 a0_9 a0_10 a0_11)) = some r := by rw [if_pos rfl] at H; exact H
          clear H
          have H := H1
          clear H1
          replace H := qH H
          obtain ⟨t315, A39, H⟩ := H
          try dsimp only at H
          have H' := Aside0.mk H
          clear H
          obtain ⟨hcz40_0, hcz40_1, hcz40_2, hcz40_3, hcz40_4, hcz40_5, hcz40_6, hcz40_7, hcz40_8, hcz40_9, hcz40_10, hcz40_11⟩ := cz12 BK307.out
          obtain ⟨hfz40_0, hfz40_1, hfz40_2, hfz40_3, hfz40_4, hfz40_5, hfz40_6, hfz40_7, hfz40_8, hfz40_9, hfz40_10, hfz40_11⟩ := fz12 BK307.out
          go_wp2_with (first | ((with_reducible refine gate_callee (f := 89) rfl ?_); refine gl (some 34) Try.func89 #[.int .i64 a0_9, .int .i64 0, .int .i64 256] ?_; (with_reducible refine (impl_in.calls a0_9 0 256 true _ A35.out).mono ?_); rintro e w' ⟨rfl, ⟨nd, rfl⟩⟩; refine ⟨_, rfl, ?_⟩) | (go_at_call 89; (with_reducible refine (impl_in.calls a0_10 0 256 true _ A37.out).mono ?_); rintro e w' ⟨rfl, ⟨nd, rfl⟩⟩) | (go_at_call 89; (with_reducible refine (impl_in.calls a0_11 0 8 t315 _ A39.out).mono ?_); rintro e w' ⟨rfl, ⟨nd, rfl⟩⟩))
          go_meet
          case rel => exact ⟨_, (!t315), (by first | rfl | (simp; done) | (simp [*]; done)), H', ⟨by have := HJ1.out; first | omega | exact Nat.le_refl _⟩, ⟨qF BK307⟩, ⟨qL HB⟩⟩
        replace c38 := Bool.eq_false_iff.mpr c38
        subst c38
        have H1 : (impl_BodyOk.j1 kj1 true a0_0 a0_1 a0_2 a0_3 a0_4 a0_5 a0_6 a0_7 a0_8 a0_9 a0_10 a0_11) = some r := by rw [if_neg (show ¬ (false = true) by decide)] at H; exact H
        clear H
        have H := H1
        clear H1
        have H' := Aside0.mk H
        clear H
        obtain ⟨hcz41_0, hcz41_1, hcz41_2, hcz41_3, hcz41_4, hcz41_5, hcz41_6, hcz41_7, hcz41_8, hcz41_9, hcz41_10, hcz41_11⟩ := cz12 BK307.out
        obtain ⟨hfz41_0, hfz41_1, hfz41_2, hfz41_3, hfz41_4, hfz41_5, hfz41_6, hfz41_7, hfz41_8, hfz41_9, hfz41_10, hfz41_11⟩ := fz12 BK307.out
        go_wp2_with (first | ((with_reducible refine gate_callee (f := 89) rfl ?_); refine gl (some 34) Try.func89 #[.int .i64 a0_9, .int .i64 0, .int .i64 256] ?_; (with_reducible refine (impl_in.calls a0_9 0 256 true _ A35.out).mono ?_); rintro e w' ⟨rfl, ⟨nd, rfl⟩⟩; refine ⟨_, rfl, ?_⟩) | (go_at_call 89; (with_reducible refine (impl_in.calls a0_10 0 256 false _ A37.out).mono ?_); rintro e w' ⟨rfl, ⟨nd, rfl⟩⟩))
        go_meet
        case rel => exact ⟨_, (true), (by first | rfl | (simp; done) | (simp [*]; done)), H', ⟨by have := HJ1.out; first | omega | exact Nat.le_refl _⟩, ⟨qF BK307⟩, ⟨qL HB⟩⟩
      replace c36 := Bool.eq_false_iff.mpr c36
      subst c36
      have H1 : (impl_BodyOk.j1 kj1 true a0_0 a0_1 a0_2 a0_3 a0_4 a0_5 a0_6 a0_7 a0_8 a0_9 a0_10 a0_11) = some r := by rw [if_neg (show ¬ (false = true) by decide)] at H; exact H
      clear H
      have H := H1
      clear H1
      have H' := Aside0.mk H
      clear H
      obtain ⟨hcz42_0, hcz42_1, hcz42_2, hcz42_3, hcz42_4, hcz42_5, hcz42_6, hcz42_7, hcz42_8, hcz42_9, hcz42_10, hcz42_11⟩ := cz12 BK307.out
      obtain ⟨hfz42_0, hfz42_1, hfz42_2, hfz42_3, hfz42_4, hfz42_5, hfz42_6, hfz42_7, hfz42_8, hfz42_9, hfz42_10, hfz42_11⟩ := fz12 BK307.out
      go_wp2_with (first | ((with_reducible refine gate_callee (f := 89) rfl ?_); refine gl (some 34) Try.func89 #[.int .i64 a0_9, .int .i64 0, .int .i64 256] ?_; (with_reducible refine (impl_in.calls a0_9 0 256 false _ A35.out).mono ?_); rintro e w' ⟨rfl, ⟨nd, rfl⟩⟩; refine ⟨_, rfl, ?_⟩))
      go_meet
      case rel => exact ⟨_, (true), (by first | rfl | (simp; done) | (simp [*]; done)), H', ⟨by have := HJ1.out; first | omega | exact Nat.le_refl _⟩, ⟨qF BK307⟩, ⟨qL HB⟩⟩
    case rest =>
      clear HC34
      (try clear c1); (try clear p2); (try clear c3); (try clear c5); (try clear c7); (try clear c8); (try clear c9); (try clear c11); (try clear c33); (try clear c36); (try clear c38); (try clear hcz13_0); (try clear hcz13_1); (try clear hcz13_10); (try clear hcz13_11); (try clear hcz13_2); (try clear hcz13_3); (try clear hcz13_4); (try clear hcz13_5); (try clear hcz13_6); (try clear hcz13_7); (try clear hcz13_8); (try clear hcz13_9); (try clear hcz15_0); (try clear hcz15_1); (try clear hcz15_10); (try clear hcz15_11); (try clear hcz15_2); (try clear hcz15_3); (try clear hcz15_4); (try clear hcz15_5); (try clear hcz15_6); (try clear hcz15_7); (try clear hcz15_8); (try clear hcz15_9); (try clear hcz17_0); (try clear hcz17_1); (try clear hcz17_10); (try clear hcz17_11); (try clear hcz17_2); (try clear hcz17_3); (try clear hcz17_4); (try clear hcz17_5); (try clear hcz17_6); (try clear hcz17_7); (try clear hcz17_8); (try clear hcz17_9); (try clear hcz19_0); (try clear hcz19_1); (try clear hcz19_10); (try clear hcz19_11); (try clear hcz19_2); (try clear hcz19_3); (try clear hcz19_4); (try clear hcz19_5); (try clear hcz19_6); (try clear hcz19_7); (try clear hcz19_8); (try clear hcz19_9); (try clear hcz20_0); (try clear hcz20_1); (try clear hcz20_10); (try clear hcz20_11); (try clear hcz20_2); (try clear hcz20_3); (try clear hcz20_4); (try clear hcz20_5); (try clear hcz20_6); (try clear hcz20_7); (try clear hcz20_8); (try clear hcz20_9); (try clear hcz22_0); (try clear hcz22_1); (try clear hcz22_10); (try clear hcz22_11); (try clear hcz22_2); (try clear hcz22_3); (try clear hcz22_4); (try clear hcz22_5); (try clear hcz22_6); (try clear hcz22_7); (try clear hcz22_8); (try clear hcz22_9); (try clear hcz24_0); (try clear hcz24_1); (try clear hcz24_10); (try clear hcz24_11); (try clear hcz24_2); (try clear hcz24_3); (try clear hcz24_4); (try clear hcz24_5); (try clear hcz24_6); (try clear hcz24_7); (try clear hcz24_8); (try clear hcz24_9); (try clear hcz26_0); (try clear hcz26_1); (try clear hcz26_10); (try clear hcz26_11); (try clear hcz26_2); (try clear hcz26_3); (try clear hcz26_4); (try clear hcz26_5); (try clear hcz26_6); (try clear hcz26_7); (try clear hcz26_8); (try clear hcz26_9); (try clear hcz28_0); (try clear hcz28_1); (try clear hcz28_10); (try clear hcz28_11); (try clear hcz28_2); (try clear hcz28_3); (try clear hcz28_4); (try clear hcz28_5); (try clear hcz28_6); (try clear hcz28_7); (try clear hcz28_8); (try clear hcz28_9); (try clear hcz30_0); (try clear hcz30_1); (try clear hcz30_10); (try clear hcz30_11); (try clear hcz30_2); (try clear hcz30_3); (try clear hcz30_4); (try clear hcz30_5); (try clear hcz30_6); (try clear hcz30_7); (try clear hcz30_8); (try clear hcz30_9); (try clear hcz32_0); (try clear hcz32_1); (try clear hcz32_10); (try clear hcz32_11); (try clear hcz32_2); (try clear hcz32_3); (try clear hcz32_4); (try clear hcz32_5); (try clear hcz32_6); (try clear hcz32_7); (try clear hcz32_8); (try clear hcz32_9); (try clear hcz40_0); (try clear hcz40_1); (try clear hcz40_10); (try clear hcz40_11); (try clear hcz40_2); (try clear hcz40_3); (try clear hcz40_4); (try clear hcz40_5); (try clear hcz40_6); (try clear hcz40_7); (try clear hcz40_8); (try clear hcz40_9); (try clear hcz41_0); (try clear hcz41_1); (try clear hcz41_10); (try clear hcz41_11); (try clear hcz41_2); (try clear hcz41_3); (try clear hcz41_4); (try clear hcz41_5); (try clear hcz41_6); (try clear hcz41_7); (try clear hcz41_8); (try clear hcz41_9); (try clear hcz42_0); (try clear hcz42_1); (try clear hcz42_10); (try clear hcz42_11); (try clear hcz42_2); (try clear hcz42_3); (try clear hcz42_4); (try clear hcz42_5); (try clear hcz42_6); (try clear hcz42_7); (try clear hcz42_8); (try clear hcz42_9); (try clear hfz13_0); (try clear hfz13_1); (try clear hfz13_10); (try clear hfz13_11); (try clear hfz13_2); (try clear hfz13_3); (try clear hfz13_4); (try clear hfz13_5); (try clear hfz13_6); (try clear hfz13_7); (try clear hfz13_8); (try clear hfz13_9); (try clear hfz15_0); (try clear hfz15_1); (try clear hfz15_10); (try clear hfz15_11); (try clear hfz15_2); (try clear hfz15_3); (try clear hfz15_4); (try clear hfz15_5); (try clear hfz15_6); (try clear hfz15_7); (try clear hfz15_8); (try clear hfz15_9); (try clear hfz17_0); (try clear hfz17_1); (try clear hfz17_10); (try clear hfz17_11); (try clear hfz17_2); (try clear hfz17_3); (try clear hfz17_4); (try clear hfz17_5); (try clear hfz17_6); (try clear hfz17_7); (try clear hfz17_8); (try clear hfz17_9); (try clear hfz19_0); (try clear hfz19_1); (try clear hfz19_10); (try clear hfz19_11); (try clear hfz19_2); (try clear hfz19_3); (try clear hfz19_4); (try clear hfz19_5); (try clear hfz19_6); (try clear hfz19_7); (try clear hfz19_8); (try clear hfz19_9); (try clear hfz20_0); (try clear hfz20_1); (try clear hfz20_10); (try clear hfz20_11); (try clear hfz20_2); (try clear hfz20_3); (try clear hfz20_4); (try clear hfz20_5); (try clear hfz20_6); (try clear hfz20_7); (try clear hfz20_8); (try clear hfz20_9); (try clear hfz22_0); (try clear hfz22_1); (try clear hfz22_10); (try clear hfz22_11); (try clear hfz22_2); (try clear hfz22_3); (try clear hfz22_4); (try clear hfz22_5); (try clear hfz22_6); (try clear hfz22_7); (try clear hfz22_8); (try clear hfz22_9); (try clear hfz24_0); (try clear hfz24_1); (try clear hfz24_10); (try clear hfz24_11); (try clear hfz24_2); (try clear hfz24_3); (try clear hfz24_4); (try clear hfz24_5); (try clear hfz24_6); (try clear hfz24_7); (try clear hfz24_8); (try clear hfz24_9); (try clear hfz26_0); (try clear hfz26_1); (try clear hfz26_10); (try clear hfz26_11); (try clear hfz26_2); (try clear hfz26_3); (try clear hfz26_4); (try clear hfz26_5); (try clear hfz26_6); (try clear hfz26_7); (try clear hfz26_8); (try clear hfz26_9); (try clear hfz28_0); (try clear hfz28_1); (try clear hfz28_10); (try clear hfz28_11); (try clear hfz28_2); (try clear hfz28_3); (try clear hfz28_4); (try clear hfz28_5); (try clear hfz28_6); (try clear hfz28_7); (try clear hfz28_8); (try clear hfz28_9); (try clear hfz30_0); (try clear hfz30_1); (try clear hfz30_10); (try clear hfz30_11); (try clear hfz30_2); (try clear hfz30_3); (try clear hfz30_4); (try clear hfz30_5); (try clear hfz30_6); (try clear hfz30_7); (try clear hfz30_8); (try clear hfz30_9); (try clear hfz32_0); (try clear hfz32_1); (try clear hfz32_10); (try clear hfz32_11); (try clear hfz32_2); (try clear hfz32_3); (try clear hfz32_4); (try clear hfz32_5); (try clear hfz32_6); (try clear hfz32_7); (try clear hfz32_8); (try clear hfz32_9); (try clear hfz40_0); (try clear hfz40_1); (try clear hfz40_10); (try clear hfz40_11); (try clear hfz40_2); (try clear hfz40_3); (try clear hfz40_4); (try clear hfz40_5); (try clear hfz40_6); (try clear hfz40_7); (try clear hfz40_8); (try clear hfz40_9); (try clear hfz41_0); (try clear hfz41_1); (try clear hfz41_10); (try clear hfz41_11); (try clear hfz41_2); (try clear hfz41_3); (try clear hfz41_4); (try clear hfz41_5); (try clear hfz41_6); (try clear hfz41_7); (try clear hfz41_8); (try clear hfz41_9); (try clear hfz42_0); (try clear hfz42_1); (try clear hfz42_10); (try clear hfz42_11); (try clear hfz42_2); (try clear hfz42_3); (try clear hfz42_4); (try clear hfz42_5); (try clear hfz42_6); (try clear hfz42_7); (try clear hfz42_8); (try clear hfz42_9); (try clear p2)
      obtain ⟨kq, x47_33, rfl, HA, HJ33, BK307, HB⟩ := hcut
      cases kq with
      | zero => exact absurd HA.out (by simp [impl_BodyOk.j1])
      | succ kj33 => ?_
      have H := HA.out
      clear HA
      simp only [impl_BodyOk.j1] at H
      by_cases c43 : x47_33 = true
      · subst c43
        have H1 : (some false) = some r := by rw [if_pos rfl] at H; exact H
        clear H
        have H := H1
        clear H1
        obtain rfl := Option.some.inj H
        go_wp2
        go_ret
        exact ⟨qE, qL HB⟩
      replace c43 := Bool.eq_false_iff.mpr c43
      subst c43
      have H1 : ((impl_Body_fixed.f a0_0 a0_1 a0_2 a0_3 a0_4 a0_5 a0_6 a0_7 a0_8 a0_9 a0_10 a0_11).bind fun t316 => (if t316 = true then (if (a0_6 == 0 && (a0_7 == 0)) = true then (if a0_11 = 0 then ((impl_Body_sleeps.f a0_0 a0_1 a0_2 a0_3 a0_4 a0_5 a0_6 a0_7 a0_8 a0_9 a0_10 a0_11).bind fun t317 => (if t317 = true then (some (a0_6 == 0 && (a0_7 == 0))) else (some true))) else (some false)) else (some false)) else ((impl_Body_sleeps.f a0_0 a0_1 a0_2 a0_3 a0_4 a0_5 a0_6 a0_7 a0_8 a0_9 a0_10 a0_11).bind fun t318 => (if t318 = true then (some (a0_6 == 0 && (a0_7 == 0))) else (some true))))) = some r := by rw [if_neg (show ¬ (false = true) by decide)] at H; exact H
      clear H
      have H := H1
      clear H1
      replace H := qH H
      obtain ⟨t316, A44, H⟩ := H
      try dsimp only at H
      by_cases c45 : t316 = true
      · subst c45
        have H1 : (if (a0_6 == 0 && (a0_7 == 0)) = true then (if a0_11 = 0 then ((impl_Body_sleeps.f a0_0 a0_1 a0_2 a0_3 a0_4 a0_5 a0_6 a0_7 a0_8 a0_9 a0_10 a0_11).bind fun t317 => (if t317 = true then (some (a0_6 == 0 && (a0_7 == 0))) else (some true))) else (some false)) else (some false)) = some r := by rw [if_pos rfl] at H; exact H
        clear H
        have H := H1
        clear H1
        by_cases c46 : (a0_6 == 0 && (a0_7 == 0)) = true
        · rw [if_pos c46] at H
          have c46b0 : (a0_6 == 0 && (a0_7 == 0)) = true := c46
          (try (have c46b1 : decide (a0_6 = 0 && (a0_7 == 0)) = true := by simpa using c46))
          (try (have c46b2 : (a0_6 == 0 && (a0_7 == 0)) = true := by simpa using c46))
          clear c46
          by_cases c47 : a0_11 = 0
          · rw [if_pos c47] at H
            have c47b0 : (a0_11 == 0) = true := beq_iff_eq.mpr c47
            have c47b1 : (a0_11 != 0) = false := bne_eq_false_iff_eq.mpr c47
            clear c47
            replace H := qH H
            obtain ⟨t317, A48, H⟩ := H
            try dsimp only at H
            by_cases c49 : t317 = true
            · subst c49
              have H1 : (some (a0_6 == 0 && (a0_7 == 0))) = some r := by rw [if_pos rfl] at H; exact H
              clear H
              have H := H1
              clear H1
              obtain rfl := Option.some.inj H
              obtain ⟨hcz50_0, hcz50_1, hcz50_2, hcz50_3, hcz50_4, hcz50_5, hcz50_6, hcz50_7, hcz50_8, hcz50_9, hcz50_10, hcz50_11⟩ := cz12 BK307.out
              obtain ⟨hfz50_0, hfz50_1, hfz50_2, hfz50_3, hfz50_4, hfz50_5, hfz50_6, hfz50_7, hfz50_8, hfz50_9, hfz50_10, hfz50_11⟩ := fz12 BK307.out
              go_wp2_with (first | ((with_reducible refine gate_callee (f := 99) rfl ?_); refine gl (some 53) Try.func99 #[.agg #[.int .i64 a0_0, .int .i64 a0_1, .int .i64 a0_2, .int .i64 a0_3, .int .i64 a0_4, .int .i64 a0_5, .int .i64 a0_6, .int .i64 a0_7, .int .i64 a0_8, .int .i64 a0_9, .int .i64 a0_10, .int .i64 a0_11]] ?_; (with_reducible refine (impl_Body_fixed.calls a0_0 a0_1 a0_2 a0_3 a0_4 a0_5 a0_6 a0_7 a0_8 a0_9 a0_10 a0_11 true _ A44.out).mono ?_); rintro e w51 ⟨rfl, hb⟩; refine ⟨_, rfl, ?_⟩; replace BK307 := kBB BK307 hb; replace HB := bS HB hb; clear hb; obtain ⟨hcz52_0, hcz52_1, hcz52_2, hcz52_3, hcz52_4, hcz52_5, hcz52_6, hcz52_7, hcz52_8, hcz52_9, hcz52_10, hcz52_11⟩ := cz12 BK307.out; obtain ⟨hfz52_0, hfz52_1, hfz52_2, hfz52_3, hfz52_4, hfz52_5, hfz52_6, hfz52_7, hfz52_8, hfz52_9, hfz52_10, hfz52_11⟩ := fz12 BK307.out) | (go_at_call 100; (with_reducible refine (impl_Body_sleeps.calls a0_0 a0_1 a0_2 a0_3 a0_4 a0_5 a0_6 a0_7 a0_8 a0_9 a0_10 a0_11 true _ A48.out).mono ?_); rintro e w53 ⟨rfl, hb⟩; replace BK307 := kBB BK307 hb; replace HB := bS HB hb; clear hb))
              go_ret
              exact ⟨qE, qL HB⟩
            replace c49 := Bool.eq_false_iff.mpr c49
            subst c49
            have H1 : (some true) = some r := by rw [if_neg (show ¬ (false = true) by decide)] at H; exact H
            clear H
            have H := H1
            clear H1
            obtain rfl := Option.some.inj H
            obtain ⟨hcz54_0, hcz54_1, hcz54_2, hcz54_3, hcz54_4, hcz54_5, hcz54_6, hcz54_7, hcz54_8, hcz54_9, hcz54_10, hcz54_11⟩ := cz12 BK307.out
            obtain ⟨hfz54_0, hfz54_1, hfz54_2, hfz54_3, hfz54_4, hfz54_5, hfz54_6, hfz54_7, hfz54_8, hfz54_9, hfz54_10, hfz54_11⟩ := fz12 BK307.out
            go_wp2_with (first | ((with_reducible refine gate_callee (f := 99) rfl ?_); refine gl (some 53) Try.func99 #[.agg #[.int .i64 a0_0, .int .i64 a0_1, .int .i64 a0_2, .int .i64 a0_3, .int .i64 a0_4, .int .i64 a0_5, .int .i64 a0_6, .int .i64 a0_7, .int .i64 a0_8, .int .i64 a0_9, .int .i64 a0_10, .int .i64 a0_11]] ?_; (with_reducible refine (impl_Body_fixed.calls a0_0 a0_1 a0_2 a0_3 a0_4 a0_5 a0_6 a0_7 a0_8 a0_9 a0_10 a0_11 true _ A44.out).mono ?_); rintro e w55 ⟨rfl, hb⟩; refine ⟨_, rfl, ?_⟩; replace BK307 := kBB BK307 hb; replace HB := bS HB hb; clear hb; obtain ⟨hcz56_0, hcz56_1, hcz56_2, hcz56_3, hcz56_4, hcz56_5, hcz56_6, hcz56_7, hcz56_8, hcz56_9, hcz56_10, hcz56_11⟩ := cz12 BK307.out; obtain ⟨hfz56_0, hfz56_1, hfz56_2, hfz56_3, hfz56_4, hfz56_5, hfz56_6, hfz56_7, hfz56_8, hfz56_9, hfz56_10, hfz56_11⟩ := fz12 BK307.out) | (go_at_call 100; (with_reducible refine (impl_Body_sleeps.calls a0_0 a0_1 a0_2 a0_3 a0_4 a0_5 a0_6 a0_7 a0_8 a0_9 a0_10 a0_11 false _ A48.out).mono ?_); rintro e w57 ⟨rfl, hb⟩; replace BK307 := kBB BK307 hb; replace HB := bS HB hb; clear hb))
            go_ret
            exact ⟨qE, qL HB⟩
          rw [if_neg c47] at H
          have c47b0 : (a0_11 == 0) = false := beq_eq_false_iff_ne.mpr c47
          have c47b1 : (a0_11 != 0) = true := bne_iff_ne.mpr c47
          obtain rfl := Option.some.inj H
          obtain ⟨hcz58_0, hcz58_1, hcz58_2, hcz58_3, hcz58_4, hcz58_5, hcz58_6, hcz58_7, hcz58_8, hcz58_9, hcz58_10, hcz58_11⟩ := cz12 BK307.out
          obtain ⟨hfz58_0, hfz58_1, hfz58_2, hfz58_3, hfz58_4, hfz58_5, hfz58_6, hfz58_7, hfz58_8, hfz58_9, hfz58_10, hfz58_11⟩ := fz12 BK307.out
          go_wp2_with (first | ((with_reducible refine gate_callee (f := 99) rfl ?_); refine gl (some 53) Try.func99 #[.agg #[.int .i64 a0_0, .int .i64 a0_1, .int .i64 a0_2, .int .i64 a0_3, .int .i64 a0_4, .int .i64 a0_5, .int .i64 a0_6, .int .i64 a0_7, .int .i64 a0_8, .int .i64 a0_9, .int .i64 a0_10, .int .i64 a0_11]] ?_; (with_reducible refine (impl_Body_fixed.calls a0_0 a0_1 a0_2 a0_3 a0_4 a0_5 a0_6 a0_7 a0_8 a0_9 a0_10 a0_11 true _ A44.out).mono ?_); rintro e w59 ⟨rfl, hb⟩; refine ⟨_, rfl, ?_⟩; replace BK307 := kBB BK307 hb; replace HB := bS HB hb; clear hb; obtain ⟨hcz60_0, hcz60_1, hcz60_2, hcz60_3, hcz60_4, hcz60_5, hcz60_6, hcz60_7, hcz60_8, hcz60_9, hcz60_10, hcz60_11⟩ := cz12 BK307.out; obtain ⟨hfz60_0, hfz60_1, hfz60_2, hfz60_3, hfz60_4, hfz60_5, hfz60_6, hfz60_7, hfz60_8, hfz60_9, hfz60_10, hfz60_11⟩ := fz12 BK307.out))
          go_ret
          exact ⟨qE, qL HB⟩
        rw [if_neg c46] at H
        have c46b0 : (a0_6 == 0 && (a0_7 == 0)) = false := by simpa using c46
        (try (have c46b1 : decide (a0_6 = 0 && (a0_7 == 0)) = false := by simpa using c46))
        (try (have c46b2 : (a0_6 == 0 && (a0_7 == 0)) = false := by simpa using c46))
        (try (have c46b3 : ¬ (a0_6 = 0 && (a0_7 == 0)) := by simpa using c46))
        clear c46
        obtain rfl := Option.some.inj H
        obtain ⟨hcz61_0, hcz61_1, hcz61_2, hcz61_3, hcz61_4, hcz61_5, hcz61_6, hcz61_7, hcz61_8, hcz61_9, hcz61_10, hcz61_11⟩ := cz12 BK307.out
        obtain ⟨hfz61_0, hfz61_1, hfz61_2, hfz61_3, hfz61_4, hfz61_5, hfz61_6, hfz61_7, hfz61_8, hfz61_9, hfz61_10, hfz61_11⟩ := fz12 BK307.out
        go_wp2_with (first | ((with_reducible refine gate_callee (f := 99) rfl ?_); refine gl (some 53) Try.func99 #[.agg #[.int .i64 a0_0, .int .i64 a0_1, .int .i64 a0_2, .int .i64 a0_3, .int .i64 a0_4, .int .i64 a0_5, .int .i64 a0_6, .int .i64 a0_7, .int .i64 a0_8, .int .i64 a0_9, .int .i64 a0_10, .int .i64 a0_11]] ?_; (with_reducible refine (impl_Body_fixed.calls a0_0 a0_1 a0_2 a0_3 a0_4 a0_5 a0_6 a0_7 a0_8 a0_9 a0_10 a0_11 true _ A44.out).mono ?_); rintro e w62 ⟨rfl, hb⟩; refine ⟨_, rfl, ?_⟩; replace BK307 := kBB BK307 hb; replace HB := bS HB hb; clear hb))
        go_ret
        exact ⟨qE, qL HB⟩
      replace c45 := Bool.eq_false_iff.mpr c45
      subst c45
      have H1 : ((impl_Body_sleeps.f a0_0 a0_1 a0_2 a0_3 a0_4 a0_5 a0_6 a0_7 a0_8 a0_9 a0_10 a0_11).bind fun t318 => (if t318 = true then (some (a0_6 == 0 && (a0_7 == 0))) else (some true))) = some r := by rw [if_neg (show ¬ (false = true) by decide)] at H; exact H
      clear H
      have H := H1
      clear H1
      replace H := qH H
      obtain ⟨t318, A63, H⟩ := H
      try dsimp only at H
      by_cases c64 : t318 = true
      · subst c64
        have H1 : (some (a0_6 == 0 && (a0_7 == 0))) = some r := by rw [if_pos rfl] at H; exact H
        clear H
        have H := H1
        clear H1
        obtain rfl := Option.some.inj H
        obtain ⟨hcz65_0, hcz65_1, hcz65_2, hcz65_3, hcz65_4, hcz65_5, hcz65_6, hcz65_7, hcz65_8, hcz65_9, hcz65_10, hcz65_11⟩ := cz12 BK307.out
        obtain ⟨hfz65_0, hfz65_1, hfz65_2, hfz65_3, hfz65_4, hfz65_5, hfz65_6, hfz65_7, hfz65_8, hfz65_9, hfz65_10, hfz65_11⟩ := fz12 BK307.out
        go_wp2_with (first | ((with_reducible refine gate_callee (f := 99) rfl ?_); refine gl (some 53) Try.func99 #[.agg #[.int .i64 a0_0, .int .i64 a0_1, .int .i64 a0_2, .int .i64 a0_3, .int .i64 a0_4, .int .i64 a0_5, .int .i64 a0_6, .int .i64 a0_7, .int .i64 a0_8, .int .i64 a0_9, .int .i64 a0_10, .int .i64 a0_11]] ?_; (with_reducible refine (impl_Body_fixed.calls a0_0 a0_1 a0_2 a0_3 a0_4 a0_5 a0_6 a0_7 a0_8 a0_9 a0_10 a0_11 false _ A44.out).mono ?_); rintro e w66 ⟨rfl, hb⟩; refine ⟨_, rfl, ?_⟩; replace BK307 := kBB BK307 hb; replace HB := bS HB hb; clear hb; obtain ⟨hcz67_0, hcz67_1, hcz67_2, hcz67_3, hcz67_4, hcz67_5, hcz67_6, hcz67_7, hcz67_8, hcz67_9, hcz67_10, hcz67_11⟩ := cz12 BK307.out; obtain ⟨hfz67_0, hfz67_1, hfz67_2, hfz67_3, hfz67_4, hfz67_5, hfz67_6, hfz67_7, hfz67_8, hfz67_9, hfz67_10, hfz67_11⟩ := fz12 BK307.out) | (go_at_call 100; (with_reducible refine (impl_Body_sleeps.calls a0_0 a0_1 a0_2 a0_3 a0_4 a0_5 a0_6 a0_7 a0_8 a0_9 a0_10 a0_11 true _ A63.out).mono ?_); rintro e w68 ⟨rfl, hb⟩; replace BK307 := kBB BK307 hb; replace HB := bS HB hb; clear hb))
        go_ret
        exact ⟨qE, qL HB⟩
      replace c64 := Bool.eq_false_iff.mpr c64
      subst c64
      have H1 : (some true) = some r := by rw [if_neg (show ¬ (false = true) by decide)] at H; exact H
      clear H
      have H := H1
      clear H1
      obtain rfl := Option.some.inj H
      obtain ⟨hcz69_0, hcz69_1, hcz69_2, hcz69_3, hcz69_4, hcz69_5, hcz69_6, hcz69_7, hcz69_8, hcz69_9, hcz69_10, hcz69_11⟩ := cz12 BK307.out
      obtain ⟨hfz69_0, hfz69_1, hfz69_2, hfz69_3, hfz69_4, hfz69_5, hfz69_6, hfz69_7, hfz69_8, hfz69_9, hfz69_10, hfz69_11⟩ := fz12 BK307.out
      go_wp2_with (first | ((with_reducible refine gate_callee (f := 99) rfl ?_); refine gl (some 53) Try.func99 #[.agg #[.int .i64 a0_0, .int .i64 a0_1, .int .i64 a0_2, .int .i64 a0_3, .int .i64 a0_4, .int .i64 a0_5, .int .i64 a0_6, .int .i64 a0_7, .int .i64 a0_8, .int .i64 a0_9, .int .i64 a0_10, .int .i64 a0_11]] ?_; (with_reducible refine (impl_Body_fixed.calls a0_0 a0_1 a0_2 a0_3 a0_4 a0_5 a0_6 a0_7 a0_8 a0_9 a0_10 a0_11 false _ A44.out).mono ?_); rintro e w70 ⟨rfl, hb⟩; refine ⟨_, rfl, ?_⟩; replace BK307 := kBB BK307 hb; replace HB := bS HB hb; clear hb; obtain ⟨hcz71_0, hcz71_1, hcz71_2, hcz71_3, hcz71_4, hcz71_5, hcz71_6, hcz71_7, hcz71_8, hcz71_9, hcz71_10, hcz71_11⟩ := cz12 BK307.out; obtain ⟨hfz71_0, hfz71_1, hfz71_2, hfz71_3, hfz71_4, hfz71_5, hfz71_6, hfz71_7, hfz71_8, hfz71_9, hfz71_10, hfz71_11⟩ := fz12 BK307.out) | (go_at_call 100; (with_reducible refine (impl_Body_sleeps.calls a0_0 a0_1 a0_2 a0_3 a0_4 a0_5 a0_6 a0_7 a0_8 a0_9 a0_10 a0_11 false _ A63.out).mono ?_); rintro e w72 ⟨rfl, hb⟩; replace BK307 := kBB BK307 hb; replace HB := bS HB hb; clear hb))
      go_ret
      exact ⟨qE, qL HB⟩

end Go.Proofs.Ytgclkbklhopaaaa.PBig
