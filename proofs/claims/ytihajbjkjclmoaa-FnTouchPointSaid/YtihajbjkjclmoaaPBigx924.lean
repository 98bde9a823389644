/- What these functions compute, each walked once: spec_l5Boxes, spec_l3Bounds, spec_l3Point, spec_l5Mixed, spec_l5Turn; for all arguments and worlds, under the conditions that each theorem names. -/
import Derived.Test.YtihajbjkjclmoaaSq
import Derived.Test.YtihajbjkjclmoaaPBigx904
import Derived.Test.YtihajbjkjclmoaaPBigx923
namespace Go.Proofs.Ytihajbjkjclmoaa.PBig
open Go.RowKit Go.Proofs.YtihajbjkjclmoaaW.PrintWords Go.Proofs.YtihajbjkjclmoaaW.PrintLast Go.Proofs.YtihajbjkjclmoaaW.PrintMore
attribute [local go_sem] max2_int min2_int max_two min_two max_three min_three max_four min_four   -- for this text's walks alone
set_option linter.unusedVariables false
set_option linter.unusedSimpArgs false

theorem rnL_l5B {P : Program} {ops : Array Oper} {Q : Exit → Act → World → Prop} {l : List Oper} {a : Act} {W : World} (K : World → Prop) (f : K W) (h : ∀ w', K w' → wpList P ops Q l a w') : wpList P ops Q l a W := h W f

/-! ### spec_l5Boxes: function 91 -/
def spec_l5Boxes.j0 : Nat → Int → Int → Int → Int → Int → Int → Int → Int → Int → Int → Int → Option (Int × Int × Int × Bool)
  | 0, _, _, _, _, _, _, _, _, _, _, _ => none
  | k + 1, x909000, x909001, x909002, x909003, x910000, x910001, x910002, x910003, x913000, x913001, x913002 => if (wrap64 (x909003 - x910001)) < x913002 then (if (wrap64 (x910003 - x909001)) < (wrap64 (x909003 - x910001)) then (some (0, (-256), wrap64 (x910003 - x909001), true)) else (some (0, 256, wrap64 (x909003 - x910001), true))) else (if (wrap64 (x910003 - x909001)) < x913002 then (some (0, (-256), wrap64 (x910003 - x909001), true)) else (some (x913000, x913001, x913002, true)))
def spec_l5Boxes.f (k : Nat) (a0_0 : Int) (a0_1 : Int) (a0_2 : Int) (a0_3 : Int) (a1_0 : Int) (a1_1 : Int) (a1_2 : Int) (a1_3 : Int) : Option (Int × Int × Int × Bool) := (spec_l3Meets.f a0_0 a0_1 a0_2 a0_3 a1_0 a1_1 a1_2 a1_3).bind fun t911 => (if t911 = true then (if (wrap64 (a1_2 - a0_0)) < (wrap64 (a0_2 - a1_0)) then (spec_l5Boxes.j0 k a0_0 a0_1 a0_2 a0_3 a1_0 a1_1 a1_2 a1_3 (-256) 0 (wrap64 (a1_2 - a0_0))) else (spec_l5Boxes.j0 k a0_0 a0_1 a0_2 a0_3 a1_0 a1_1 a1_2 a1_3 256 0 (wrap64 (a0_2 - a1_0)))) else (some (0, 0, 0, false)))
theorem spec_l5Boxes.mono_l : ∀ k, (∀ y0 y1 y2 y3 y4 y5 y6 y7 y8 y9 y10, LeO (spec_l5Boxes.j0 k y0 y1 y2 y3 y4 y5 y6 y7 y8 y9 y10) (spec_l5Boxes.j0 (k + 1) y0 y1 y2 y3 y4 y5 y6 y7 y8 y9 y10))
  | 0 => fun _ _ _ _ _ _ _ _ _ _ _ r h => by simp [spec_l5Boxes.j0] at h
  | k + 1 => by
    have ih0 := spec_l5Boxes.mono_l k
    · intro y0 y1 y2 y3 y4 y5 y6 y7 y8 y9 y10
      unfold spec_l5Boxes.j0
      repeat' first
      | (with_reducible exact ih0 _ _ _ _ _ _ _ _ _ _ _)
      | (with_reducible exact LeO.refl _)
      | (with_reducible exact LeO.none _)
      | (with_reducible refine LeO.ite ?_ ?_)
      | (with_reducible refine LeO.bind ?_ (fun _ => ?_))
theorem spec_l5Boxes.mono : ∀ a0 a1 a2 a3 a4 a5 a6 a7 k, LeO (spec_l5Boxes.f k a0 a1 a2 a3 a4 a5 a6 a7) (spec_l5Boxes.f (k + 1) a0 a1 a2 a3 a4 a5 a6 a7) := by
  intro a0 a1 a2 a3 a4 a5 a6 a7 k
  have ih0 := spec_l5Boxes.mono_l k
  unfold spec_l5Boxes.f
  repeat' first
      | (with_reducible exact ih0 _ _ _ _ _ _ _ _ _ _ _)
      | (with_reducible exact LeO.refl _)
      | (with_reducible exact LeO.none _)
      | (with_reducible refine LeO.ite ?_ ?_)
      | (with_reducible refine LeO.bind ?_ (fun _ => ?_))
set_option maxHeartbeats 8000000 in
set_option maxRecDepth 100000 in
theorem spec_l5Boxes.calls (k : Nat) (a0_0 : Int) (a0_1 : Int) (a0_2 : Int) (a0_3 : Int) (a1_0 : Int) (a1_1 : Int) (a1_2 : Int) (a1_3 : Int) (r1 : Int) (r2 : Int) (r3 : Int) (r4 : Bool) (w : World) (h : spec_l5Boxes.f k a0_0 a0_1 a0_2 a0_3 a1_0 a1_1 a1_2 a1_3 = some (r1, r2, r3, r4)) :
    Calls Try.prog 91 #[.agg #[.int .i64 a0_0, .int .i64 a0_1, .int .i64 a0_2, .int .i64 a0_3], .agg #[.int .i64 a1_0, .int .i64 a1_1, .int .i64 a1_2, .int .i64 a1_3]] w fun e w' => e = .returned (.tuple #[.agg #[.int .i64 r1, .int .i64 r2, .int .i64 r3], .bool r4]) ∧ Below w.heap.size w w' := by
  have hu26 := Try.underlying26
  have hu56 := Try.underlying56
  have hu24 := Try.underlying24
  have HB := az (Below.refl w.heap.size w)
  have H : ((spec_l3Meets.f a0_0 a0_1 a0_2 a0_3 a1_0 a1_1 a1_2 a1_3).bind fun t911 => (if t911 = true then (if (wrap64 (a1_2 - a0_0)) < (wrap64 (a0_2 - a1_0)) then (spec_l5Boxes.j0 k a0_0 a0_1 a0_2 a0_3 a1_0 a1_1 a1_2 a1_3 (-256) 0 (wrap64 (a1_2 - a0_0))) else (spec_l5Boxes.j0 k a0_0 a0_1 a0_2 a0_3 a1_0 a1_1 a1_2 a1_3 256 0 (wrap64 (a0_2 - a1_0)))) else (some (0, 0, 0, false)))) = some (r1, r2, r3, r4) := h
  clear h
  replace H := qH H
  obtain ⟨t911, A3, H⟩ := H
  try dsimp only at H
  by_cases c4 : t911 = true
  · subst c4
    replace H := qT H
    have HC5 := az H
    clear H
    go_enter Try.func91, Try.ntmps91
    go_upto_if 30 with (first | ((with_reducible refine gate_dst (N := 2) rfl ?_); refine bx (N := 2) (cs := #[.int .i64 a0_0, .int .i64 a0_1, .int .i64 a0_2, .int .i64 a0_3]) (t := 26) ?_; intro gb908 hg w6 hbox hb; have BK908 := az hbox; have GW908 := az ((gE hg (qL HB) : w.heap.size ≤ gb908)); have GE908 := GW908; replace HB := bS HB hb; clear hb hbox hg) | ((with_reducible refine gate_dst (N := 3) rfl ?_); refine bx (N := 3) (cs := #[.int .i64 a1_0, .int .i64 a1_1, .int .i64 a1_2, .int .i64 a1_3]) (t := 26) ?_; intro gb909 hg w7 hbox hb; have BK909 := az hbox; have GW909 := az ((gE hg (qL HB) : w.heap.size ≤ gb909)); have GE909 := GW909; obtain ⟨NB908_909, NB909_908⟩ := nPB BK908 hg; replace BK908 := kBB BK908 hb; replace HB := bS HB hb; clear hb hbox hg) | ((with_reducible refine gate_dst (N := 4) rfl ?_); refine bx (N := 4) (cs := #[.int .i64 0, .int .i64 0, .int .i64 0]) (t := 56) ?_; intro gb910 hg w8 hbox hb; have BK910 := az hbox; have GW910 := az ((gE hg (qL HB) : w.heap.size ≤ gb910)); have GE910 := GW910; obtain ⟨NB908_910, NB910_908⟩ := nPB BK908 hg; obtain ⟨NB909_910, NB910_909⟩ := nPB BK909 hg; replace BK908 := kBB BK908 hb; replace BK909 := kBB BK909 hb; replace HB := bS HB hb; clear hb hbox hg; have hnb9 := NB908_909.out; have hnc9 := NB909_908.out; have hnb10 := NB908_910.out; have hnc10 := NB910_908.out; obtain ⟨hcz11_0, hcz11_1, hcz11_2, hcz11_3⟩ := cz4 BK908.out; obtain ⟨hfz11_0, hfz11_1, hfz11_2, hfz11_3⟩ := fz4 BK908.out; have hnb12 := NB909_910.out; have hnc12 := NB910_909.out; obtain ⟨hcz13_0, hcz13_1, hcz13_2, hcz13_3⟩ := cz4 BK909.out; obtain ⟨hfz13_0, hfz13_1, hfz13_2, hfz13_3⟩ := fz4 BK909.out) | ((with_reducible refine gate_callee (f := 103) rfl ?_); refine gl (some 9) Try.func103 #[.agg #[.int .i64 a0_0, .int .i64 a0_1, .int .i64 a0_2, .int .i64 a0_3], .agg #[.int .i64 a1_0, .int .i64 a1_1, .int .i64 a1_2, .int .i64 a1_3]] ?_; (with_reducible refine (spec_l3Meets.calls a0_0 a0_1 a0_2 a0_3 a1_0 a1_1 a1_2 a1_3 true _ A3.out).mono ?_); rintro e w14 ⟨rfl, hb⟩; refine ⟨_, rfl, ?_⟩; replace BK908 := kBB BK908 hb; replace BK909 := kBB BK909 hb; replace BK910 := kBB BK910 hb; replace HB := bS HB hb; clear hb; obtain ⟨hcz15_0, hcz15_1, hcz15_2, hcz15_3⟩ := cz4 BK908.out; obtain ⟨hfz15_0, hfz15_1, hfz15_2, hfz15_3⟩ := fz4 BK908.out; obtain ⟨hcz16_0, hcz16_1, hcz16_2, hcz16_3⟩ := cz4 BK909.out; obtain ⟨hfz16_0, hfz16_1, hfz16_2, hfz16_3⟩ := fz4 BK909.out) | ((with_reducible refine gate_dst (N := 6) rfl ?_); refine bx (N := 6) (cs := #[.int .i64 0, .int .i64 0, .int .i64 0]) (t := 56) ?_; intro gb912 hg w17 hbox hb; have BK912 := az hbox; have GW912 := az ((gE hg (qL HB) : w.heap.size ≤ gb912)); have GE912 := GW912; obtain ⟨NB908_912, NB912_908⟩ := nPB BK908 hg; obtain ⟨NB909_912, NB912_909⟩ := nPB BK909 hg; obtain ⟨NB910_912, NB912_910⟩ := nPB BK910 hg; replace BK908 := kBB BK908 hb; replace BK909 := kBB BK909 hb; replace BK910 := kBB BK910 hb; replace HB := bS HB hb; clear hb hbox hg; have hnb18 := NB912_908.out; have hnc18 := NB908_912.out; have hnb19 := NB912_909.out; have hnc19 := NB909_912.out; have hnb20 := NB912_910.out; have hnc20 := NB910_912.out; obtain ⟨hcz21_0, hcz21_1, hcz21_2⟩ := cz3 BK912.out; obtain ⟨hfz21_0, hfz21_1, hfz21_2⟩ := fz3 BK912.out; obtain ⟨hcz22_0, hcz22_1, hcz22_2, hcz22_3⟩ := cz4 BK909.out; obtain ⟨hfz22_0, hfz22_1, hfz22_2, hfz22_3⟩ := fz4 BK909.out; obtain ⟨hcz23_0, hcz23_1, hcz23_2, hcz23_3⟩ := cz4 BK908.out; obtain ⟨hfz23_0, hfz23_1, hfz23_2, hfz23_3⟩ := fz4 BK908.out))
    (try simp only [Act.put, List.setIfInBounds_toArray, List.set_cons_zero, List.set_cons_succ])
    go_cut [] (fun wc => ∃ (kq : Nat) (x913000_4 : Int) (x913001_4 : Int) (x913002_4 : Int), Aside0 (spec_l5Boxes.j0 kq a0_0 a0_1 a0_2 a0_3 a1_0 a1_1 a1_2 a1_3 x913000_4 x913001_4 x913002_4 = some (r1, r2, r3, r4)) ∧ Aside0 (kq ≤ k) ∧ Aside0 (wc.heap[gb908]? = some (.cells #[.int .i64 a0_0, .int .i64 a0_1, .int .i64 a0_2, .int .i64 a0_3] 26 (0, 0))) ∧ Aside0 (wc.heap[gb909]? = some (.cells #[.int .i64 a1_0, .int .i64 a1_1, .int .i64 a1_2, .int .i64 a1_3] 26 (0, 0))) ∧ Aside0 (wc.heap[gb910]? = some (.cells #[.int .i64 0, .int .i64 0, .int .i64 0] 56 (0, 0))) ∧ Aside0 (wc.heap[gb912]? = some (.cells #[.int .i64 x913000_4, .int .i64 x913001_4, .int .i64 x913002_4] 56 (0, 0))) ∧ Aside0 (Below w.heap.size w wc))
    case first =>
      have H := HC5.out
      clear HC5
      by_cases c24 : (wrap64 (a1_2 - a0_0)) < (wrap64 (a0_2 - a1_0))
      · rw [if_pos c24] at H
        have c24b0 : decide ((wrap64 (a1_2 - a0_0)) < (wrap64 (a0_2 - a1_0))) = true := decide_eq_true c24
        clear c24
        (first | rw [c24b0] | (simp only [i64_w, i32_w]; rw [c24b0]) | skip)
        have H' := az H
        clear H
        have hnb25 := NB909_908.out
        have hnc25 := NB908_909.out
        have hnb26 := NB909_910.out
        have hnc26 := NB910_909.out
        have hnb27 := NB909_912.out
        have hnc27 := NB912_909.out
        obtain ⟨hcz28_0, hcz28_1, hcz28_2, hcz28_3⟩ := cz4 BK909.out
        obtain ⟨hfz28_0, hfz28_1, hfz28_2, hfz28_3⟩ := fz4 BK909.out
        have hnb29 := NB908_910.out
        have hnc29 := NB910_908.out
        have hnb30 := NB908_912.out
        have hnc30 := NB912_908.out
        obtain ⟨hcz31_0, hcz31_1, hcz31_2, hcz31_3⟩ := cz4 BK908.out
        obtain ⟨hfz31_0, hfz31_1, hfz31_2, hfz31_3⟩ := fz4 BK908.out
        have hnb32 := NB912_910.out
        have hnc32 := NB910_912.out
        obtain ⟨hcz33_0, hcz33_1, hcz33_2⟩ := cz3 BK912.out
        obtain ⟨hfz33_0, hfz33_1, hfz33_2⟩ := fz3 BK912.out
        go_wp2
        go_meet
        case rel => exact ⟨_, ((-256)), (0), (wrap64 (a1_2 - a0_0)), H', ⟨by first | omega | exact Nat.le_refl _⟩, ⟨qF BK908⟩, ⟨qF BK909⟩, ⟨qF BK910⟩, ⟨qP BK912⟩, ⟨qL HB⟩⟩
      rw [if_neg c24] at H
      have c24b0 : decide ((wrap64 (a1_2 - a0_0)) < (wrap64 (a0_2 - a1_0))) = false := decide_eq_false c24
      clear c24
      (first | rw [c24b0] | (simp only [i64_w, i32_w]; rw [c24b0]) | skip)
      have H' := az H
      clear H
      go_wp2
      go_meet
      case rel => exact ⟨_, (256), (0), (wrap64 (a0_2 - a1_0)), H', ⟨by first | omega | exact Nat.le_refl _⟩, ⟨qF BK908⟩, ⟨qF BK909⟩, ⟨qF BK910⟩, ⟨qP BK912⟩, ⟨qL HB⟩⟩
    case rest =>
      clear HC5
      (try clear c4); (try clear hcz11_0); (try clear hcz11_1); (try clear hcz11_2); (try clear hcz11_3); (try clear hcz13_0); (try clear hcz13_1); (try clear hcz13_2); (try clear hcz13_3); (try clear hcz15_0); (try clear hcz15_1); (try clear hcz15_2); (try clear hcz15_3); (try clear hcz16_0); (try clear hcz16_1); (try clear hcz16_2); (try clear hcz16_3); (try clear hcz21_0); (try clear hcz21_1); (try clear hcz21_2); (try clear hcz22_0); (try clear hcz22_1); (try clear hcz22_2); (try clear hcz22_3); (try clear hcz23_0); (try clear hcz23_1); (try clear hcz23_2); (try clear hcz23_3); (try clear hfz11_0); (try clear hfz11_1); (try clear hfz11_2); (try clear hfz11_3); (try clear hfz13_0); (try clear hfz13_1); (try clear hfz13_2); (try clear hfz13_3); (try clear hfz15_0); (try clear hfz15_1); (try clear hfz15_2); (try clear hfz15_3); (try clear hfz16_0); (try clear hfz16_1); (try clear hfz16_2); (try clear hfz16_3); (try clear hfz21_0); (try clear hfz21_1); (try clear hfz21_2); (try clear hfz22_0); (try clear hfz22_1); (try clear hfz22_2); (try clear hfz22_3); (try clear hfz23_0); (try clear hfz23_1); (try clear hfz23_2); (try clear hfz23_3)
      obtain ⟨kq, x913000_4, x913001_4, x913002_4, HA, HJ4, BK908, BK909, BK910, BK912, HB⟩ := hcut
      cases kq with
      | zero => exact absurd HA.out (by simp [spec_l5Boxes.j0])
      | succ kj4 => ?_
      have H := HA.out
      clear HA
      simp only [spec_l5Boxes.j0] at H
      by_cases c34 : (wrap64 (a0_3 - a1_1)) < x913002_4
      · rw [if_pos c34] at H
        have c34b0 : decide ((wrap64 (a0_3 - a1_1)) < x913002_4) = true := decide_eq_true c34
        clear c34
        by_cases c35 : (wrap64 (a1_3 - a0_1)) < (wrap64 (a0_3 - a1_1))
        · rw [if_pos c35] at H
          have c35b0 : decide ((wrap64 (a1_3 - a0_1)) < (wrap64 (a0_3 - a1_1))) = true := decide_eq_true c35
          clear c35
          simp only [Option.some.injEq, Prod.mk.injEq] at H
          obtain ⟨rfl, rfl, rfl, rfl⟩ := H
          have hnb36 := NB908_909.out
          have hnc36 := NB909_908.out
          have hnb37 := NB908_910.out
          have hnc37 := NB910_908.out
          have hnb38 := NB908_912.out
          have hnc38 := NB912_908.out
          obtain ⟨hcz39_0, hcz39_1, hcz39_2, hcz39_3⟩ := cz4 BK908.out
          obtain ⟨hfz39_0, hfz39_1, hfz39_2, hfz39_3⟩ := fz4 BK908.out
          have hnb40 := NB909_910.out
          have hnc40 := NB910_909.out
          have hnb41 := NB909_912.out
          have hnc41 := NB912_909.out
          obtain ⟨hcz42_0, hcz42_1, hcz42_2, hcz42_3⟩ := cz4 BK909.out
          obtain ⟨hfz42_0, hfz42_1, hfz42_2, hfz42_3⟩ := fz4 BK909.out
          have hnb43 := NB912_910.out
          have hnc43 := NB910_912.out
          obtain ⟨hcz44_0, hcz44_1, hcz44_2⟩ := cz3 BK912.out
          obtain ⟨hfz44_0, hfz44_1, hfz44_2⟩ := fz3 BK912.out
          obtain ⟨hcz45_0, hcz45_1, hcz45_2⟩ := cz3 BK910.out
          obtain ⟨hfz45_0, hfz45_1, hfz45_2⟩ := fz3 BK910.out
          repeat (first | ((with_reducible refine gate_dst (N := 59) rfl ?_); refine rnL_l5B (fun w_ => w_.heap[gb912]? = some (.cells #[.int .i64 0, .int .i64 256, .int .i64 (wrap64 (a0_3 - a1_1))] 56 (0, 0)) ∧ w_.heap[gb908]? = some (.cells #[.int .i64 a0_0, .int .i64 a0_1, .int .i64 a0_2, .int .i64 a0_3] 26 (0, 0)) ∧ w_.heap[gb909]? = some (.cells #[.int .i64 a1_0, .int .i64 a1_1, .int .i64 a1_2, .int .i64 a1_3] 26 (0, 0)) ∧ w_.heap[gb910]? = some (.cells #[.int .i64 0, .int .i64 0, .int .i64 0] 56 (0, 0)) ∧ Below w.heap.size w w_) ⟨qP BK912, qF BK908, qF BK909, qF BK910, qL HB⟩ ?_; clear BK912 BK908 BK909 BK910 HB; rintro w59_ ⟨n0_, n1_, n2_, n3_, n4_⟩; have BK912 := az n0_; have BK908 := az n1_; have BK909 := az n2_; have BK910 := az n3_; have HB := az n4_; clear n0_ n1_ n2_ n3_ n4_; obtain ⟨z59_908_0, z59_908_1, z59_908_2, z59_908_3⟩ := cz4 BK908.out; obtain ⟨f59_908_0, f59_908_1, f59_908_2, f59_908_3⟩ := fz4 BK908.out; obtain ⟨z59_909_0, z59_909_1, z59_909_2, z59_909_3⟩ := cz4 BK909.out; obtain ⟨f59_909_0, f59_909_1, f59_909_2, f59_909_3⟩ := fz4 BK909.out; obtain ⟨z59_912_0, z59_912_1, z59_912_2⟩ := cz3 BK912.out; obtain ⟨f59_912_0, f59_912_1, f59_912_2⟩ := fz3 BK912.out; obtain ⟨z59_910_0, z59_910_1, z59_910_2⟩ := cz3 BK910.out; obtain ⟨f59_910_0, f59_910_1, f59_910_2⟩ := fz3 BK910.out; go_step) | ((with_reducible refine gate_dst (N := 78) rfl ?_); refine rnL_l5B (fun w_ => w_.heap[gb912]? = some (.cells #[.int .i64 0, .int .i64 (-256), .int .i64 (wrap64 (a1_3 - a0_1))] 56 (0, 0)) ∧ w_.heap[gb908]? = some (.cells #[.int .i64 a0_0, .int .i64 a0_1, .int .i64 a0_2, .int .i64 a0_3] 26 (0, 0)) ∧ w_.heap[gb909]? = some (.cells #[.int .i64 a1_0, .int .i64 a1_1, .int .i64 a1_2, .int .i64 a1_3] 26 (0, 0)) ∧ w_.heap[gb910]? = some (.cells #[.int .i64 0, .int .i64 0, .int .i64 0] 56 (0, 0)) ∧ Below w.heap.size w w_) ⟨qP BK912, qF BK908, qF BK909, qF BK910, qL HB⟩ ?_; clear BK912 BK908 BK909 BK910 HB; rintro w78_ ⟨n0_, n1_, n2_, n3_, n4_⟩; have BK912 := az n0_; have BK908 := az n1_; have BK909 := az n2_; have BK910 := az n3_; have HB := az n4_; clear n0_ n1_ n2_ n3_ n4_; obtain ⟨z78_912_0, z78_912_1, z78_912_2⟩ := cz3 BK912.out; obtain ⟨f78_912_0, f78_912_1, f78_912_2⟩ := fz3 BK912.out; obtain ⟨z78_910_0, z78_910_1, z78_910_2⟩ := cz3 BK910.out; obtain ⟨f78_910_0, f78_910_1, f78_910_2⟩ := fz3 BK910.out; go_step) | go_values | go_skip | go_guarded | go_step | go_upon | go_back)
          refine bodyPost_ret (results_ct rfl _ _ gb910 56 #[.int .i64 0, .int .i64 (-256), .int .i64 (wrap64 (a1_3 - a0_1))] (0, 0) _ rfl (qP BK910) Try.underlying56 rfl (by kernel_rfl)) rfl ?_
          exact ⟨qE, qL HB⟩
        rw [if_neg c35] at H
        have c35b0 : decide ((wrap64 (a1_3 - a0_1)) < (wrap64 (a0_3 - a1_1))) = false := decide_eq_false c35
        clear c35
        simp only [Option.some.injEq, Prod.mk.injEq] at H
        obtain ⟨rfl, rfl, rfl, rfl⟩ := H
        have hnb46 := NB908_909.out
        have hnc46 := NB909_908.out
        have hnb47 := NB908_910.out
        have hnc47 := NB910_908.out
        have hnb48 := NB908_912.out
        have hnc48 := NB912_908.out
        obtain ⟨hcz49_0, hcz49_1, hcz49_2, hcz49_3⟩ := cz4 BK908.out
        obtain ⟨hfz49_0, hfz49_1, hfz49_2, hfz49_3⟩ := fz4 BK908.out
        have hnb50 := NB909_910.out
        have hnc50 := NB910_909.out
        have hnb51 := NB909_912.out
        have hnc51 := NB912_909.out
        obtain ⟨hcz52_0, hcz52_1, hcz52_2, hcz52_3⟩ := cz4 BK909.out
        obtain ⟨hfz52_0, hfz52_1, hfz52_2, hfz52_3⟩ := fz4 BK909.out
        have hnb53 := NB912_910.out
        have hnc53 := NB910_912.out
        obtain ⟨hcz54_0, hcz54_1, hcz54_2⟩ := cz3 BK912.out
        obtain ⟨hfz54_0, hfz54_1, hfz54_2⟩ := fz3 BK912.out
        obtain ⟨hcz55_0, hcz55_1, hcz55_2⟩ := cz3 BK910.out
        obtain ⟨hfz55_0, hfz55_1, hfz55_2⟩ := fz3 BK910.out
        repeat (first | ((with_reducible refine gate_dst (N := 59) rfl ?_); refine rnL_l5B (fun w_ => w_.heap[gb912]? = some (.cells #[.int .i64 0, .int .i64 256, .int .i64 (wrap64 (a0_3 - a1_1))] 56 (0, 0)) ∧ w_.heap[gb908]? = some (.cells #[.int .i64 a0_0, .int .i64 a0_1, .int .i64 a0_2, .int .i64 a0_3] 26 (0, 0)) ∧ w_.heap[gb909]? = some (.cells #[.int .i64 a1_0, .int .i64 a1_1, .int .i64 a1_2, .int .i64 a1_3] 26 (0, 0)) ∧ w_.heap[gb910]? = some (.cells #[.int .i64 0, .int .i64 0, .int .i64 0] 56 (0, 0)) ∧ Below w.heap.size w w_) ⟨qP BK912, qF BK908, qF BK909, qF BK910, qL HB⟩ ?_; clear BK912 BK908 BK909 BK910 HB; rintro w59_ ⟨n0_, n1_, n2_, n3_, n4_⟩; have BK912 := az n0_; have BK908 := az n1_; have BK909 := az n2_; have BK910 := az n3_; have HB := az n4_; clear n0_ n1_ n2_ n3_ n4_; obtain ⟨z59_908_0, z59_908_1, z59_908_2, z59_908_3⟩ := cz4 BK908.out; obtain ⟨f59_908_0, f59_908_1, f59_908_2, f59_908_3⟩ := fz4 BK908.out; obtain ⟨z59_909_0, z59_909_1, z59_909_2, z59_909_3⟩ := cz4 BK909.out; obtain ⟨f59_909_0, f59_909_1, f59_909_2, f59_909_3⟩ := fz4 BK909.out; obtain ⟨z59_912_0, z59_912_1, z59_912_2⟩ := cz3 BK912.out; obtain ⟨f59_912_0, f59_912_1, f59_912_2⟩ := fz3 BK912.out; obtain ⟨z59_910_0, z59_910_1, z59_910_2⟩ := cz3 BK910.out; obtain ⟨f59_910_0, f59_910_1, f59_910_2⟩ := fz3 BK910.out; go_step) | go_values | go_skip | go_guarded | go_step | go_upon | go_back)
        refine bodyPost_ret (results_ct rfl _ _ gb910 56 #[.int .i64 0, .int .i64 256, .int .i64 (wrap64 (a0_3 - a1_1))] (0, 0) _ rfl (qP BK910) Try.underlying56 rfl (by kernel_rfl)) rfl ?_
        exact ⟨qE, qL HB⟩
      rw [if_neg c34] at H
      have c34b0 : decide ((wrap64 (a0_3 - a1_1)) < x913002_4) = false := decide_eq_false c34
      clear c34
      by_cases c56 : (wrap64 (a1_3 - a0_1)) < x913002_4
      · rw [if_pos c56] at H
        have c56b0 : decide ((wrap64 (a1_3 - a0_1)) < x913002_4) = true := decide_eq_true c56
        clear c56
        simp only [Option.some.injEq, Prod.mk.injEq] at H
        obtain ⟨rfl, rfl, rfl, rfl⟩ := H
        have hnb57 := NB908_909.out
        have hnc57 := NB909_908.out
        have hnb58 := NB908_910.out
        have hnc58 := NB910_908.out
        have hnb59 := NB908_912.out
        have hnc59 := NB912_908.out
        obtain ⟨hcz60_0, hcz60_1, hcz60_2, hcz60_3⟩ := cz4 BK908.out
        obtain ⟨hfz60_0, hfz60_1, hfz60_2, hfz60_3⟩ := fz4 BK908.out
        have hnb61 := NB909_910.out
        have hnc61 := NB910_909.out
        have hnb62 := NB909_912.out
        have hnc62 := NB912_909.out
        obtain ⟨hcz63_0, hcz63_1, hcz63_2, hcz63_3⟩ := cz4 BK909.out
        obtain ⟨hfz63_0, hfz63_1, hfz63_2, hfz63_3⟩ := fz4 BK909.out
        have hnb64 := NB912_910.out
        have hnc64 := NB910_912.out
        obtain ⟨hcz65_0, hcz65_1, hcz65_2⟩ := cz3 BK912.out
        obtain ⟨hfz65_0, hfz65_1, hfz65_2⟩ := fz3 BK912.out
        obtain ⟨hcz66_0, hcz66_1, hcz66_2⟩ := cz3 BK910.out
        obtain ⟨hfz66_0, hfz66_1, hfz66_2⟩ := fz3 BK910.out
        repeat (first | ((with_reducible refine gate_dst (N := 78) rfl ?_); refine rnL_l5B (fun w_ => w_.heap[gb912]? = some (.cells #[.int .i64 0, .int .i64 (-256), .int .i64 (wrap64 (a1_3 - a0_1))] 56 (0, 0)) ∧ w_.heap[gb908]? = some (.cells #[.int .i64 a0_0, .int .i64 a0_1, .int .i64 a0_2, .int .i64 a0_3] 26 (0, 0)) ∧ w_.heap[gb909]? = some (.cells #[.int .i64 a1_0, .int .i64 a1_1, .int .i64 a1_2, .int .i64 a1_3] 26 (0, 0)) ∧ w_.heap[gb910]? = some (.cells #[.int .i64 0, .int .i64 0, .int .i64 0] 56 (0, 0)) ∧ Below w.heap.size w w_) ⟨qP BK912, qF BK908, qF BK909, qF BK910, qL HB⟩ ?_; clear BK912 BK908 BK909 BK910 HB; rintro w78_ ⟨n0_, n1_, n2_, n3_, n4_⟩; have BK912 := az n0_; have BK908 := az n1_; have BK909 := az n2_; have BK910 := az n3_; have HB := az n4_; clear n0_ n1_ n2_ n3_ n4_; obtain ⟨z78_912_0, z78_912_1, z78_912_2⟩ := cz3 BK912.out; obtain ⟨f78_912_0, f78_912_1, f78_912_2⟩ := fz3 BK912.out; obtain ⟨z78_910_0, z78_910_1, z78_910_2⟩ := cz3 BK910.out; obtain ⟨f78_910_0, f78_910_1, f78_910_2⟩ := fz3 BK910.out; go_step) | go_values | go_skip | go_guarded | go_step | go_upon | go_back)
        refine bodyPost_ret (results_ct rfl _ _ gb910 56 #[.int .i64 0, .int .i64 (-256), .int .i64 (wrap64 (a1_3 - a0_1))] (0, 0) _ rfl (qP BK910) Try.underlying56 rfl (by kernel_rfl)) rfl ?_
        exact ⟨qE, qL HB⟩
      rw [if_neg c56] at H
      have c56b0 : decide ((wrap64 (a1_3 - a0_1)) < x913002_4) = false := decide_eq_false c56
      clear c56
      simp only [Option.some.injEq, Prod.mk.injEq] at H
      obtain ⟨rfl, rfl, rfl, rfl⟩ := H
      have hnb67 := NB908_909.out
      have hnc67 := NB909_908.out
      have hnb68 := NB908_910.out
      have hnc68 := NB910_908.out
      have hnb69 := NB908_912.out
      have hnc69 := NB912_908.out
      obtain ⟨hcz70_0, hcz70_1, hcz70_2, hcz70_3⟩ := cz4 BK908.out
      obtain ⟨hfz70_0, hfz70_1, hfz70_2, hfz70_3⟩ := fz4 BK908.out
      have hnb71 := NB909_910.out
      have hnc71 := NB910_909.out
      have hnb72 := NB909_912.out
      have hnc72 := NB912_909.out
      obtain ⟨hcz73_0, hcz73_1, hcz73_2, hcz73_3⟩ := cz4 BK909.out
      obtain ⟨hfz73_0, hfz73_1, hfz73_2, hfz73_3⟩ := fz4 BK909.out
      have hnb74 := NB912_910.out
      have hnc74 := NB910_912.out
      obtain ⟨hcz75_0, hcz75_1, hcz75_2⟩ := cz3 BK912.out
      obtain ⟨hfz75_0, hfz75_1, hfz75_2⟩ := fz3 BK912.out
      obtain ⟨hcz76_0, hcz76_1, hcz76_2⟩ := cz3 BK910.out
      obtain ⟨hfz76_0, hfz76_1, hfz76_2⟩ := fz3 BK910.out
      go_wp2
      refine bodyPost_ret (results_ct rfl _ _ gb910 56 #[.int .i64 x913000_4, .int .i64 x913001_4, .int .i64 x913002_4] (0, 0) _ rfl (qP BK910) Try.underlying56 rfl (by kernel_rfl)) rfl ?_
      exact ⟨qE, qL HB⟩
  replace c4 := Bool.eq_false_iff.mpr c4
  subst c4
  replace H := qU H
  simp only [Option.some.injEq, Prod.mk.injEq] at H
  obtain ⟨rfl, rfl, rfl, rfl⟩ := H
  go_enter Try.func91, Try.ntmps91
  go_wp2_with (first | ((with_reducible refine gate_dst (N := 2) rfl ?_); refine bx (N := 2) (cs := #[.int .i64 a0_0, .int .i64 a0_1, .int .i64 a0_2, .int .i64 a0_3]) (t := 26) ?_; intro gb908 hg w77 hbox hb; have BK908 := az hbox; have GW908 := az ((gE hg (qL HB) : w.heap.size ≤ gb908)); have GE908 := GW908; replace HB := bS HB hb; clear hb hbox hg) | ((with_reducible refine gate_dst (N := 3) rfl ?_); refine bx (N := 3) (cs := #[.int .i64 a1_0, .int .i64 a1_1, .int .i64 a1_2, .int .i64 a1_3]) (t := 26) ?_; intro gb909 hg w78 hbox hb; have BK909 := az hbox; have GW909 := az ((gE hg (qL HB) : w.heap.size ≤ gb909)); have GE909 := GW909; obtain ⟨NB908_909, NB909_908⟩ := nPB BK908 hg; replace BK908 := kBB BK908 hb; replace HB := bS HB hb; clear hb hbox hg) | ((with_reducible refine gate_dst (N := 4) rfl ?_); refine bx (N := 4) (cs := #[.int .i64 0, .int .i64 0, .int .i64 0]) (t := 56) ?_; intro gb910 hg w79 hbox hb; have BK910 := az hbox; have GW910 := az ((gE hg (qL HB) : w.heap.size ≤ gb910)); have GE910 := GW910; obtain ⟨NB908_910, NB910_908⟩ := nPB BK908 hg; obtain ⟨NB909_910, NB910_909⟩ := nPB BK909 hg; replace BK908 := kBB BK908 hb; replace BK909 := kBB BK909 hb; replace HB := bS HB hb; clear hb hbox hg; have hnb80 := NB908_909.out; have hnc80 := NB909_908.out; have hnb81 := NB908_910.out; have hnc81 := NB910_908.out; obtain ⟨hcz82_0, hcz82_1, hcz82_2, hcz82_3⟩ := cz4 BK908.out; obtain ⟨hfz82_0, hfz82_1, hfz82_2, hfz82_3⟩ := fz4 BK908.out; have hnb83 := NB909_910.out; have hnc83 := NB910_909.out; obtain ⟨hcz84_0, hcz84_1, hcz84_2, hcz84_3⟩ := cz4 BK909.out; obtain ⟨hfz84_0, hfz84_1, hfz84_2, hfz84_3⟩ := fz4 BK909.out) | ((with_reducible refine gate_callee (f := 103) rfl ?_); refine gl (some 9) Try.func103 #[.agg #[.int .i64 a0_0, .int .i64 a0_1, .int .i64 a0_2, .int .i64 a0_3], .agg #[.int .i64 a1_0, .int .i64 a1_1, .int .i64 a1_2, .int .i64 a1_3]] ?_; (with_reducible refine (spec_l3Meets.calls a0_0 a0_1 a0_2 a0_3 a1_0 a1_1 a1_2 a1_3 false _ A3.out).mono ?_); rintro e w85 ⟨rfl, hb⟩; refine ⟨_, rfl, ?_⟩; replace BK908 := kBB BK908 hb; replace BK909 := kBB BK909 hb; replace BK910 := kBB BK910 hb; replace HB := bS HB hb; clear hb; obtain ⟨hcz86_0, hcz86_1, hcz86_2⟩ := cz3 BK910.out; obtain ⟨hfz86_0, hfz86_1, hfz86_2⟩ := fz3 BK910.out))
  refine bodyPost_ret (results_ct rfl _ _ gb910 56 #[.int .i64 0, .int .i64 0, .int .i64 0] (0, 0) _ rfl (qP BK910) Try.underlying56 rfl (by kernel_rfl)) rfl ?_
  exact ⟨qE, qL HB⟩

/-! ### spec_l3Bounds: function 92 -/
def spec_l3Bounds.f (a0_0 : Int) (a0_1 : Int) (a0_2 : Int) (a1_0 : Int) (a1_1 : Int) : Option (Int × Int × Int × Int) := if a0_0 = 1 then (some (wrap64 (a1_0 - a0_1), wrap64 (a1_1 - a0_1), wrap64 (a1_0 + a0_1), wrap64 (a1_1 + a0_1))) else (some (wrap64 (a1_0 - a0_1), wrap64 (a1_1 - a0_2), wrap64 (a1_0 + a0_1), wrap64 (a1_1 + a0_2)))
set_option maxHeartbeats 8000000 in
set_option maxRecDepth 100000 in
theorem spec_l3Bounds.calls (a0_0 : Int) (a0_1 : Int) (a0_2 : Int) (a1_0 : Int) (a1_1 : Int) (r1 : Int) (r2 : Int) (r3 : Int) (r4 : Int) (w : World) (h : spec_l3Bounds.f a0_0 a0_1 a0_2 a1_0 a1_1 = some (r1, r2, r3, r4)) :
    Calls Try.prog 92 #[.agg #[.int .i64 a0_0, .int .i64 a0_1, .int .i64 a0_2], .agg #[.int .i64 a1_0, .int .i64 a1_1]] w fun e w' => e = .returned (.agg #[.int .i64 r1, .int .i64 r2, .int .i64 r3, .int .i64 r4]) ∧ Below w.heap.size w w' := by
  have hu38 := Try.underlying38
  have hu24 := Try.underlying24
  have hu26 := Try.underlying26
  have HB := az (Below.refl w.heap.size w)
  have H : (if a0_0 = 1 then (some (wrap64 (a1_0 - a0_1), wrap64 (a1_1 - a0_1), wrap64 (a1_0 + a0_1), wrap64 (a1_1 + a0_1))) else (some (wrap64 (a1_0 - a0_1), wrap64 (a1_1 - a0_2), wrap64 (a1_0 + a0_1), wrap64 (a1_1 + a0_2)))) = some (r1, r2, r3, r4) := h
  clear h
  by_cases c3 : a0_0 = 1
  · rw [if_pos c3] at H
    have c3b0 : (a0_0 == 1) = true := beq_iff_eq.mpr c3
    have c3b1 : (a0_0 != 1) = false := bne_eq_false_iff_eq.mpr c3
    clear c3
    simp only [Option.some.injEq, Prod.mk.injEq] at H
    obtain ⟨rfl, rfl, rfl, rfl⟩ := H
    go_enter Try.func92, Try.ntmps92
    go_wp2_with (first | ((with_reducible refine gate_dst (N := 2) rfl ?_); refine bx (N := 2) (cs := #[.int .i64 a0_0, .int .i64 a0_1, .int .i64 a0_2]) (t := 38) ?_; intro gb913 hg w4 hbox hb; have BK913 := az hbox; have GW913 := az ((gE hg (qL HB) : w.heap.size ≤ gb913)); have GE913 := GW913; replace HB := bS HB hb; clear hb hbox hg) | ((with_reducible refine gate_dst (N := 3) rfl ?_); refine bx (N := 3) (cs := #[.int .i64 a1_0, .int .i64 a1_1]) (t := 24) ?_; intro gb914 hg w5 hbox hb; have BK914 := az hbox; have GW914 := az ((gE hg (qL HB) : w.heap.size ≤ gb914)); have GE914 := GW914; obtain ⟨NB913_914, NB914_913⟩ := nPB BK913 hg; replace BK913 := kBB BK913 hb; replace HB := bS HB hb; clear hb hbox hg) | ((with_reducible refine gate_dst (N := 4) rfl ?_); refine bx (N := 4) (cs := #[.int .i64 0, .int .i64 0, .int .i64 0, .int .i64 0]) (t := 26) ?_; intro gb915 hg w6 hbox hb; have BK915 := az hbox; have GW915 := az ((gE hg (qL HB) : w.heap.size ≤ gb915)); have GE915 := GW915; obtain ⟨NB913_915, NB915_913⟩ := nPB BK913 hg; obtain ⟨NB914_915, NB915_914⟩ := nPB BK914 hg; replace BK913 := kBB BK913 hb; replace BK914 := kBB BK914 hb; replace HB := bS HB hb; clear hb hbox hg; have hnb7 := NB913_914.out; have hnc7 := NB914_913.out; have hnb8 := NB913_915.out; have hnc8 := NB915_913.out; obtain ⟨hcz9_0, hcz9_1, hcz9_2⟩ := cz3 BK913.out; obtain ⟨hfz9_0, hfz9_1, hfz9_2⟩ := fz3 BK913.out; have hnb10 := NB914_915.out; have hnc10 := NB915_914.out; obtain ⟨hcz11_0, hcz11_1⟩ := cz2 BK914.out; have hfz11_0 := blk_frozen BK914.out 0; have hfz11_1 := blk_frozen BK914.out 1; obtain ⟨hcz12_0, hcz12_1, hcz12_2, hcz12_3⟩ := cz4 BK915.out; obtain ⟨hfz12_0, hfz12_1, hfz12_2, hfz12_3⟩ := fz4 BK915.out))
    refine bodyPost_ret (results_cell_row rfl _ _ gb915 26 #[.int .i64 (wrap64 (a1_0 - a0_1)), .int .i64 (wrap64 (a1_1 - a0_1)), .int .i64 (wrap64 (a1_0 + a0_1)), .int .i64 (wrap64 (a1_1 + a0_1))] (0, 0) _ rfl (qP BK915) Try.underlying26 rfl (by kernel_rfl)) rfl ?_
    exact ⟨qE, qL HB⟩
  rw [if_neg c3] at H
  have c3b0 : (a0_0 == 1) = false := beq_eq_false_iff_ne.mpr c3
  have c3b1 : (a0_0 != 1) = true := bne_iff_ne.mpr c3
  simp only [Option.some.injEq, Prod.mk.injEq] at H
  obtain ⟨rfl, rfl, rfl, rfl⟩ := H
  go_enter Try.func92, Try.ntmps92
  go_wp2_with (first | ((with_reducible refine gate_dst (N := 2) rfl ?_); refine bx (N := 2) (cs := #[.int .i64 a0_0, .int .i64 a0_1, .int .i64 a0_2]) (t := 38) ?_; intro gb913 hg w13 hbox hb; have BK913 := az hbox; have GW913 := az ((gE hg (qL HB) : w.heap.size ≤ gb913)); have GE913 := GW913; replace HB := bS HB hb; clear hb hbox hg) | ((with_reducible refine gate_dst (N := 3) rfl ?_); refine bx (N := 3) (cs := #[.int .i64 a1_0, .int .i64 a1_1]) (t := 24) ?_; intro gb914 hg w14 hbox hb; have BK914 := az hbox; have GW914 := az ((gE hg (qL HB) : w.heap.size ≤ gb914)); have GE914 := GW914; obtain ⟨NB913_914, NB914_913⟩ := nPB BK913 hg; replace BK913 := kBB BK913 hb; replace HB := bS HB hb; clear hb hbox hg) | ((with_reducible refine gate_dst (N := 4) rfl ?_); refine bx (N := 4) (cs := #[.int .i64 0, .int .i64 0, .int .i64 0, .int .i64 0]) (t := 26) ?_; intro gb915 hg w15 hbox hb; have BK915 := az hbox; have GW915 := az ((gE hg (qL HB) : w.heap.size ≤ gb915)); have GE915 := GW915; obtain ⟨NB913_915, NB915_913⟩ := nPB BK913 hg; obtain ⟨NB914_915, NB915_914⟩ := nPB BK914 hg; replace BK913 := kBB BK913 hb; replace BK914 := kBB BK914 hb; replace HB := bS HB hb; clear hb hbox hg; have hnb16 := NB913_914.out; have hnc16 := NB914_913.out; have hnb17 := NB913_915.out; have hnc17 := NB915_913.out; obtain ⟨hcz18_0, hcz18_1, hcz18_2⟩ := cz3 BK913.out; obtain ⟨hfz18_0, hfz18_1, hfz18_2⟩ := fz3 BK913.out; have hnb19 := NB914_915.out; have hnc19 := NB915_914.out; obtain ⟨hcz20_0, hcz20_1⟩ := cz2 BK914.out; have hfz20_0 := blk_frozen BK914.out 0; have hfz20_1 := blk_frozen BK914.out 1; obtain ⟨hcz21_0, hcz21_1, hcz21_2, hcz21_3⟩ := cz4 BK915.out; obtain ⟨hfz21_0, hfz21_1, hfz21_2, hfz21_3⟩ := fz4 BK915.out))
  refine bodyPost_ret (results_cell_row rfl _ _ gb915 26 #[.int .i64 (wrap64 (a1_0 - a0_1)), .int .i64 (wrap64 (a1_1 - a0_2)), .int .i64 (wrap64 (a1_0 + a0_1)), .int .i64 (wrap64 (a1_1 + a0_2))] (0, 0) _ rfl (qP BK915) Try.underlying26 rfl (by kernel_rfl)) rfl ?_
  exact ⟨qE, qL HB⟩

/-! ### spec_l3Point: function 104 -/
def spec_l3Point.f (a0_0 : Int) (a0_1 : Int) (a0_2 : Int) (a0_3 : Int) (a1_0 : Int) (a1_1 : Int) : Option (Bool) := (spec_l1In.f a1_0 a0_0 a0_2).bind fun t918 => (if t918 = true then ((spec_l1In.f a1_1 a0_1 a0_3).bind fun t919 => (some t919)) else (some false))
set_option maxHeartbeats 8000000 in
set_option maxRecDepth 100000 in
theorem spec_l3Point.calls (a0_0 : Int) (a0_1 : Int) (a0_2 : Int) (a0_3 : Int) (a1_0 : Int) (a1_1 : Int) (r : Bool) (w : World) (h : spec_l3Point.f a0_0 a0_1 a0_2 a0_3 a1_0 a1_1 = some r) :
    Calls Try.prog 104 #[.agg #[.int .i64 a0_0, .int .i64 a0_1, .int .i64 a0_2, .int .i64 a0_3], .agg #[.int .i64 a1_0, .int .i64 a1_1]] w fun e w' => e = .returned (.bool r) ∧ Below w.heap.size w w' := by
  have hu26 := Try.underlying26
  have hu24 := Try.underlying24
  have HB := az (Below.refl w.heap.size w)
  have H : ((spec_l1In.f a1_0 a0_0 a0_2).bind fun t918 => (if t918 = true then ((spec_l1In.f a1_1 a0_1 a0_3).bind fun t919 => (some t919)) else (some false))) = some r := h
  clear h
  replace H := qH H
  obtain ⟨t918, A3, H⟩ := H
  try dsimp only at H
  by_cases c4 : t918 = true
  · subst c4
    replace H := qT H
    replace H := qH H
    obtain ⟨t919, A5, H⟩ := H
    try dsimp only at H
    obtain rfl := Option.some.inj H
    go_enter Try.func104, Try.ntmps104
    go_wp2_with (first | ((with_reducible refine gate_dst (N := 2) rfl ?_); refine bx (N := 2) (cs := #[.int .i64 a0_0, .int .i64 a0_1, .int .i64 a0_2, .int .i64 a0_3]) (t := 26) ?_; intro gb916 hg w6 hbox hb; have BK916 := az hbox; have GW916 := az ((gE hg (qL HB) : w.heap.size ≤ gb916)); have GE916 := GW916; replace HB := bS HB hb; clear hb hbox hg) | ((with_reducible refine gate_dst (N := 3) rfl ?_); refine bx (N := 3) (cs := #[.int .i64 a1_0, .int .i64 a1_1]) (t := 24) ?_; intro gb917 hg w7 hbox hb; have BK917 := az hbox; have GW917 := az ((gE hg (qL HB) : w.heap.size ≤ gb917)); have GE917 := GW917; obtain ⟨NB916_917, NB917_916⟩ := nPB BK916 hg; replace BK916 := kBB BK916 hb; replace HB := bS HB hb; clear hb hbox hg; have hnb8 := NB917_916.out; have hnc8 := NB916_917.out; obtain ⟨hcz9_0, hcz9_1⟩ := cz2 BK917.out; have hfz9_0 := blk_frozen BK917.out 0; have hfz9_1 := blk_frozen BK917.out 1; obtain ⟨hcz10_0, hcz10_1, hcz10_2, hcz10_3⟩ := cz4 BK916.out; obtain ⟨hfz10_0, hfz10_1, hfz10_2, hfz10_3⟩ := fz4 BK916.out) | ((with_reducible refine gate_callee (f := 64) rfl ?_); refine gl (some 13) Try.func64 #[.int .i64 a1_0, .int .i64 a0_0, .int .i64 a0_2] ?_; (with_reducible refine (spec_l1In.calls a1_0 a0_0 a0_2 true _ A3.out).mono ?_); rintro e w' ⟨rfl, ⟨nd, rfl⟩⟩; refine ⟨_, rfl, ?_⟩) | (go_at_call 64; (with_reducible refine (spec_l1In.calls a1_1 a0_1 a0_3 t919 _ A5.out).mono ?_); rintro e w' ⟨rfl, ⟨nd, rfl⟩⟩))
    go_ret
    exact ⟨qE, qL HB⟩
  replace c4 := Bool.eq_false_iff.mpr c4
  subst c4
  replace H := qU H
  obtain rfl := Option.some.inj H
  go_enter Try.func104, Try.ntmps104
  go_wp2_with (first | ((with_reducible refine gate_dst (N := 2) rfl ?_); refine bx (N := 2) (cs := #[.int .i64 a0_0, .int .i64 a0_1, .int .i64 a0_2, .int .i64 a0_3]) (t := 26) ?_; intro gb916 hg w11 hbox hb; have BK916 := az hbox; have GW916 := az ((gE hg (qL HB) : w.heap.size ≤ gb916)); have GE916 := GW916; replace HB := bS HB hb; clear hb hbox hg) | ((with_reducible refine gate_dst (N := 3) rfl ?_); refine bx (N := 3) (cs := #[.int .i64 a1_0, .int .i64 a1_1]) (t := 24) ?_; intro gb917 hg w12 hbox hb; have BK917 := az hbox; have GW917 := az ((gE hg (qL HB) : w.heap.size ≤ gb917)); have GE917 := GW917; obtain ⟨NB916_917, NB917_916⟩ := nPB BK916 hg; replace BK916 := kBB BK916 hb; replace HB := bS HB hb; clear hb hbox hg; have hnb13 := NB917_916.out; have hnc13 := NB916_917.out; obtain ⟨hcz14_0, hcz14_1⟩ := cz2 BK917.out; have hfz14_0 := blk_frozen BK917.out 0; have hfz14_1 := blk_frozen BK917.out 1; obtain ⟨hcz15_0, hcz15_1, hcz15_2, hcz15_3⟩ := cz4 BK916.out; obtain ⟨hfz15_0, hfz15_1, hfz15_2, hfz15_3⟩ := fz4 BK916.out) | ((with_reducible refine gate_callee (f := 64) rfl ?_); refine gl (some 13) Try.func64 #[.int .i64 a1_0, .int .i64 a0_0, .int .i64 a0_2] ?_; (with_reducible refine (spec_l1In.calls a1_0 a0_0 a0_2 false _ A3.out).mono ?_); rintro e w' ⟨rfl, ⟨nd, rfl⟩⟩; refine ⟨_, rfl, ?_⟩))
  go_ret
  exact ⟨qE, qL HB⟩

theorem rnL_spec_l5Mixed {P : Program} {ops : Array Oper} {Q : Exit → Act → World → Prop} {l : List Oper} {a : Act} {W : World} (K : World → Prop) (f : K W) (h : ∀ w', K w' → wpList P ops Q l a w') : wpList P ops Q l a W := h W f

/-! ### spec_l5Mixed: function 93 -/
def spec_l5Mixed.f (k : Nat) (a0_0 : Int) (a0_1 : Int) (a0_2 : Int) (a0_3 : Int) (a1_0 : Int) (a1_1 : Int) (a2 : Int) : Option (Int × Int × Int × Bool) := (spec_l3Point.f a0_0 a0_1 a0_2 a0_3 a1_0 a1_1).bind fun t923 => (if t923 = true then ((spec_l5Boxes.f k a0_0 a0_1 a0_2 a0_3 a1_0 a1_1 a1_0 a1_1).bind fun bt924 => (some (bt924.1, bt924.2.1, wrap64 (bt924.2.2.1 + a2), bt924.2.2.2))) else ((spec_l3Near.f a0_0 a0_1 a0_2 a0_3 a1_0 a1_1).bind fun bt929 => ((spec_l5Rounds.f k bt929.1 bt929.2 a1_0 a1_1 a2).bind fun bt931 => (some (bt931.1, bt931.2.1, bt931.2.2.1, bt931.2.2.2)))))
theorem spec_l5Mixed.mono : ∀ a0 a1 a2 a3 a4 a5 a6 k, LeO (spec_l5Mixed.f k a0 a1 a2 a3 a4 a5 a6) (spec_l5Mixed.f (k + 1) a0 a1 a2 a3 a4 a5 a6) := by
  intro a0 a1 a2 a3 a4 a5 a6 k
  unfold spec_l5Mixed.f
  repeat' first
      | (with_reducible exact spec_l5Boxes.mono _ _ _ _ _ _ _ _ _)
      | (with_reducible exact spec_l5Rounds.mono _ _ _ _ _ _)
      | (with_reducible exact LeO.refl _)
      | (with_reducible exact LeO.none _)
      | (with_reducible refine LeO.ite ?_ ?_)
      | (with_reducible refine LeO.bind ?_ (fun _ => ?_))
def spec_l5Mixed.T5 : Bool × List (List Nat × List Nat) := (true, [([], []), ([], []), ([0, 1], [0, 1]), ([], []), ([], []), ([2, 3, 4, 2], [2, 3, 4]), ([5], [5]), ([5], [5]), ([6, 5, 0, 1, 2, 3, 4, 5, 6, 7], [6]), ([7, 8, 0, 1, 2, 3, 4, 5, 6, 7, 8], [7])])
def spec_l5Mixed.B5 : List Nat := [0, 0, 3, 0, 0, 31, 63, 63, 255, 511]
theorem spec_l5Mixed.tab5 : rtab .any (opsOf Try.f93 5) = spec_l5Mixed.T5 := by kernel_rfl
theorem spec_l5Mixed.bits5 : waitsOk spec_l5Mixed.T5.2 spec_l5Mixed.B5 = true := by kernel_rfl
set_option maxHeartbeats 8000000 in
set_option maxRecDepth 100000 in
theorem spec_l5Mixed.calls (k : Nat) (a0_0 : Int) (a0_1 : Int) (a0_2 : Int) (a0_3 : Int) (a1_0 : Int) (a1_1 : Int) (a2 : Int) (r1 : Int) (r2 : Int) (r3 : Int) (r4 : Bool) (w : World) (h : spec_l5Mixed.f k a0_0 a0_1 a0_2 a0_3 a1_0 a1_1 a2 = some (r1, r2, r3, r4)) :
    Calls Try.prog 93 #[.agg #[.int .i64 a0_0, .int .i64 a0_1, .int .i64 a0_2, .int .i64 a0_3], .agg #[.int .i64 a1_0, .int .i64 a1_1], .int .i64 a2] w fun e w' => e = .returned (.tuple #[.agg #[.int .i64 r1, .int .i64 r2, .int .i64 r3], .bool r4]) ∧ Below w.heap.size w w' := by
  have hu26 := Try.underlying26
  have hu24 := Try.underlying24
  have hu56 := Try.underlying56
  have HB := az (Below.refl w.heap.size w)
  have H : ((spec_l3Point.f a0_0 a0_1 a0_2 a0_3 a1_0 a1_1).bind fun t923 => (if t923 = true then ((spec_l5Boxes.f k a0_0 a0_1 a0_2 a0_3 a1_0 a1_1 a1_0 a1_1).bind fun bt924 => (some (bt924.1, bt924.2.1, wrap64 (bt924.2.2.1 + a2), bt924.2.2.2))) else ((spec_l3Near.f a0_0 a0_1 a0_2 a0_3 a1_0 a1_1).bind fun bt929 => ((spec_l5Rounds.f k bt929.1 bt929.2 a1_0 a1_1 a2).bind fun bt931 => (some (bt931.1, bt931.2.1, bt931.2.2.1, bt931.2.2.2)))))) = some (r1, r2, r3, r4) := h
  clear h
  replace H := qH H
  obtain ⟨t923, A4, H⟩ := H
  try dsimp only at H
  by_cases c5 : t923 = true
  · subst c5
    replace H := qT H
    replace H := qH H
    obtain ⟨⟨t924, t925, t926, t927⟩, A6, H⟩ := H
    try dsimp only at H
    simp only [Option.some.injEq, Prod.mk.injEq] at H
    obtain ⟨rfl, rfl, rfl, rfl⟩ := H
    go_enter Try.func93, Try.ntmps93
    go_wp2_with (first | ((with_reducible refine gate_dst (N := 26) rfl ?_); refine rnL_spec_l5Mixed (fun w_ => w_.heap[gb928]? = some (.cells #[.int .i64 t924, .int .i64 t925, .int .i64 (wrap64 (t926 + a2))] 56 (0, 0)) ∧ w_.heap[gb922]? = some (.cells #[.int .i64 0, .int .i64 0, .int .i64 0] 56 (0, 0)) ∧ Below w.heap.size w w_) ⟨qP BK928, qF BK922, qL HB⟩ ?_; clear BK928 BK922 HB; rintro w26_ ⟨n0_, n1_, n2_⟩; have BK928 := az n0_; have BK922 := az n1_; have HB := az n2_; clear n0_ n1_ n2_; obtain ⟨z26_928_0, z26_928_1, z26_928_2⟩ := cz3 BK928.out; obtain ⟨f26_928_0, f26_928_1, f26_928_2⟩ := fz3 BK928.out; obtain ⟨z26_922_0, z26_922_1, z26_922_2⟩ := cz3 BK922.out; obtain ⟨f26_922_0, f26_922_1, f26_922_2⟩ := fz3 BK922.out; go_step) | ((with_reducible refine gate_dst (N := 3) rfl ?_); refine bx (N := 3) (cs := #[.int .i64 a0_0, .int .i64 a0_1, .int .i64 a0_2, .int .i64 a0_3]) (t := 26) ?_; intro gb920 hg w7 hbox hb; have BK920 := az hbox; have GW920 := az ((gE hg (qL HB) : w.heap.size ≤ gb920)); have GE920 := GW920; replace HB := bS HB hb; clear hb hbox hg) | ((with_reducible refine gate_dst (N := 4) rfl ?_); refine bx (N := 4) (cs := #[.int .i64 a1_0, .int .i64 a1_1]) (t := 24) ?_; intro gb921 hg w8 hbox hb; have BK921 := az hbox; have GW921 := az ((gE hg (qL HB) : w.heap.size ≤ gb921)); have GE921 := GW921; obtain ⟨NB920_921, NB921_920⟩ := nPB BK920 hg; replace BK920 := kBB BK920 hb; replace HB := bS HB hb; clear hb hbox hg) | ((with_reducible refine gate_dst (N := 6) rfl ?_); refine bx (N := 6) (cs := #[.int .i64 0, .int .i64 0, .int .i64 0]) (t := 56) ?_; intro gb922 hg w9 hbox hb; have BK922 := az hbox; have GW922 := az ((gE hg (qL HB) : w.heap.size ≤ gb922)); have GE922 := GW922; obtain ⟨NB920_922, NB922_920⟩ := nPB BK920 hg; obtain ⟨NB921_922, NB922_921⟩ := nPB BK921 hg; replace BK920 := kBB BK920 hb; replace BK921 := kBB BK921 hb; replace HB := bS HB hb; clear hb hbox hg; have hnb10 := NB920_921.out; have hnc10 := NB921_920.out; have hnb11 := NB920_922.out; have hnc11 := NB922_920.out; obtain ⟨hcz12_0, hcz12_1, hcz12_2, hcz12_3⟩ := cz4 BK920.out; obtain ⟨hfz12_0, hfz12_1, hfz12_2, hfz12_3⟩ := fz4 BK920.out; have hnb13 := NB921_922.out; have hnc13 := NB922_921.out; obtain ⟨hcz14_0, hcz14_1⟩ := cz2 BK921.out; have hfz14_0 := blk_frozen BK921.out 0; have hfz14_1 := blk_frozen BK921.out 1) | ((with_reducible refine gate_callee (f := 104) rfl ?_); refine gl (some 12) Try.func104 #[.agg #[.int .i64 a0_0, .int .i64 a0_1, .int .i64 a0_2, .int .i64 a0_3], .agg #[.int .i64 a1_0, .int .i64 a1_1]] ?_; (with_reducible refine (spec_l3Point.calls a0_0 a0_1 a0_2 a0_3 a1_0 a1_1 true _ A4.out).mono ?_); rintro e w15 ⟨rfl, hb⟩; refine ⟨_, rfl, ?_⟩; replace BK920 := kBB BK920 hb; replace BK921 := kBB BK921 hb; replace BK922 := kBB BK922 hb; replace HB := bS HB hb; clear hb; obtain ⟨hcz16_0, hcz16_1, hcz16_2, hcz16_3⟩ := cz4 BK920.out; obtain ⟨hfz16_0, hfz16_1, hfz16_2, hfz16_3⟩ := fz4 BK920.out; obtain ⟨hcz17_0, hcz17_1⟩ := cz2 BK921.out; have hfz17_0 := blk_frozen BK921.out 0; have hfz17_1 := blk_frozen BK921.out 1) | ((with_reducible refine gate_callee (f := 91) rfl ?_); refine gl (some 18) Try.func91 #[.agg #[.int .i64 a0_0, .int .i64 a0_1, .int .i64 a0_2, .int .i64 a0_3], .agg #[.int .i64 a1_0, .int .i64 a1_1, .int .i64 a1_0, .int .i64 a1_1]] ?_; (with_reducible refine (spec_l5Boxes.calls k a0_0 a0_1 a0_2 a0_3 a1_0 a1_1 a1_0 a1_1 t924 t925 t926 t927 _ A6.out).mono ?_); rintro e w18 ⟨rfl, hb⟩; refine ⟨_, rfl, ?_⟩; replace BK920 := kBB BK920 hb; replace BK921 := kBB BK921 hb; replace BK922 := kBB BK922 hb; replace HB := bS HB hb; clear hb) | ((with_reducible refine gate_dst (N := 8) rfl ?_); refine bx (N := 8) (cs := #[.int .i64 0, .int .i64 0, .int .i64 0]) (t := 56) ?_; intro gb928 hg w19 hbox hb; have BK928 := az hbox; have GW928 := az ((gE hg (qL HB) : w.heap.size ≤ gb928)); have GE928 := GW928; obtain ⟨NB920_928, NB928_920⟩ := nPB BK920 hg; obtain ⟨NB921_928, NB928_921⟩ := nPB BK921 hg; obtain ⟨NB922_928, NB928_922⟩ := nPB BK922 hg; replace BK920 := kBB BK920 hb; replace BK921 := kBB BK921 hb; replace BK922 := kBB BK922 hb; replace HB := bS HB hb; clear hb hbox hg; have hnb20 := NB928_920.out; have hnc20 := NB920_928.out; have hnb21 := NB928_921.out; have hnc21 := NB921_928.out; have hnb22 := NB928_922.out; have hnc22 := NB922_928.out; obtain ⟨hcz23_0, hcz23_1, hcz23_2⟩ := cz3 BK928.out; obtain ⟨hfz23_0, hfz23_1, hfz23_2⟩ := fz3 BK928.out; obtain ⟨hcz24_0, hcz24_1, hcz24_2⟩ := cz3 BK922.out; obtain ⟨hfz24_0, hfz24_1, hfz24_2⟩ := fz3 BK922.out))
    refine bodyPost_ret (results_ct rfl _ _ gb922 56 #[.int .i64 t924, .int .i64 t925, .int .i64 (wrap64 (t926 + a2))] (0, 0) _ rfl (qP BK922) Try.underlying56 rfl (by kernel_rfl)) rfl ?_
    exact ⟨qE, qL HB⟩
  replace c5 := Bool.eq_false_iff.mpr c5
  subst c5
  replace H := qU H
  replace H := qH H
  obtain ⟨⟨t929, t930⟩, A25, H⟩ := H
  try dsimp only at H
  replace H := qH H
  obtain ⟨⟨t931, t932, t933, t934⟩, A26, H⟩ := H
  try dsimp only at H
  simp only [Option.some.injEq, Prod.mk.injEq] at H
  obtain ⟨rfl, rfl, rfl, rfl⟩ := H
  go_enter Try.func93, Try.ntmps93
  try go_wp2_with (first | ((with_reducible refine gate_dst (N := 3) rfl ?_); refine bx (N := 3) (cs := #[.int .i64 a0_0, .int .i64 a0_1, .int .i64 a0_2, .int .i64 a0_3]) (t := 26) ?_; intro gb920 hg w27 hbox hb; have BK920 := az hbox; have GW920 := az ((gE hg (qL HB) : w.heap.size ≤ gb920)); have GE920 := GW920; replace HB := bS HB hb; clear hb hbox hg) | ((with_reducible refine gate_dst (N := 4) rfl ?_); refine bx (N := 4) (cs := #[.int .i64 a1_0, .int .i64 a1_1]) (t := 24) ?_; intro gb921 hg w28 hbox hb; have BK921 := az hbox; have GW921 := az ((gE hg (qL HB) : w.heap.size ≤ gb921)); have GE921 := GW921; obtain ⟨NB920_921, NB921_920⟩ := nPB BK920 hg; replace BK920 := kBB BK920 hb; replace HB := bS HB hb; clear hb hbox hg) | ((with_reducible refine gate_dst (N := 6) rfl ?_); refine bx (N := 6) (cs := #[.int .i64 0, .int .i64 0, .int .i64 0]) (t := 56) ?_; intro gb922 hg w29 hbox hb; have BK922 := az hbox; have GW922 := az ((gE hg (qL HB) : w.heap.size ≤ gb922)); have GE922 := GW922; obtain ⟨NB920_922, NB922_920⟩ := nPB BK920 hg; obtain ⟨NB921_922, NB922_921⟩ := nPB BK921 hg; replace BK920 := kBB BK920 hb; replace BK921 := kBB BK921 hb; replace HB := bS HB hb; clear hb hbox hg; have hnb30 := NB920_921.out; have hnc30 := NB921_920.out; have hnb31 := NB920_922.out; have hnc31 := NB922_920.out; obtain ⟨hcz32_0, hcz32_1, hcz32_2, hcz32_3⟩ := cz4 BK920.out; obtain ⟨hfz32_0, hfz32_1, hfz32_2, hfz32_3⟩ := fz4 BK920.out; have hnb33 := NB921_922.out; have hnc33 := NB922_921.out; obtain ⟨hcz34_0, hcz34_1⟩ := cz2 BK921.out; have hfz34_0 := blk_frozen BK921.out 0; have hfz34_1 := blk_frozen BK921.out 1) | ((with_reducible refine gate_callee (f := 104) rfl ?_); refine gl (some 12) Try.func104 #[.agg #[.int .i64 a0_0, .int .i64 a0_1, .int .i64 a0_2, .int .i64 a0_3], .agg #[.int .i64 a1_0, .int .i64 a1_1]] ?_; (with_reducible refine (spec_l3Point.calls a0_0 a0_1 a0_2 a0_3 a1_0 a1_1 false _ A4.out).mono ?_); rintro e w35 ⟨rfl, hb⟩; refine ⟨_, rfl, ?_⟩; replace BK920 := kBB BK920 hb; replace BK921 := kBB BK921 hb; replace BK922 := kBB BK922 hb; replace HB := bS HB hb; clear hb))
  replace BK920 := az (blk_drew BK920.out)
  replace BK921 := az (blk_drew BK921.out)
  replace BK922 := az (blk_drew BK922.out)
  replace HB := az (below_drew1 HB.out)
  refine start_ (n := 10) (S := fun w' => w'.cell? ⟨gb920, 0, none⟩ = some (.int .i64 a0_0) ∧ w'.cell? ⟨gb920, 1, none⟩ = some (.int .i64 a0_1) ∧ w'.cell? ⟨gb920, 2, none⟩ = some (.int .i64 a0_2) ∧ w'.cell? ⟨gb920, 3, none⟩ = some (.int .i64 a0_3) ∧ w'.cell? ⟨gb921, 0, none⟩ = some (.int .i64 a1_0) ∧ w'.cell? ⟨gb921, 1, none⟩ = some (.int .i64 a1_1)) (ds := []) #[false, false, false, false, false, false, false, false, false, false] (by kernel_rfl) rfl rfl ⟨bc BK920 0, bc BK920 1, bc BK920 2, bc BK920 3, bc BK921 0, bc BK921 1⟩ (fun hHeld => ?_); refine with_tabW spec_l5Mixed.tab5 spec_l5Mixed.bits5 (fun HT_ HW_ => ?_)
  generalize w35.drew = w36 at BK920 BK921 BK922 HB hHeld ⊢
  refine pu 4 (some 32) (fl 10 16) HT_ ?_
  refine tk6 0 (some 28) (fl 10 17) HT_ HW_ hHeld ?_
  refine tk6 1 (some 29) (fl 10 19) HT_ HW_ hHeld ?_
  refine tk6 3 (some 31) (fl 10 27) HT_ HW_ hHeld ?_
  refine on 2 (some 30) (fl 10 31) HT_ (fun K hK => ?_)
  refine go1 Try.func86 #[.agg #[.int .i64 a0_0, .int .i64 a0_1, .int .i64 a0_2, .int .i64 a0_3], .agg #[.int .i64 a1_0, .int .i64 a1_1]] ?_
  with_reducible refine (spec_l3Near.calls a0_0 a0_1 a0_2 a0_3 a1_0 a1_1 t929 t930 _ A25.out).mono ?_
  rintro e w37 ⟨rfl, hb⟩
  refine ⟨_, rfl, ?_⟩
  replace BK920 := kBB BK920 hb
  replace BK921 := kBB BK921 hb
  replace BK922 := kBB BK922 hb
  replace HB := bS HB hb
  clear hb
  refine hK.out _ _ ⟨bc BK920 0, bc BK920 1, bc BK920 2, bc BK920 3, bc BK921 0, bc BK921 1⟩ (fun hHeld => ?_)
  clear hK K
  refine nm (some 30) ?_
  refine on 5 (some 33) (fl 10 63) HT_ (fun K hK => ?_)
  refine go1 Try.func90 #[.agg #[.int .i64 t929, .int .i64 t930], .agg #[.int .i64 a1_0, .int .i64 a1_1], .int .i64 a2] ?_
  with_reducible refine (spec_l5Rounds.calls k t929 t930 a1_0 a1_1 a2 t931 t932 t933 t934 _ A26.out).mono ?_
  rintro e w38 ⟨rfl, hb⟩
  refine ⟨_, rfl, ?_⟩
  replace BK920 := kBB BK920 hb
  replace BK921 := kBB BK921 hb
  replace BK922 := kBB BK922 hb
  replace HB := bS HB hb
  clear hb
  refine hK.out _ _ ⟨bc BK920 0, bc BK920 1, bc BK920 2, bc BK920 3, bc BK921 0, bc BK921 1⟩ (fun hHeld => ?_)
  clear hK K
  refine nm (some 33) ?_
  refine pu 6 (some 34) (fl 10 127) HT_ ?_
  refine pu 7 (some 35) (fl 10 255) HT_ ?_
  refine on 8 (none) (fl 10 511) HT_ (fun K hK => ?_)
  have hs39 : w38.cell? ⟨gb922, 0, none⟩ = some (.int .i64 0) := bc BK922 0
  have hfs39 := blk_frozen BK922.out 0
  have hns39_0 := NB920_922.out
  have hns39_1 := NB921_922.out
  have hms39_0 := NB922_920.out
  have hms39_1 := NB922_921.out
  have hs40 : w38.cell? ⟨gb922, 1, none⟩ = some (.int .i64 0) := bc BK922 1
  have hfs40 := blk_frozen BK922.out 1
  have hns40_0 := NB920_922.out
  have hns40_1 := NB921_922.out
  have hms40_0 := NB922_920.out
  have hms40_1 := NB922_921.out
  have hs41 : w38.cell? ⟨gb922, 2, none⟩ = some (.int .i64 0) := bc BK922 2
  have hfs41 := blk_frozen BK922.out 2
  have hns41_0 := NB920_922.out
  have hns41_1 := NB921_922.out
  have hms41_0 := NB922_920.out
  have hms41_1 := NB922_921.out
  refine skip_ (w1 := ?_) ?hw ?hn ?_ ?_; (case hw => unfold Region.wanted; rfl); (case hn => rfl)
  rotate_left
  · go_simp
    rfl
  refine hK.out _ _ ⟨(cf NB920_922 ((cf NB920_922 ((cf NB920_922 (hHeld.1)))))), (cf NB920_922 ((cf NB920_922 ((cf NB920_922 (hHeld.2.1)))))), (cf NB920_922 ((cf NB920_922 ((cf NB920_922 (hHeld.2.2.1)))))), (cf NB920_922 ((cf NB920_922 ((cf NB920_922 (hHeld.2.2.2.1)))))), (cf NB921_922 ((cf NB921_922 ((cf NB921_922 (hHeld.2.2.2.2.1)))))), (cf NB921_922 ((cf NB921_922 ((cf NB921_922 (hHeld.2.2.2.2.2))))))⟩ (fun hHeld => ?_)
  clear hK K
  refine pu 9 (some 7) (fl 10 1023) HT_ ?_
  refine done_ (done_of HT_.out (by kernel_rfl)) ?_
  try go_wp2
  refine bodyPost_ret (results_ct rfl _ _ gb922 56 #[.int .i64 t931, .int .i64 t932, .int .i64 t933] (0, 0) _ rfl (qP BK922) Try.underlying56 rfl (by kernel_rfl)) rfl ?_
  exact ⟨qE, qL HB⟩

/-! ### spec_l5Turn: function 94 -/
def spec_l5Turn.f (a0_0 : Int) (a0_1 : Int) (a0_2 : Int) : Option (Int × Int × Int) := some (wrap64 (-a0_0), wrap64 (-a0_1), a0_2)
set_option maxHeartbeats 8000000 in
set_option maxRecDepth 100000 in
theorem spec_l5Turn.calls (a0_0 : Int) (a0_1 : Int) (a0_2 : Int) (r1 : Int) (r2 : Int) (r3 : Int) (w : World) (h : spec_l5Turn.f a0_0 a0_1 a0_2 = some (r1, r2, r3)) :
    Calls Try.prog 94 #[.agg #[.int .i64 a0_0, .int .i64 a0_1, .int .i64 a0_2]] w fun e w' => e = .returned (.agg #[.int .i64 r1, .int .i64 r2, .int .i64 r3]) ∧ Below w.heap.size w w' := by
  have hu56 := Try.underlying56
  have hu24 := Try.underlying24
  have HB := az (Below.refl w.heap.size w)
  have H : (some (wrap64 (-a0_0), wrap64 (-a0_1), a0_2)) = some (r1, r2, r3) := h
  clear h
  simp only [Option.some.injEq, Prod.mk.injEq] at H
  obtain ⟨rfl, rfl, rfl⟩ := H
  go_enter Try.func94, Try.ntmps94
  go_wp2_with (first | ((with_reducible refine gate_dst (N := 1) rfl ?_); refine bx (N := 1) (cs := #[.int .i64 a0_0, .int .i64 a0_1, .int .i64 a0_2]) (t := 56) ?_; intro gb935 hg w2 hbox hb; have BK935 := az hbox; have GW935 := az ((gE hg (qL HB) : w.heap.size ≤ gb935)); have GE935 := GW935; replace HB := bS HB hb; clear hb hbox hg) | ((with_reducible refine gate_dst (N := 2) rfl ?_); refine bx (N := 2) (cs := #[.int .i64 0, .int .i64 0, .int .i64 0]) (t := 56) ?_; intro gb936 hg w3 hbox hb; have BK936 := az hbox; have GW936 := az ((gE hg (qL HB) : w.heap.size ≤ gb936)); have GE936 := GW936; obtain ⟨NB935_936, NB936_935⟩ := nPB BK935 hg; replace BK935 := kBB BK935 hb; replace HB := bS HB hb; clear hb hbox hg; have hnb4 := NB935_936.out; have hnc4 := NB936_935.out; obtain ⟨hcz5_0, hcz5_1, hcz5_2⟩ := cz3 BK935.out; obtain ⟨hfz5_0, hfz5_1, hfz5_2⟩ := fz3 BK935.out; obtain ⟨hcz6_0, hcz6_1, hcz6_2⟩ := cz3 BK936.out; obtain ⟨hfz6_0, hfz6_1, hfz6_2⟩ := fz3 BK936.out))
  refine bodyPost_ret (results_cell_row rfl _ _ gb936 56 #[.int .i64 (wrap64 (-a0_0)), .int .i64 (wrap64 (-a0_1)), .int .i64 a0_2] (0, 0) _ rfl (qP BK936) Try.underlying56 rfl (by kernel_rfl)) rfl ?_
  exact ⟨qE, qL HB⟩
end Go.Proofs.Ytihajbjkjclmoaa.PBig
