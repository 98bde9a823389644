-- MINE
import Derived.Test.YtgclkbklhopaaaaSq
import Derived.Test.YtgclkbklhopaaaaPBigx3
import Derived.Test.YtgclkbklhopaaaaPBigx47
namespace Go.Proofs.Ytgclkbklhopaaaa.PBig
open Go.RowKit Go.Proofs.YtgclkbklhopaaaaW.PrintWords Go.Proofs.YtgclkbklhopaaaaW.PrintLast Go.Proofs.YtgclkbklhopaaaaW.PrintMore
attribute [local go_sem] max2_int min2_int max_two min_two max_three min_three max_four min_four   -- for this text's walks alone
set_option linter.unusedVariables false
set_option linter.unusedSimpArgs false

/-! ### spec_DrawBodySpeed: function 51 -/
def spec_DrawBodySpeed.f (k : Nat) (l0 : List Int) : Option (Int × Int × Int × Int × Int × Int × Int × Int × Int × Int × Int × Int) := (spec_l1Open.f l0).bind fun bt482 => ((spec_l11AnyBody.f k bt482.1 bt482.2).bind fun bt485 => (some (bt485.1, bt485.2.1, bt485.2.2.1, bt485.2.2.2.1, bt485.2.2.2.2.1, bt485.2.2.2.2.2.1, bt485.2.2.2.2.2.2.1, bt485.2.2.2.2.2.2.2.1, bt485.2.2.2.2.2.2.2.2.1, bt485.2.2.2.2.2.2.2.2.2.1, bt485.2.2.2.2.2.2.2.2.2.2.1, bt485.2.2.2.2.2.2.2.2.2.2.2.1)))
theorem spec_DrawBodySpeed.mono : ∀ a0 k, LeO (spec_DrawBodySpeed.f k a0) (spec_DrawBodySpeed.f (k + 1) a0) := by
  intro a0 k
  unfold spec_DrawBodySpeed.f
  repeat' first
      | (with_reducible exact spec_l11AnyBody.mono _ _ _)
      | (with_reducible exact LeO.refl _)
      | (with_reducible exact LeO.none _)
      | (with_reducible refine LeO.ite ?_ ?_)
      | (with_reducible refine LeO.bind ?_ (fun _ => ?_))
      | exact spec_l11AnyBody.mono _ _ _
      | exact LeO.none _
      | refine LeO.ite ?_ ?_
      | refine LeO.bind ?_ (fun _ => ?_)
set_option maxHeartbeats 8000000 in
set_option maxRecDepth 100000 in
theorem spec_DrawBodySpeed.calls (k : Nat) (A0 : Option Addr) (c0 : Nat) (l0 : List Int) (r1 : Int) (r2 : Int) (r3 : Int) (r4 : Int) (r5 : Int) (r6 : Int) (r7 : Int) (r8 : Int) (r9 : Int) (r10 : Int) (r11 : Int) (r12 : Int) (w : World) (hr0 : Kd.C (Kd.int .u8) w A0 l0.length l0) (hc0 : l0.length ≤ c0) (h : spec_DrawBodySpeed.f k l0 = some (r1, r2, r3, r4, r5, r6, r7, r8, r9, r10, r11, r12)) :
    Calls Try.prog 51 #[.slice A0 l0.length c0] w fun e w' => e = .returned (.agg #[.int .i64 r1, .int .i64 r2, .int .i64 r3, .int .i64 r4, .int .i64 r5, .int .i64 r6, .int .i64 r7, .int .i64 r8, .int .i64 r9, .int .i64 r10, .int .i64 r11, .int .i64 r12]) ∧ Below w.heap.size w w' := by
  have hu41 := Try.underlying41
  have HR0 := Aside0.mk hr0
  have HC0 := Aside0.mk hc0
  clear hr0 hc0
  have HB := Aside0.mk (Below.refl w.heap.size w)
  have H : ((spec_l1Open.f l0).bind fun bt482 => ((spec_l11AnyBody.f k bt482.1 bt482.2).bind fun bt485 => (some (bt485.1, bt485.2.1, bt485.2.2.1, bt485.2.2.2.1, bt485.2.2.2.2.1, bt485.2.2.2.2.2.1, bt485.2.2.2.2.2.2.1, bt485.2.2.2.2.2.2.2.1, bt485.2.2.2.2.2.2.2.2.1, bt485.2.2.2.2.2.2.2.2.2.1, bt485.2.2.2.2.2.2.2.2.2.2.1, bt485.2.2.2.2.2.2.2.2.2.2.2.1)))) = some (r1, r2, r3, r4, r5, r6, r7, r8, r9, r10, r11, r12) := h
  clear h
  replace H := qH H
  obtain ⟨⟨t482, t483⟩, A2, H⟩ := H
  try dsimp only at H
  replace H := qH H
  obtain ⟨⟨t485, t486, t487, t488, t489, t490, t491, t492, t493, t494, t495, t496, t497⟩, A3, H⟩ := H
  try dsimp only at H
  simp only [Option.some.injEq, Prod.mk.injEq] at H
  obtain ⟨rfl, rfl, rfl, rfl, rfl, rfl, rfl, rfl, rfl, rfl, rfl, rfl⟩ := H
  go_enter Try.func51, Try.ntmps51
  go_wp2_with (first | ((with_reducible refine gate_dst (N := 2) rfl ?_); refine bx (N := 2) (cs := #[.int .i64 0, .int .i64 0, .int .i64 0, .int .i64 0, .int .i64 0, .int .i64 0, .int .i64 0, .int .i64 0, .int .i64 0, .int .i64 0, .int .i64 0, .int .i64 0]) (t := 41) ?_; intro gb481 hg w4 hbox hb; have BK481 := Aside0.mk (hbox); have GW481 := Aside0.mk ((gE hg (qL HB) : w.heap.size ≤ gb481)); have GE481 := Aside0.mk ((gE hg (qL HB) : w.heap.size ≤ gb481)); replace HB := bS HB hb; clear hb hbox hg) | ((with_reducible refine gate_callee (f := 69) rfl ?_); refine gl (some 4) Try.func69 #[.slice A0 l0.length c0] ?_; (with_reducible refine (spec_l1Open.calls _ _ l0 t482 t483 w _ ?side1 ?side2 ?side3 A2.out).mono ?_); (case side1 => exact qL HB); (case side2 => exact HR0.out); (case side3 => exact HC0.out); rintro e w5 ⟨g484, rfl, hi, hb, hb2⟩; refine ⟨_, rfl, ?_⟩; have HI484 := Aside0.mk (hi); have NB484_481 := Aside0.mk (IsS98.ne_blk hi (blk_below (g := gb481) (o := .cells #[.int .i64 0, .int .i64 0, .int .i64 0, .int .i64 0, .int .i64 0, .int .i64 0, .int .i64 0, .int .i64 0, .int .i64 0, .int .i64 0, .int .i64 0, .int .i64 0] 41 (0, 0)) (qB BK481) hb2) (by decide)); have NB481_484 := Aside0.mk (Ne.symm (IsS98.ne_blk hi (blk_below (g := gb481) (o := .cells #[.int .i64 0, .int .i64 0, .int .i64 0, .int .i64 0, .int .i64 0, .int .i64 0, .int .i64 0, .int .i64 0, .int .i64 0, .int .i64 0, .int .i64 0, .int .i64 0] 41 (0, 0)) (qB BK481) hb2) (by decide))); replace BK481 := Aside0.mk (blk_below (g := gb481) (o := .cells #[.int .i64 0, .int .i64 0, .int .i64 0, .int .i64 0, .int .i64 0, .int .i64 0, .int .i64 0, .int .i64 0, .int .i64 0, .int .i64 0, .int .i64 0, .int .i64 0] 41 (0, 0)) (qB BK481) hb2); replace HB := Aside0.mk (hb); clear hb2 hb hi) | ((with_reducible refine gate_callee (f := 98) rfl ?_); refine gl (some 5) Try.func98 #[.pointer (some ⟨g484, 0, none⟩)] ?_; (with_reducible refine (spec_l11AnyBody.calls k g484 t482 t483 t485 t486 t487 t488 t489 t490 t491 t492 t493 t494 t495 t496 t497 w _ ?side1 ?side2 A3.out).mono ?_); (case side1 => exact qI HI484); (case side2 => exact qL HB); rintro e w6 ⟨rfl, hi, hb, hk⟩; refine ⟨_, rfl, ?_⟩; replace BK481 := kKB BK481 hk NB481_484; replace HB := Aside0.mk (hb); replace HI484 := Aside0.mk (hi); clear hb hk hi; have hnb7 := NB481_484.out; have hnc7 := NB484_481.out; obtain ⟨hcz8_0, hcz8_1, hcz8_2, hcz8_3, hcz8_4, hcz8_5, hcz8_6, hcz8_7, hcz8_8, hcz8_9, hcz8_10, hcz8_11⟩ := cz12 BK481.out; obtain ⟨hfz8_0, hfz8_1, hfz8_2, hfz8_3, hfz8_4, hfz8_5, hfz8_6, hfz8_7, hfz8_8, hfz8_9, hfz8_10, hfz8_11⟩ := fz12 BK481.out))
  refine bodyPost_ret (results_cell_row rfl _ _ gb481 41 #[.int .i64 t485, .int .i64 t486, .int .i64 t487, .int .i64 t488, .int .i64 t489, .int .i64 t490, .int .i64 t491, .int .i64 t492, .int .i64 t493, .int .i64 t494, .int .i64 t495, .int .i64 t496] (0, 0) _ rfl (qP BK481) Try.underlying41 rfl (by kernel_rfl)) rfl ?_
  exact ⟨qE, qL HB⟩

end Go.Proofs.Ytgclkbklhopaaaa.PBig
