/- What these functions compute, each walked once: spec_DrawBodyMove; for all arguments and worlds, under the conditions that each theorem names. -/
import Derived.Test.YtihajbjkjclmoaaSq
import Derived.Test.YtihajbjkjclmoaaPBigx901
import Derived.Test.YtihajbjkjclmoaaPBigx918
namespace Go.Proofs.Ytihajbjkjclmoaa.PBig
open Go.RowKit Go.Proofs.YtihajbjkjclmoaaW.PrintWords Go.Proofs.YtihajbjkjclmoaaW.PrintLast Go.Proofs.YtihajbjkjclmoaaW.PrintMore
attribute [local go_sem] max2_int min2_int max_two min_two max_three min_three max_four min_four   -- for this text's walks alone
set_option linter.unusedVariables false
set_option linter.unusedSimpArgs false

/-! ### spec_DrawBodyMove: function 30 -/
def spec_DrawBodyMove.f (k : Nat) (l0 : List Int) : Option (Int × Int × Int × Int × Int × Int × Int × Int × Int × Int × Int × Int) := (spec_l1Open.f l0).bind fun bt788 => ((spec_l11AnyBody.f k bt788.1 bt788.2).bind fun bt791 => (some (bt791.1, bt791.2.1, bt791.2.2.1, bt791.2.2.2.1, bt791.2.2.2.2.1, bt791.2.2.2.2.2.1, bt791.2.2.2.2.2.2.1, bt791.2.2.2.2.2.2.2.1, bt791.2.2.2.2.2.2.2.2.1, bt791.2.2.2.2.2.2.2.2.2.1, bt791.2.2.2.2.2.2.2.2.2.2.1, bt791.2.2.2.2.2.2.2.2.2.2.2.1)))
theorem spec_DrawBodyMove.mono : ∀ a0 k, LeO (spec_DrawBodyMove.f k a0) (spec_DrawBodyMove.f (k + 1) a0) := by
  intro a0 k
  unfold spec_DrawBodyMove.f
  repeat' first
      | (with_reducible exact spec_l11AnyBody.mono _ _ _)
      | (with_reducible exact LeO.refl _)
      | (with_reducible exact LeO.none _)
      | (with_reducible refine LeO.ite ?_ ?_)
      | (with_reducible refine LeO.bind ?_ (fun _ => ?_))
set_option maxHeartbeats 8000000 in
set_option maxRecDepth 100000 in
theorem spec_DrawBodyMove.calls (k : Nat) (A0 : Option Addr) (c0 : Nat) (l0 : List Int) (r1 : Int) (r2 : Int) (r3 : Int) (r4 : Int) (r5 : Int) (r6 : Int) (r7 : Int) (r8 : Int) (r9 : Int) (r10 : Int) (r11 : Int) (r12 : Int) (w : World) (hr0 : Kd.C (Kd.int .u8) w A0 l0.length l0) (hc0 : l0.length ≤ c0) (h : spec_DrawBodyMove.f k l0 = some (r1, r2, r3, r4, r5, r6, r7, r8, r9, r10, r11, r12)) :
    Calls Try.prog 30 #[.slice A0 l0.length c0] w fun e w' => e = .returned (.agg #[.int .i64 r1, .int .i64 r2, .int .i64 r3, .int .i64 r4, .int .i64 r5, .int .i64 r6, .int .i64 r7, .int .i64 r8, .int .i64 r9, .int .i64 r10, .int .i64 r11, .int .i64 r12]) ∧ Below w.heap.size w w' := by
  have hu40 := Try.underlying40
  have HR0 := az hr0
  have HC0 := az hc0
  clear hr0 hc0
  have HB := az (Below.refl w.heap.size w)
  have H : ((spec_l1Open.f l0).bind fun bt788 => ((spec_l11AnyBody.f k bt788.1 bt788.2).bind fun bt791 => (some (bt791.1, bt791.2.1, bt791.2.2.1, bt791.2.2.2.1, bt791.2.2.2.2.1, bt791.2.2.2.2.2.1, bt791.2.2.2.2.2.2.1, bt791.2.2.2.2.2.2.2.1, bt791.2.2.2.2.2.2.2.2.1, bt791.2.2.2.2.2.2.2.2.2.1, bt791.2.2.2.2.2.2.2.2.2.2.1, bt791.2.2.2.2.2.2.2.2.2.2.2.1)))) = some (r1, r2, r3, r4, r5, r6, r7, r8, r9, r10, r11, r12) := h
  clear h
  replace H := qH H
  obtain ⟨⟨t788, t789⟩, A2, H⟩ := H
  try dsimp only at H
  replace H := qH H
  obtain ⟨⟨t791, t792, t793, t794, t795, t796, t797, t798, t799, t800, t801, t802, t803⟩, A3, H⟩ := H
  try dsimp only at H
  simp only [Option.some.injEq, Prod.mk.injEq] at H
  obtain ⟨rfl, rfl, rfl, rfl, rfl, rfl, rfl, rfl, rfl, rfl, rfl, rfl⟩ := H
  go_enter Try.func30, Try.ntmps30
  go_wp2_with (first | ((with_reducible refine gate_dst (N := 2) rfl ?_); refine bx (N := 2) (cs := #[.int .i64 0, .int .i64 0, .int .i64 0, .int .i64 0, .int .i64 0, .int .i64 0, .int .i64 0, .int .i64 0, .int .i64 0, .int .i64 0, .int .i64 0, .int .i64 0]) (t := 40) ?_; intro gb787 hg w4 hbox hb; have BK787 := az hbox; have GW787 := az ((gE hg (qL HB) : w.heap.size ≤ gb787)); have GE787 := GW787; replace HB := bS HB hb; clear hb hbox hg) | ((with_reducible refine gate_callee (f := 59) rfl ?_); refine gl (some 4) Try.func59 #[.slice A0 l0.length c0] ?_; (with_reducible refine (spec_l1Open.calls _ _ l0 t788 t789 w _ ?side1 ?side2 ?side3 A2.out).mono ?_); (case side1 => exact qL HB); (case side2 => exact HR0.out); (case side3 => exact HC0.out); rintro e w5 ⟨g790, rfl, hi, hb, hb2⟩; refine ⟨_, rfl, ?_⟩; have HI790 := az hi; have NB790_787 := az (IsS95.ne_blk hi (blk_below (g := gb787) (o := .cells #[.int .i64 0, .int .i64 0, .int .i64 0, .int .i64 0, .int .i64 0, .int .i64 0, .int .i64 0, .int .i64 0, .int .i64 0, .int .i64 0, .int .i64 0, .int .i64 0] 40 (0, 0)) (qB BK787) hb2) (by decide)); have NB787_790 := az (Ne.symm (IsS95.ne_blk hi (blk_below (g := gb787) (o := .cells #[.int .i64 0, .int .i64 0, .int .i64 0, .int .i64 0, .int .i64 0, .int .i64 0, .int .i64 0, .int .i64 0, .int .i64 0, .int .i64 0, .int .i64 0, .int .i64 0] 40 (0, 0)) (qB BK787) hb2) (by decide))); replace BK787 := az (blk_below (g := gb787) (o := .cells #[.int .i64 0, .int .i64 0, .int .i64 0, .int .i64 0, .int .i64 0, .int .i64 0, .int .i64 0, .int .i64 0, .int .i64 0, .int .i64 0, .int .i64 0, .int .i64 0] 40 (0, 0)) (qB BK787) hb2); replace HB := az hb; clear hb2 hb hi) | ((with_reducible refine gate_callee (f := 60) rfl ?_); refine gl (some 5) Try.func60 #[.pointer (some ⟨g790, 0, none⟩)] ?_; (with_reducible refine (spec_l11AnyBody.calls k g790 t788 t789 t791 t792 t793 t794 t795 t796 t797 t798 t799 t800 t801 t802 t803 w _ ?side1 ?side2 A3.out).mono ?_); (case side1 => exact qI HI790); (case side2 => exact qL HB); rintro e w6 ⟨rfl, hi, hb, hk⟩; refine ⟨_, rfl, ?_⟩; replace BK787 := kKB BK787 hk NB787_790; replace HB := az hb; replace HI790 := az hi; clear hb hk hi; have hnb7 := NB787_790.out; have hnc7 := NB790_787.out; obtain ⟨hcz8_0, hcz8_1, hcz8_2, hcz8_3, hcz8_4, hcz8_5, hcz8_6, hcz8_7, hcz8_8, hcz8_9, hcz8_10, hcz8_11⟩ := cz12 BK787.out; obtain ⟨hfz8_0, hfz8_1, hfz8_2, hfz8_3, hfz8_4, hfz8_5, hfz8_6, hfz8_7, hfz8_8, hfz8_9, hfz8_10, hfz8_11⟩ := fz12 BK787.out))
  refine bodyPost_ret (results_cell_row rfl _ _ gb787 40 #[.int .i64 t791, .int .i64 t792, .int .i64 t793, .int .i64 t794, .int .i64 t795, .int .i64 t796, .int .i64 t797, .int .i64 t798, .int .i64 t799, .int .i64 t800, .int .i64 t801, .int .i64 t802] (0, 0) _ rfl (qP BK787) Try.underlying40 rfl (by kernel_rfl)) rfl ?_
  exact ⟨qE, qL HB⟩
end Go.Proofs.Ytihajbjkjclmoaa.PBig
