-- MINE
import Derived.Test.YtgclkbklhopaaaaSq
import Derived.Test.YtgclkbklhopaaaaPBigx3
import Derived.Test.YtgclkbklhopaaaaPBigx4
namespace Go.Proofs.Ytgclkbklhopaaaa.PBig
open Go.RowKit Go.Proofs.YtgclkbklhopaaaaW.PrintWords Go.Proofs.YtgclkbklhopaaaaW.PrintLast Go.Proofs.YtgclkbklhopaaaaW.PrintMore
attribute [local go_sem] max2_int min2_int max_two min_two max_three min_three max_four min_four   -- for this text's walks alone
set_option linter.unusedVariables false
set_option linter.unusedSimpArgs false

/-! ### spec_l11Place: function 73 -/
def spec_l11Place.f (k : Nat) (s0_0 : List Int) (s0_1 : Int) : Option (Int × Int × Int) := (spec_l1Rd_pick.f k s0_0 s0_1 256).bind fun bt111 => ((spec_l1Rd_pick.f k s0_0 bt111.2 256).bind fun bt113 => (some (wrap64 ((wrap64 (bt111.1 * 8)) - 1024), wrap64 ((wrap64 (bt113.1 * 8)) - 1024), bt113.2)))
theorem spec_l11Place.mono : ∀ a0 a1 k, LeO (spec_l11Place.f k a0 a1) (spec_l11Place.f (k + 1) a0 a1) := by
  intro a0 a1 k
  unfold spec_l11Place.f
  repeat' first
      | (with_reducible exact spec_l1Rd_pick.mono _ _ _ _)
      | (with_reducible exact LeO.refl _)
      | (with_reducible exact LeO.none _)
      | (with_reducible refine LeO.ite ?_ ?_)
      | (with_reducible refine LeO.bind ?_ (fun _ => ?_))
      | exact spec_l1Rd_pick.mono _ _ _ _
      | exact LeO.none _
      | refine LeO.ite ?_ ?_
      | refine LeO.bind ?_ (fun _ => ?_)
set_option maxHeartbeats 8000000 in
set_option maxRecDepth 100000 in
theorem spec_l11Place.calls (k : Nat) (g : Nat) (s0_0 : List Int) (s0_1 : Int) (r1 : Int) (r2 : Int) (r3 : Int) (w0 w : World) (hI : IsS98 w0 w g s0_0 s0_1) (hB : Below w0.heap.size w0 w) (h : spec_l11Place.f k s0_0 s0_1 = some (r1, r2, r3)) :
    Calls Try.prog 73 #[.pointer (some ⟨g, 0, none⟩)] w fun e w' => e = .returned (.agg #[.int .i64 r1, .int .i64 r2]) ∧ IsS98 w0 w' g s0_0 r3 ∧ Below w0.heap.size w0 w' ∧ KeepBut w w' g none := by
  have hu24 := Try.underlying24
  have HI0 := Aside0.mk hI
  have HK := Aside0.mk (KeepBut.refl w g none)
  have HL := Aside0.mk hB.size
  clear hI
  have HW0 := Aside0.mk hB.size
  have HB := Aside0.mk hB
  clear hB
  have H : ((spec_l1Rd_pick.f k s0_0 s0_1 256).bind fun bt111 => ((spec_l1Rd_pick.f k s0_0 bt111.2 256).bind fun bt113 => (some (wrap64 ((wrap64 (bt111.1 * 8)) - 1024), wrap64 ((wrap64 (bt113.1 * 8)) - 1024), bt113.2)))) = some (r1, r2, r3) := h
  clear h
  replace H := qH H
  obtain ⟨⟨t111, t112⟩, A2, H⟩ := H
  try dsimp only at H
  replace H := qH H
  obtain ⟨⟨t113, t114⟩, A3, H⟩ := H
  try dsimp only at H
  simp only [Option.some.injEq, Prod.mk.injEq] at H
  obtain ⟨rfl, rfl, rfl⟩ := H
  go_enter Try.func73, Try.ntmps73
  go_wp2_with (first | ((with_reducible refine gate_dst (N := 2) rfl ?_); refine bx (N := 2) (cs := #[.int .i64 0, .int .i64 0]) (t := 24) ?_; intro gb110 hg w4 hbox hb; have BK110 := Aside0.mk (hbox); have GW110 := Aside0.mk ((gK hg (qK HK) : w.heap.size ≤ gb110)); have GE110 := Aside0.mk ((Nat.le_trans HW0.out (gK hg (qK HK) : w.heap.size ≤ gb110) : w0.heap.size ≤ gb110)); have NB0_110 := Aside0.mk ((by rw [hg]; exact Nat.ne_of_lt (IsS98.lt (show IsS98 w0 _ g s0_0 s0_1 from qI HI0)) : g ≠ gb110)); have NB110_0 := Aside0.mk ((by rw [hg]; exact Nat.ne_of_gt (IsS98.lt (show IsS98 w0 _ g s0_0 s0_1 from qI HI0)) : gb110 ≠ g)); replace HI0 := Aside0.mk (IsS98.below (qI HI0) hb); replace HK := Aside0.mk (KeepBut.trans (qK HK) (KeepBut.of_below hb g none) (.inl rfl)); replace HB := bS HB hb; clear hb hbox hg) | ((with_reducible refine gate_callee (f := 71) rfl ?_); refine gl (some 4) Try.func71 #[.pointer (some ⟨g, 0, none⟩), .int .i64 256] ?_; (with_reducible refine (spec_l1Rd_pick.calls k g s0_0 s0_1 256 t111 t112 w0 _ ?side1 ?side2 A2.out).mono ?_); (case side1 => exact qI HI0); (case side2 => exact qL HB); rintro e w5 ⟨rfl, hi, hb, hk⟩; refine ⟨_, rfl, ?_⟩; replace BK110 := kKB BK110 hk NB110_0; replace HK := Aside0.mk (KeepBut.trans (qK HK) hk (.inl rfl)); replace HB := Aside0.mk (hb); replace HI0 := Aside0.mk (hi); clear hb hk hi) | ((with_reducible refine gate_callee (f := 71) rfl ?_); refine gl (some 8) Try.func71 #[.pointer (some ⟨g, 0, none⟩), .int .i64 256] ?_; (with_reducible refine (spec_l1Rd_pick.calls k g s0_0 t112 256 t113 t114 w0 _ ?side1 ?side2 A3.out).mono ?_); (case side1 => exact qI HI0); (case side2 => exact qL HB); rintro e w6 ⟨rfl, hi, hb, hk⟩; refine ⟨_, rfl, ?_⟩; replace BK110 := kKB BK110 hk NB110_0; replace HK := Aside0.mk (KeepBut.trans (qK HK) hk (.inl rfl)); replace HB := Aside0.mk (hb); replace HI0 := Aside0.mk (hi); clear hb hk hi; have hnb7 := NB110_0.out; have hnc7 := NB0_110.out; obtain ⟨hcz8_0, hcz8_1⟩ := cz2 BK110.out; have hfz8_0 := blk_frozen BK110.out 0; have hfz8_1 := blk_frozen BK110.out 1))
  refine bodyPost_ret (results_cell_row rfl _ _ gb110 24 #[.int .i64 (wrap64 ((wrap64 (t111 * 8)) - 1024)), .int .i64 (wrap64 ((wrap64 (t113 * 8)) - 1024))] (0, 0) _ rfl (qP BK110) Try.underlying24 rfl (by kernel_rfl)) rfl ?_
  exact ⟨qE, qI HI0, qL HB, qK HK⟩

end Go.Proofs.Ytgclkbklhopaaaa.PBig
