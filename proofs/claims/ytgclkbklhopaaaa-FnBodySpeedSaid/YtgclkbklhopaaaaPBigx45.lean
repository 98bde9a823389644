-- MINE
import Derived.Test.YtgclkbklhopaaaaSq
import Derived.Test.YtgclkbklhopaaaaPBigx3
import Derived.Test.YtgclkbklhopaaaaPBigx4
import Derived.Test.YtgclkbklhopaaaaPBigx5
namespace Go.Proofs.Ytgclkbklhopaaaa.PBig
open Go.RowKit Go.Proofs.YtgclkbklhopaaaaW.PrintWords Go.Proofs.YtgclkbklhopaaaaW.PrintLast Go.Proofs.YtgclkbklhopaaaaW.PrintMore
attribute [local go_sem] max2_int min2_int max_two min_two max_three min_three max_four min_four   -- for this text's walks alone
set_option linter.unusedVariables false
set_option linter.unusedSimpArgs false

/-! ### spec_l11Drive: function 105 -/
def spec_l11Drive.f (k : Nat) (s0_0 : List Int) (s0_1 : Int) (a1 : Int) : Option (Int × Int × Int) := (spec_l1Rd_one.f k s0_0 s0_1 (([0, 1, 4, 20] : List Int))).bind fun bt388 => ((spec_l1Rd_pick.f k s0_0 bt388.2 65).bind fun bt390 => ((spec_l1Rd_pick.f k s0_0 bt390.2 65).bind fun bt392 => (some (wrap64 ((wrap64 (bt390.1 - 32)) * (wrap64 (bt388.1 * a1))), wrap64 ((wrap64 (bt392.1 - 32)) * (wrap64 (bt388.1 * a1))), bt392.2))))
theorem spec_l11Drive.mono : ∀ a0 a1 a2 k, LeO (spec_l11Drive.f k a0 a1 a2) (spec_l11Drive.f (k + 1) a0 a1 a2) := by
  intro a0 a1 a2 k
  unfold spec_l11Drive.f
  repeat' first
      | (with_reducible exact spec_l1Rd_one.mono _ _ _ _)
      | (with_reducible exact spec_l1Rd_pick.mono _ _ _ _)
      | (with_reducible exact LeO.refl _)
      | (with_reducible exact LeO.none _)
      | (with_reducible refine LeO.ite ?_ ?_)
      | (with_reducible refine LeO.bind ?_ (fun _ => ?_))
      | exact spec_l1Rd_one.mono _ _ _ _
      | exact spec_l1Rd_pick.mono _ _ _ _
      | exact LeO.none _
      | refine LeO.ite ?_ ?_
      | refine LeO.bind ?_ (fun _ => ?_)
set_option maxHeartbeats 8000000 in
set_option maxRecDepth 100000 in
theorem spec_l11Drive.calls (k : Nat) (g : Nat) (s0_0 : List Int) (s0_1 : Int) (a1 : Int) (r1 : Int) (r2 : Int) (r3 : Int) (w0 w : World) (hI : IsS98 w0 w g s0_0 s0_1) (hB : Below w0.heap.size w0 w) (h : spec_l11Drive.f k s0_0 s0_1 a1 = some (r1, r2, r3)) :
    Calls Try.prog 105 #[.pointer (some ⟨g, 0, none⟩), .int .i64 a1] w fun e w' => e = .returned (.agg #[.int .i64 r1, .int .i64 r2]) ∧ IsS98 w0 w' g s0_0 r3 ∧ Below w0.heap.size w0 w' ∧ KeepBut w w' g none := by
  have hu24 := Try.underlying24
  have HI0 := Aside0.mk hI
  have HK := Aside0.mk (KeepBut.refl w g none)
  have HL := Aside0.mk hB.size
  clear hI
  have HW0 := Aside0.mk hB.size
  have HB := Aside0.mk hB
  clear hB
  have H : ((spec_l1Rd_one.f k s0_0 s0_1 (([0, 1, 4, 20] : List Int))).bind fun bt388 => ((spec_l1Rd_pick.f k s0_0 bt388.2 65).bind fun bt390 => ((spec_l1Rd_pick.f k s0_0 bt390.2 65).bind fun bt392 => (some (wrap64 ((wrap64 (bt390.1 - 32)) * (wrap64 (bt388.1 * a1))), wrap64 ((wrap64 (bt392.1 - 32)) * (wrap64 (bt388.1 * a1))), bt392.2))))) = some (r1, r2, r3) := h
  clear h
  obtain ⟨y385, hy385⟩ : ∃ y_ : List Int, y_ = (([0, 1, 4, 20] : List Int)) := ⟨_, rfl⟩
  replace H : ((spec_l1Rd_one.f k s0_0 s0_1 y385).bind fun bt388 => ((spec_l1Rd_pick.f k s0_0 bt388.2 65).bind fun bt390 => ((spec_l1Rd_pick.f k s0_0 bt390.2 65).bind fun bt392 => (some (wrap64 ((wrap64 (bt390.1 - 32)) * (wrap64 (bt388.1 * a1))), wrap64 ((wrap64 (bt392.1 - 32)) * (wrap64 (bt388.1 * a1))), bt392.2))))) = some (r1, r2, r3) := by first | (rw [hy385]; with_reducible exact H) | (have H2_ := (Option.bind_some _ _).symm.trans H; rw [hy385]; with_reducible exact H2_) | (have H2_ := (Option.bind_some _ _).symm.trans H; with_reducible exact H2_) | with_reducible exact H | (rw [hy385]; exact H) | exact H
  have Ny385 := Aside0.mk hy385
  clear hy385
  replace H := qH H
  obtain ⟨⟨t388, t389⟩, A3, H⟩ := H
  try dsimp only at H
  replace H := qH H
  obtain ⟨⟨t390, t391⟩, A4, H⟩ := H
  try dsimp only at H
  replace H := qH H
  obtain ⟨⟨t392, t393⟩, A5, H⟩ := H
  try dsimp only at H
  simp only [Option.some.injEq, Prod.mk.injEq] at H
  obtain ⟨rfl, rfl, rfl⟩ := H
  go_enter Try.func105, Try.ntmps105
  go_wp2_with (first | ((with_reducible refine gate_dst (N := 4) rfl ?_); refine bx (N := 4) (cs := #[.int .i64 0, .int .i64 0]) (t := 24) ?_; intro gb384 hg w6 hbox hb; have BK384 := Aside0.mk (hbox); have GW384 := Aside0.mk ((gK hg (qK HK) : w.heap.size ≤ gb384)); have GE384 := Aside0.mk ((Nat.le_trans HW0.out (gK hg (qK HK) : w.heap.size ≤ gb384) : w0.heap.size ≤ gb384)); have NB0_384 := Aside0.mk ((by rw [hg]; exact Nat.ne_of_lt (IsS98.lt (show IsS98 w0 _ g s0_0 s0_1 from qI HI0)) : g ≠ gb384)); have NB384_0 := Aside0.mk ((by rw [hg]; exact Nat.ne_of_gt (IsS98.lt (show IsS98 w0 _ g s0_0 s0_1 from qI HI0)) : gb384 ≠ g)); replace HI0 := Aside0.mk (IsS98.below (qI HI0) hb); replace HK := Aside0.mk (KeepBut.trans (qK HK) (KeepBut.of_below hb g none) (.inl rfl)); replace HB := bS HB hb; clear hb hbox hg) | ((with_reducible refine gate_dst (N := 7) rfl ?_); refine Kd.R_lit (Kd.int .i64) _ 3 ?hg (N := 7) ?hd (xs := ([0, 1, 4, 20] : List Int)) (inner := [.int .i64 0, .int .i64 1, .int .i64 4, .int .i64 20]) (ok := fun _ => True) (okp := fun _ => True) ?hr ?hp (fun _ hk => hk) trivial (Below.refl _ _) (Nat.le_refl _) (by simp) ?_; (case hd => rfl); (case hg => rfl); (case hr => first | (go_simp; done) | (go_simp; rfl)); (case hp => exact (Reps.one (show Kd.M (Kd.int .i64) _ _ _ 0 [.int .i64 0] from rfl) (Reps.one (show Kd.M (Kd.int .i64) _ _ _ 1 [.int .i64 1] from rfl) (Reps.one (show Kd.M (Kd.int .i64) _ _ _ 4 [.int .i64 4] from rfl) (Reps.one (show Kd.M (Kd.int .i64) _ _ _ 20 [.int .i64 20] from rfl) (Reps.none _ _)))))); intro v386 w7 ho8 hb hg_ hnew_; clear hg_ hnew_; (first | rw [← Ny385.out] at ho8 | (simp only [Int.reduceToNat] at ho8; rw [← Ny385.out] at ho8)); have HO387 := Aside0.mk (Kd.R_lower ho8 (keep_size (w := w) (g := g) (row := none) (qK HK))); replace HI0 := Aside0.mk (IsS98.below (qI HI0) hb); replace BK384 := kBB BK384 hb; replace HK := Aside0.mk (KeepBut.trans (qK HK) (KeepBut.of_below hb g none) (.inl rfl)); replace HB := bS HB hb; clear hb ho8; obtain ⟨Ao9, co9, eo9⟩ := Kd.R_slice HO387.out; subst eo9) | ((with_reducible refine gate_callee (f := 90) rfl ?_); refine gl (some 8) Try.func90 #[.pointer (some ⟨g, 0, none⟩), .slice Ao9 y385.length co9] ?_; (with_reducible refine (spec_l1Rd_one.calls k g s0_0 s0_1 _ _ y385 t388 t389 w0 _ ?side1 ?side2 ?side3 ?side4 ?side5 A3.out).mono ?_); (case side1 => exact qI HI0); (case side2 => exact qL HB); (case side3 => repeat (first | exact (Kd.R_reads' HO387.out).2.2 | (with_reducible refine Kd.C_alloc ?_ _) | (with_reducible refine Kd.C_drewN ?_ _) | (with_reducible refine Kd.C_drew ?_))); (case side4 => exact (Kd.R_reads' HO387.out).2.1); (case side5 => exact far_slice (IsS98.own_ne HI0.out HO387.out (by decide))); rintro e w10 ⟨rfl, hi, hb, hk⟩; refine ⟨_, rfl, ?_⟩; replace BK384 := kKB BK384 hk NB384_0; replace HO387 := Aside0.mk (Kd.R_mono (Kd.R_keep (IsS98.apart (show IsS98 w0 _ g s0_0 s0_1 from qI HI0) (by (with_reducible repeat (first | apply Kd.R_alloc | apply Kd.R_drewN | apply Kd.R_drew)); exact HO387.out) (by decide)) hk (fun _ h => h.2)) (fun _ h => h.1)); replace HK := Aside0.mk (KeepBut.trans (qK HK) hk (.inl rfl)); replace HB := Aside0.mk (hb); replace HI0 := Aside0.mk (hi); clear hb hk hi) | ((with_reducible refine gate_callee (f := 71) rfl ?_); refine gl (some 12) Try.func71 #[.pointer (some ⟨g, 0, none⟩), .int .i64 65] ?_; (with_reducible refine (spec_l1Rd_pick.calls k g s0_0 t389 65 t390 t391 w0 _ ?side1 ?side2 A4.out).mono ?_); (case side1 => exact qI HI0); (case side2 => exact qL HB); rintro e w11 ⟨rfl, hi, hb, hk⟩; refine ⟨_, rfl, ?_⟩; replace BK384 := kKB BK384 hk NB384_0; replace HO387 := Aside0.mk (Kd.R_mono (Kd.R_keep (IsS98.apart (show IsS98 w0 _ g s0_0 t389 from qI HI0) (by (with_reducible repeat (first | apply Kd.R_alloc | apply Kd.R_drewN | apply Kd.R_drew)); exact HO387.out) (by decide)) hk (fun _ h => h.2)) (fun _ h => h.1)); replace HK := Aside0.mk (KeepBut.trans (qK HK) hk (.inl rfl)); replace HB := Aside0.mk (hb); replace HI0 := Aside0.mk (hi); clear hb hk hi) | ((with_reducible refine gate_callee (f := 71) rfl ?_); refine gl (some 17) Try.func71 #[.pointer (some ⟨g, 0, none⟩), .int .i64 65] ?_; (with_reducible refine (spec_l1Rd_pick.calls k g s0_0 t391 65 t392 t393 w0 _ ?side1 ?side2 A5.out).mono ?_); (case side1 => exact qI HI0); (case side2 => exact qL HB); rintro e w12 ⟨rfl, hi, hb, hk⟩; refine ⟨_, rfl, ?_⟩; replace BK384 := kKB BK384 hk NB384_0; replace HO387 := Aside0.mk (Kd.R_mono (Kd.R_keep (IsS98.apart (show IsS98 w0 _ g s0_0 t391 from qI HI0) (by (with_reducible repeat (first | apply Kd.R_alloc | apply Kd.R_drewN | apply Kd.R_drew)); exact HO387.out) (by decide)) hk (fun _ h => h.2)) (fun _ h => h.1)); replace HK := Aside0.mk (KeepBut.trans (qK HK) hk (.inl rfl)); replace HB := Aside0.mk (hb); replace HI0 := Aside0.mk (hi); clear hb hk hi; have hnb13 := NB384_0.out; have hnc13 := NB0_384.out; obtain ⟨hcz14_0, hcz14_1⟩ := cz2 BK384.out; have hfz14_0 := blk_frozen BK384.out 0; have hfz14_1 := blk_frozen BK384.out 1))
  refine bodyPost_ret (results_cell_row rfl _ _ gb384 24 #[.int .i64 (wrap64 ((wrap64 (t390 - 32)) * (wrap64 (t388 * a1)))), .int .i64 (wrap64 ((wrap64 (t392 - 32)) * (wrap64 (t388 * a1))))] (0, 0) _ rfl (qP BK384) Try.underlying24 rfl (by kernel_rfl)) rfl ?_
  exact ⟨qE, qI HI0, qL HB, qK HK⟩

end Go.Proofs.Ytgclkbklhopaaaa.PBig
