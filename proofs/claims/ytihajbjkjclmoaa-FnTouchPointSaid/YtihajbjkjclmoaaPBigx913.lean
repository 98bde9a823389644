/- What these functions compute, each walked once: spec_l6Move, spec_l6Speed, spec_BodyMove, spec_l2Square, spec_FixClamp; for all arguments and worlds, under the conditions that each theorem names. -/
import Derived.Test.YtihajbjkjclmoaaSq
import Derived.Test.YtihajbjkjclmoaaPBigx909
namespace Go.Proofs.Ytihajbjkjclmoaa.PBig
open Go.RowKit Go.Proofs.YtihajbjkjclmoaaW.PrintWords Go.Proofs.YtihajbjkjclmoaaW.PrintLast Go.Proofs.YtihajbjkjclmoaaW.PrintMore
attribute [local go_sem] max2_int min2_int max_two min_two max_three min_three max_four min_four   -- for this text's walks alone
set_option linter.unusedVariables false
set_option linter.unusedSimpArgs false

/-! ### spec_l6Move: function 55 -/
def spec_l6Move.f (a0_0 : Int) (a0_1 : Int) (a0_2 : Int) (a0_3 : Int) (a0_4 : Int) (a0_5 : Int) (a0_6 : Int) (a0_7 : Int) (a0_8 : Int) (a0_9 : Int) (a0_10 : Int) (a0_11 : Int) (a1_0 : Int) (a1_1 : Int) : Option (Int × Int × Int × Int × Int × Int × Int × Int × Int × Int × Int × Int) := (spec_l6Within.f (wrap64 (a0_4 + a1_0)) 2560000).bind fun t435 => ((spec_l6Within.f (wrap64 (a0_5 + a1_1)) 2560000).bind fun t436 => (if t435 = (wrap64 (a0_4 + a1_0)) then (if t436 = (wrap64 (a0_5 + a1_1)) then (some (a0_0, a0_1, a0_2, a0_3, t435, t436, a0_6, a0_7, a0_8, a0_9, a0_10, a0_11)) else (some (a0_0, a0_1, a0_2, a0_3, t435, t436, a0_6, 0, a0_8, a0_9, a0_10, a0_11))) else (if t436 = (wrap64 (a0_5 + a1_1)) then (some (a0_0, a0_1, a0_2, a0_3, t435, t436, 0, a0_7, a0_8, a0_9, a0_10, a0_11)) else (some (a0_0, a0_1, a0_2, a0_3, t435, t436, 0, 0, a0_8, a0_9, a0_10, a0_11)))))
set_option maxHeartbeats 8000000 in
set_option maxRecDepth 100000 in
theorem spec_l6Move.calls (a0_0 : Int) (a0_1 : Int) (a0_2 : Int) (a0_3 : Int) (a0_4 : Int) (a0_5 : Int) (a0_6 : Int) (a0_7 : Int) (a0_8 : Int) (a0_9 : Int) (a0_10 : Int) (a0_11 : Int) (a1_0 : Int) (a1_1 : Int) (r1 : Int) (r2 : Int) (r3 : Int) (r4 : Int) (r5 : Int) (r6 : Int) (r7 : Int) (r8 : Int) (r9 : Int) (r10 : Int) (r11 : Int) (r12 : Int) (w : World) (h : spec_l6Move.f a0_0 a0_1 a0_2 a0_3 a0_4 a0_5 a0_6 a0_7 a0_8 a0_9 a0_10 a0_11 a1_0 a1_1 = some (r1, r2, r3, r4, r5, r6, r7, r8, r9, r10, r11, r12)) :
    Calls Try.prog 55 #[.agg #[.int .i64 a0_0, .int .i64 a0_1, .int .i64 a0_2, .int .i64 a0_3, .int .i64 a0_4, .int .i64 a0_5, .int .i64 a0_6, .int .i64 a0_7, .int .i64 a0_8, .int .i64 a0_9, .int .i64 a0_10, .int .i64 a0_11], .agg #[.int .i64 a1_0, .int .i64 a1_1]] w fun e w' => e = .returned (.agg #[.int .i64 r1, .int .i64 r2, .int .i64 r3, .int .i64 r4, .int .i64 r5, .int .i64 r6, .int .i64 r7, .int .i64 r8, .int .i64 r9, .int .i64 r10, .int .i64 r11, .int .i64 r12]) ∧ Below w.heap.size w w' := by
  have hu40 := Try.underlying40
  have hu24 := Try.underlying24
  have HB := az (Below.refl w.heap.size w)
  have H : ((spec_l6Within.f (wrap64 (a0_4 + a1_0)) 2560000).bind fun t435 => ((spec_l6Within.f (wrap64 (a0_5 + a1_1)) 2560000).bind fun t436 => (if t435 = (wrap64 (a0_4 + a1_0)) then (if t436 = (wrap64 (a0_5 + a1_1)) then (some (a0_0, a0_1, a0_2, a0_3, t435, t436, a0_6, a0_7, a0_8, a0_9, a0_10, a0_11)) else (some (a0_0, a0_1, a0_2, a0_3, t435, t436, a0_6, 0, a0_8, a0_9, a0_10, a0_11))) else (if t436 = (wrap64 (a0_5 + a1_1)) then (some (a0_0, a0_1, a0_2, a0_3, t435, t436, 0, a0_7, a0_8, a0_9, a0_10, a0_11)) else (some (a0_0, a0_1, a0_2, a0_3, t435, t436, 0, 0, a0_8, a0_9, a0_10, a0_11)))))) = some (r1, r2, r3, r4, r5, r6, r7, r8, r9, r10, r11, r12) := h
  clear h
  replace H := qH H
  obtain ⟨t435, A3, H⟩ := H
  try dsimp only at H
  replace H := qH H
  obtain ⟨t436, A4, H⟩ := H
  try dsimp only at H
  by_cases c5 : t435 = (wrap64 (a0_4 + a1_0))
  · rw [if_pos c5] at H
    subst c5
    have c5b1 : ((wrap64 (a0_4 + a1_0)) != (wrap64 (a0_4 + a1_0))) = false := by simp
    by_cases c6 : t436 = (wrap64 (a0_5 + a1_1))
    · rw [if_pos c6] at H
      subst c6
      have c6b1 : ((wrap64 (a0_5 + a1_1)) != (wrap64 (a0_5 + a1_1))) = false := by simp
      simp only [Option.some.injEq, Prod.mk.injEq] at H
      obtain ⟨rfl, rfl, rfl, rfl, rfl, rfl, rfl, rfl, rfl, rfl, rfl, rfl⟩ := H
      go_enter Try.func55, Try.ntmps55
      go_wp2_with (first | ((with_reducible refine gate_dst (N := 2) rfl ?_); refine bx (N := 2) (cs := #[.int .i64 a0_0, .int .i64 a0_1, .int .i64 a0_2, .int .i64 a0_3, .int .i64 a0_4, .int .i64 a0_5, .int .i64 a0_6, .int .i64 a0_7, .int .i64 a0_8, .int .i64 a0_9, .int .i64 a0_10, .int .i64 a0_11]) (t := 40) ?_; intro gb432 hg w7 hbox hb; have BK432 := az hbox; have GW432 := az ((gE hg (qL HB) : w.heap.size ≤ gb432)); have GE432 := GW432; replace HB := bS HB hb; clear hb hbox hg) | ((with_reducible refine gate_dst (N := 3) rfl ?_); refine bx (N := 3) (cs := #[.int .i64 a1_0, .int .i64 a1_1]) (t := 24) ?_; intro gb433 hg w8 hbox hb; have BK433 := az hbox; have GW433 := az ((gE hg (qL HB) : w.heap.size ≤ gb433)); have GE433 := GW433; obtain ⟨NB432_433, NB433_432⟩ := nPB BK432 hg; replace BK432 := kBB BK432 hb; replace HB := bS HB hb; clear hb hbox hg) | ((with_reducible refine gate_dst (N := 4) rfl ?_); refine bx (N := 4) (cs := #[.int .i64 0, .int .i64 0, .int .i64 0, .int .i64 0, .int .i64 0, .int .i64 0, .int .i64 0, .int .i64 0, .int .i64 0, .int .i64 0, .int .i64 0, .int .i64 0]) (t := 40) ?_; intro gb434 hg w9 hbox hb; have BK434 := az hbox; have GW434 := az ((gE hg (qL HB) : w.heap.size ≤ gb434)); have GE434 := GW434; obtain ⟨NB432_434, NB434_432⟩ := nPB BK432 hg; obtain ⟨NB433_434, NB434_433⟩ := nPB BK433 hg; replace BK432 := kBB BK432 hb; replace BK433 := kBB BK433 hb; replace HB := bS HB hb; clear hb hbox hg; have hnb10 := NB432_433.out; have hnc10 := NB433_432.out; have hnb11 := NB432_434.out; have hnc11 := NB434_432.out; obtain ⟨hcz12_0, hcz12_1, hcz12_2, hcz12_3, hcz12_4, hcz12_5, hcz12_6, hcz12_7, hcz12_8, hcz12_9, hcz12_10, hcz12_11⟩ := cz12 BK432.out; obtain ⟨hfz12_0, hfz12_1, hfz12_2, hfz12_3, hfz12_4, hfz12_5, hfz12_6, hfz12_7, hfz12_8, hfz12_9, hfz12_10, hfz12_11⟩ := fz12 BK432.out; have hnb13 := NB433_434.out; have hnc13 := NB434_433.out; obtain ⟨hcz14_0, hcz14_1⟩ := cz2 BK433.out; have hfz14_0 := blk_frozen BK433.out 0; have hfz14_1 := blk_frozen BK433.out 1) | ((with_reducible refine gate_callee (f := 87) rfl ?_); refine gl (some 20) Try.func87 #[.int .i64 (wrap64 (a0_4 + a1_0)), .int .i64 2560000] ?_; (with_reducible refine (spec_l6Within.calls (wrap64 (a0_4 + a1_0)) 2560000 (wrap64 (a0_4 + a1_0)) _ A3.out).mono ?_); rintro e w' ⟨rfl, ⟨nd, rfl⟩⟩; refine ⟨_, rfl, ?_⟩; (try (rw [drewN_self w9]; generalize hq_ : World.drewN w9 _ = w9; have n0_ : Aside0 (w9.heap[gb432]? = some (.cells #[.int .i64 a0_0, .int .i64 a0_1, .int .i64 a0_2, .int .i64 a0_3, .int .i64 a0_4, .int .i64 a0_5, .int .i64 a0_6, .int .i64 a0_7, .int .i64 a0_8, .int .i64 a0_9, .int .i64 a0_10, .int .i64 a0_11] 40 (0, 0))) := ⟨by rw [← hq_]; exact (qB BK432)⟩; have n1_ : Aside0 (w9.heap[gb433]? = some (.cells #[.int .i64 a1_0, .int .i64 a1_1] 24 (0, 0))) := ⟨by rw [← hq_]; exact (qB BK433)⟩; have n2_ : Aside0 (w9.heap[gb434]? = some (.cells #[.int .i64 0, .int .i64 0, .int .i64 0, .int .i64 0, .int .i64 0, .int .i64 0, .int .i64 0, .int .i64 0, .int .i64 0, .int .i64 0, .int .i64 0, .int .i64 0] 40 (0, 0))) := ⟨by rw [← hq_]; exact (qB BK434)⟩; have n3_ : Aside0 (Below w.heap.size w w9) := ⟨by rw [← hq_]; exact (qL HB)⟩; clear BK432 BK433 BK434 HB hq_; have BK432 := n0_; have BK433 := n1_; have BK434 := n2_; have HB := n3_; clear n0_ n1_ n2_ n3_))) | ((with_reducible refine gate_callee (f := 87) rfl ?_); refine gl (some 22) Try.func87 #[.int .i64 (wrap64 (a0_5 + a1_1)), .int .i64 2560000] ?_; (with_reducible refine (spec_l6Within.calls (wrap64 (a0_5 + a1_1)) 2560000 (wrap64 (a0_5 + a1_1)) _ A4.out).mono ?_); rintro e w' ⟨rfl, ⟨nd, rfl⟩⟩; refine ⟨_, rfl, ?_⟩; (try (rw [drewN_self w9]; generalize hq_ : World.drewN w9 _ = w9; have n0_ : Aside0 (w9.heap[gb432]? = some (.cells #[.int .i64 a0_0, .int .i64 a0_1, .int .i64 a0_2, .int .i64 a0_3, .int .i64 a0_4, .int .i64 a0_5, .int .i64 a0_6, .int .i64 a0_7, .int .i64 a0_8, .int .i64 a0_9, .int .i64 a0_10, .int .i64 a0_11] 40 (0, 0))) := ⟨by rw [← hq_]; exact (qB BK432)⟩; have n1_ : Aside0 (w9.heap[gb433]? = some (.cells #[.int .i64 a1_0, .int .i64 a1_1] 24 (0, 0))) := ⟨by rw [← hq_]; exact (qB BK433)⟩; have n2_ : Aside0 (w9.heap[gb434]? = some (.cells #[.int .i64 0, .int .i64 0, .int .i64 0, .int .i64 0, .int .i64 0, .int .i64 0, .int .i64 0, .int .i64 0, .int .i64 0, .int .i64 0, .int .i64 0, .int .i64 0] 40 (0, 0))) := ⟨by rw [← hq_]; exact (qB BK434)⟩; have n3_ : Aside0 (Below w.heap.size w w9) := ⟨by rw [← hq_]; exact (qL HB)⟩; clear BK432 BK433 BK434 HB hq_; have BK432 := n0_; have BK433 := n1_; have BK434 := n2_; have HB := n3_; clear n0_ n1_ n2_ n3_)); obtain ⟨zq_0, zq_1, zq_2, zq_3, zq_4, zq_5, zq_6, zq_7, zq_8, zq_9, zq_10, zq_11⟩ := cz12 BK432.out; obtain ⟨fq_0, fq_1, fq_2, fq_3, fq_4, fq_5, fq_6, fq_7, fq_8, fq_9, fq_10, fq_11⟩ := fz12 BK432.out; obtain ⟨hcz15_0, hcz15_1, hcz15_2, hcz15_3, hcz15_4, hcz15_5, hcz15_6, hcz15_7, hcz15_8, hcz15_9, hcz15_10, hcz15_11⟩ := cz12 BK434.out; obtain ⟨hfz15_0, hfz15_1, hfz15_2, hfz15_3, hfz15_4, hfz15_5, hfz15_6, hfz15_7, hfz15_8, hfz15_9, hfz15_10, hfz15_11⟩ := fz12 BK434.out))
      refine bodyPost_ret (results_cell_row rfl _ _ gb434 40 #[.int .i64 a0_0, .int .i64 a0_1, .int .i64 a0_2, .int .i64 a0_3, .int .i64 (wrap64 (a0_4 + a1_0)), .int .i64 (wrap64 (a0_5 + a1_1)), .int .i64 a0_6, .int .i64 a0_7, .int .i64 a0_8, .int .i64 a0_9, .int .i64 a0_10, .int .i64 a0_11] (0, 0) _ rfl (qP BK434) Try.underlying40 rfl (by kernel_rfl)) rfl ?_
      exact ⟨qE, qL HB⟩
    rw [if_neg c6] at H
    have c6b0 : (t436 == (wrap64 (a0_5 + a1_1))) = false := beq_eq_false_iff_ne.mpr c6
    have c6b1 : (t436 != (wrap64 (a0_5 + a1_1))) = true := bne_iff_ne.mpr c6
    simp only [Option.some.injEq, Prod.mk.injEq] at H
    obtain ⟨rfl, rfl, rfl, rfl, rfl, rfl, rfl, rfl, rfl, rfl, rfl, rfl⟩ := H
    go_enter Try.func55, Try.ntmps55
    go_wp2_with (first | ((with_reducible refine gate_dst (N := 2) rfl ?_); refine bx (N := 2) (cs := #[.int .i64 a0_0, .int .i64 a0_1, .int .i64 a0_2, .int .i64 a0_3, .int .i64 a0_4, .int .i64 a0_5, .int .i64 a0_6, .int .i64 a0_7, .int .i64 a0_8, .int .i64 a0_9, .int .i64 a0_10, .int .i64 a0_11]) (t := 40) ?_; intro gb432 hg w16 hbox hb; have BK432 := az hbox; have GW432 := az ((gE hg (qL HB) : w.heap.size ≤ gb432)); have GE432 := GW432; replace HB := bS HB hb; clear hb hbox hg) | ((with_reducible refine gate_dst (N := 3) rfl ?_); refine bx (N := 3) (cs := #[.int .i64 a1_0, .int .i64 a1_1]) (t := 24) ?_; intro gb433 hg w17 hbox hb; have BK433 := az hbox; have GW433 := az ((gE hg (qL HB) : w.heap.size ≤ gb433)); have GE433 := GW433; obtain ⟨NB432_433, NB433_432⟩ := nPB BK432 hg; replace BK432 := kBB BK432 hb; replace HB := bS HB hb; clear hb hbox hg) | ((with_reducible refine gate_dst (N := 4) rfl ?_); refine bx (N := 4) (cs := #[.int .i64 0, .int .i64 0, .int .i64 0, .int .i64 0, .int .i64 0, .int .i64 0, .int .i64 0, .int .i64 0, .int .i64 0, .int .i64 0, .int .i64 0, .int .i64 0]) (t := 40) ?_; intro gb434 hg w18 hbox hb; have BK434 := az hbox; have GW434 := az ((gE hg (qL HB) : w.heap.size ≤ gb434)); have GE434 := GW434; obtain ⟨NB432_434, NB434_432⟩ := nPB BK432 hg; obtain ⟨NB433_434, NB434_433⟩ := nPB BK433 hg; replace BK432 := kBB BK432 hb; replace BK433 := kBB BK433 hb; replace HB := bS HB hb; clear hb hbox hg; have hnb19 := NB432_433.out; have hnc19 := NB433_432.out; have hnb20 := NB432_434.out; have hnc20 := NB434_432.out; obtain ⟨hcz21_0, hcz21_1, hcz21_2, hcz21_3, hcz21_4, hcz21_5, hcz21_6, hcz21_7, hcz21_8, hcz21_9, hcz21_10, hcz21_11⟩ := cz12 BK432.out; obtain ⟨hfz21_0, hfz21_1, hfz21_2, hfz21_3, hfz21_4, hfz21_5, hfz21_6, hfz21_7, hfz21_8, hfz21_9, hfz21_10, hfz21_11⟩ := fz12 BK432.out; have hnb22 := NB433_434.out; have hnc22 := NB434_433.out; obtain ⟨hcz23_0, hcz23_1⟩ := cz2 BK433.out; have hfz23_0 := blk_frozen BK433.out 0; have hfz23_1 := blk_frozen BK433.out 1) | ((with_reducible refine gate_callee (f := 87) rfl ?_); refine gl (some 20) Try.func87 #[.int .i64 (wrap64 (a0_4 + a1_0)), .int .i64 2560000] ?_; (with_reducible refine (spec_l6Within.calls (wrap64 (a0_4 + a1_0)) 2560000 (wrap64 (a0_4 + a1_0)) _ A3.out).mono ?_); rintro e w' ⟨rfl, ⟨nd, rfl⟩⟩; refine ⟨_, rfl, ?_⟩; (try (rw [drewN_self w18]; generalize hq_ : World.drewN w18 _ = w18; have n0_ : Aside0 (w18.heap[gb432]? = some (.cells #[.int .i64 a0_0, .int .i64 a0_1, .int .i64 a0_2, .int .i64 a0_3, .int .i64 a0_4, .int .i64 a0_5, .int .i64 a0_6, .int .i64 a0_7, .int .i64 a0_8, .int .i64 a0_9, .int .i64 a0_10, .int .i64 a0_11] 40 (0, 0))) := ⟨by rw [← hq_]; exact (qB BK432)⟩; have n1_ : Aside0 (w18.heap[gb433]? = some (.cells #[.int .i64 a1_0, .int .i64 a1_1] 24 (0, 0))) := ⟨by rw [← hq_]; exact (qB BK433)⟩; have n2_ : Aside0 (w18.heap[gb434]? = some (.cells #[.int .i64 0, .int .i64 0, .int .i64 0, .int .i64 0, .int .i64 0, .int .i64 0, .int .i64 0, .int .i64 0, .int .i64 0, .int .i64 0, .int .i64 0, .int .i64 0] 40 (0, 0))) := ⟨by rw [← hq_]; exact (qB BK434)⟩; have n3_ : Aside0 (Below w.heap.size w w18) := ⟨by rw [← hq_]; exact (qL HB)⟩; clear BK432 BK433 BK434 HB hq_; have BK432 := n0_; have BK433 := n1_; have BK434 := n2_; have HB := n3_; clear n0_ n1_ n2_ n3_))) | ((with_reducible refine gate_callee (f := 87) rfl ?_); refine gl (some 22) Try.func87 #[.int .i64 (wrap64 (a0_5 + a1_1)), .int .i64 2560000] ?_; (with_reducible refine (spec_l6Within.calls (wrap64 (a0_5 + a1_1)) 2560000 t436 _ A4.out).mono ?_); rintro e w' ⟨rfl, ⟨nd, rfl⟩⟩; refine ⟨_, rfl, ?_⟩; (try (rw [drewN_self w18]; generalize hq_ : World.drewN w18 _ = w18; have n0_ : Aside0 (w18.heap[gb432]? = some (.cells #[.int .i64 a0_0, .int .i64 a0_1, .int .i64 a0_2, .int .i64 a0_3, .int .i64 a0_4, .int .i64 a0_5, .int .i64 a0_6, .int .i64 a0_7, .int .i64 a0_8, .int .i64 a0_9, .int .i64 a0_10, .int .i64 a0_11] 40 (0, 0))) := ⟨by rw [← hq_]; exact (qB BK432)⟩; have n1_ : Aside0 (w18.heap[gb433]? = some (.cells #[.int .i64 a1_0, .int .i64 a1_1] 24 (0, 0))) := ⟨by rw [← hq_]; exact (qB BK433)⟩; have n2_ : Aside0 (w18.heap[gb434]? = some (.cells #[.int .i64 0, .int .i64 0, .int .i64 0, .int .i64 0, .int .i64 0, .int .i64 0, .int .i64 0, .int .i64 0, .int .i64 0, .int .i64 0, .int .i64 0, .int .i64 0] 40 (0, 0))) := ⟨by rw [← hq_]; exact (qB BK434)⟩; have n3_ : Aside0 (Below w.heap.size w w18) := ⟨by rw [← hq_]; exact (qL HB)⟩; clear BK432 BK433 BK434 HB hq_; have BK432 := n0_; have BK433 := n1_; have BK434 := n2_; have HB := n3_; clear n0_ n1_ n2_ n3_)); obtain ⟨zq_0, zq_1, zq_2, zq_3, zq_4, zq_5, zq_6, zq_7, zq_8, zq_9, zq_10, zq_11⟩ := cz12 BK432.out; obtain ⟨fq_0, fq_1, fq_2, fq_3, fq_4, fq_5, fq_6, fq_7, fq_8, fq_9, fq_10, fq_11⟩ := fz12 BK432.out; obtain ⟨hcz24_0, hcz24_1, hcz24_2, hcz24_3, hcz24_4, hcz24_5, hcz24_6, hcz24_7, hcz24_8, hcz24_9, hcz24_10, hcz24_11⟩ := cz12 BK434.out; obtain ⟨hfz24_0, hfz24_1, hfz24_2, hfz24_3, hfz24_4, hfz24_5, hfz24_6, hfz24_7, hfz24_8, hfz24_9, hfz24_10, hfz24_11⟩ := fz12 BK434.out))
    refine bodyPost_ret (results_cell_row rfl _ _ gb434 40 #[.int .i64 a0_0, .int .i64 a0_1, .int .i64 a0_2, .int .i64 a0_3, .int .i64 (wrap64 (a0_4 + a1_0)), .int .i64 t436, .int .i64 a0_6, .int .i64 0, .int .i64 a0_8, .int .i64 a0_9, .int .i64 a0_10, .int .i64 a0_11] (0, 0) _ rfl (qP BK434) Try.underlying40 rfl (by kernel_rfl)) rfl ?_
    exact ⟨qE, qL HB⟩
  rw [if_neg c5] at H
  have c5b0 : (t435 == (wrap64 (a0_4 + a1_0))) = false := beq_eq_false_iff_ne.mpr c5
  have c5b1 : (t435 != (wrap64 (a0_4 + a1_0))) = true := bne_iff_ne.mpr c5
  by_cases c25 : t436 = (wrap64 (a0_5 + a1_1))
  · rw [if_pos c25] at H
    subst c25
    have c25b1 : ((wrap64 (a0_5 + a1_1)) != (wrap64 (a0_5 + a1_1))) = false := by simp
    simp only [Option.some.injEq, Prod.mk.injEq] at H
    obtain ⟨rfl, rfl, rfl, rfl, rfl, rfl, rfl, rfl, rfl, rfl, rfl, rfl⟩ := H
    go_enter Try.func55, Try.ntmps55
    go_wp2_with (first | ((with_reducible refine gate_dst (N := 2) rfl ?_); refine bx (N := 2) (cs := #[.int .i64 a0_0, .int .i64 a0_1, .int .i64 a0_2, .int .i64 a0_3, .int .i64 a0_4, .int .i64 a0_5, .int .i64 a0_6, .int .i64 a0_7, .int .i64 a0_8, .int .i64 a0_9, .int .i64 a0_10, .int .i64 a0_11]) (t := 40) ?_; intro gb432 hg w26 hbox hb; have BK432 := az hbox; have GW432 := az ((gE hg (qL HB) : w.heap.size ≤ gb432)); have GE432 := GW432; replace HB := bS HB hb; clear hb hbox hg) | ((with_reducible refine gate_dst (N := 3) rfl ?_); refine bx (N := 3) (cs := #[.int .i64 a1_0, .int .i64 a1_1]) (t := 24) ?_; intro gb433 hg w27 hbox hb; have BK433 := az hbox; have GW433 := az ((gE hg (qL HB) : w.heap.size ≤ gb433)); have GE433 := GW433; obtain ⟨NB432_433, NB433_432⟩ := nPB BK432 hg; replace BK432 := kBB BK432 hb; replace HB := bS HB hb; clear hb hbox hg) | ((with_reducible refine gate_dst (N := 4) rfl ?_); refine bx (N := 4) (cs := #[.int .i64 0, .int .i64 0, .int .i64 0, .int .i64 0, .int .i64 0, .int .i64 0, .int .i64 0, .int .i64 0, .int .i64 0, .int .i64 0, .int .i64 0, .int .i64 0]) (t := 40) ?_; intro gb434 hg w28 hbox hb; have BK434 := az hbox; have GW434 := az ((gE hg (qL HB) : w.heap.size ≤ gb434)); have GE434 := GW434; obtain ⟨NB432_434, NB434_432⟩ := nPB BK432 hg; obtain ⟨NB433_434, NB434_433⟩ := nPB BK433 hg; replace BK432 := kBB BK432 hb; replace BK433 := kBB BK433 hb; replace HB := bS HB hb; clear hb hbox hg; have hnb29 := NB432_433.out; have hnc29 := NB433_432.out; have hnb30 := NB432_434.out; have hnc30 := NB434_432.out; obtain ⟨hcz31_0, hcz31_1, hcz31_2, hcz31_3, hcz31_4, hcz31_5, hcz31_6, hcz31_7, hcz31_8, hcz31_9, hcz31_10, hcz31_11⟩ := cz12 BK432.out; obtain ⟨hfz31_0, hfz31_1, hfz31_2, hfz31_3, hfz31_4, hfz31_5, hfz31_6, hfz31_7, hfz31_8, hfz31_9, hfz31_10, hfz31_11⟩ := fz12 BK432.out; have hnb32 := NB433_434.out; have hnc32 := NB434_433.out; obtain ⟨hcz33_0, hcz33_1⟩ := cz2 BK433.out; have hfz33_0 := blk_frozen BK433.out 0; have hfz33_1 := blk_frozen BK433.out 1) | ((with_reducible refine gate_callee (f := 87) rfl ?_); refine gl (some 20) Try.func87 #[.int .i64 (wrap64 (a0_4 + a1_0)), .int .i64 2560000] ?_; (with_reducible refine (spec_l6Within.calls (wrap64 (a0_4 + a1_0)) 2560000 t435 _ A3.out).mono ?_); rintro e w' ⟨rfl, ⟨nd, rfl⟩⟩; refine ⟨_, rfl, ?_⟩; (try (rw [drewN_self w28]; generalize hq_ : World.drewN w28 _ = w28; have n0_ : Aside0 (w28.heap[gb432]? = some (.cells #[.int .i64 a0_0, .int .i64 a0_1, .int .i64 a0_2, .int .i64 a0_3, .int .i64 a0_4, .int .i64 a0_5, .int .i64 a0_6, .int .i64 a0_7, .int .i64 a0_8, .int .i64 a0_9, .int .i64 a0_10, .int .i64 a0_11] 40 (0, 0))) := ⟨by rw [← hq_]; exact (qB BK432)⟩; have n1_ : Aside0 (w28.heap[gb433]? = some (.cells #[.int .i64 a1_0, .int .i64 a1_1] 24 (0, 0))) := ⟨by rw [← hq_]; exact (qB BK433)⟩; have n2_ : Aside0 (w28.heap[gb434]? = some (.cells #[.int .i64 0, .int .i64 0, .int .i64 0, .int .i64 0, .int .i64 0, .int .i64 0, .int .i64 0, .int .i64 0, .int .i64 0, .int .i64 0, .int .i64 0, .int .i64 0] 40 (0, 0))) := ⟨by rw [← hq_]; exact (qB BK434)⟩; have n3_ : Aside0 (Below w.heap.size w w28) := ⟨by rw [← hq_]; exact (qL HB)⟩; clear BK432 BK433 BK434 HB hq_; have BK432 := n0_; have BK433 := n1_; have BK434 := n2_; have HB := n3_; clear n0_ n1_ n2_ n3_))) | ((with_reducible refine gate_callee (f := 87) rfl ?_); refine gl (some 22) Try.func87 #[.int .i64 (wrap64 (a0_5 + a1_1)), .int .i64 2560000] ?_; (with_reducible refine (spec_l6Within.calls (wrap64 (a0_5 + a1_1)) 2560000 (wrap64 (a0_5 + a1_1)) _ A4.out).mono ?_); rintro e w' ⟨rfl, ⟨nd, rfl⟩⟩; refine ⟨_, rfl, ?_⟩; (try (rw [drewN_self w28]; generalize hq_ : World.drewN w28 _ = w28; have n0_ : Aside0 (w28.heap[gb432]? = some (.cells #[.int .i64 a0_0, .int .i64 a0_1, .int .i64 a0_2, .int .i64 a0_3, .int .i64 a0_4, .int .i64 a0_5, .int .i64 a0_6, .int .i64 a0_7, .int .i64 a0_8, .int .i64 a0_9, .int .i64 a0_10, .int .i64 a0_11] 40 (0, 0))) := ⟨by rw [← hq_]; exact (qB BK432)⟩; have n1_ : Aside0 (w28.heap[gb433]? = some (.cells #[.int .i64 a1_0, .int .i64 a1_1] 24 (0, 0))) := ⟨by rw [← hq_]; exact (qB BK433)⟩; have n2_ : Aside0 (w28.heap[gb434]? = some (.cells #[.int .i64 0, .int .i64 0, .int .i64 0, .int .i64 0, .int .i64 0, .int .i64 0, .int .i64 0, .int .i64 0, .int .i64 0, .int .i64 0, .int .i64 0, .int .i64 0] 40 (0, 0))) := ⟨by rw [← hq_]; exact (qB BK434)⟩; have n3_ : Aside0 (Below w.heap.size w w28) := ⟨by rw [← hq_]; exact (qL HB)⟩; clear BK432 BK433 BK434 HB hq_; have BK432 := n0_; have BK433 := n1_; have BK434 := n2_; have HB := n3_; clear n0_ n1_ n2_ n3_)); obtain ⟨zq_0, zq_1, zq_2, zq_3, zq_4, zq_5, zq_6, zq_7, zq_8, zq_9, zq_10, zq_11⟩ := cz12 BK432.out; obtain ⟨fq_0, fq_1, fq_2, fq_3, fq_4, fq_5, fq_6, fq_7, fq_8, fq_9, fq_10, fq_11⟩ := fz12 BK432.out; obtain ⟨hcz34_0, hcz34_1, hcz34_2, hcz34_3, hcz34_4, hcz34_5, hcz34_6, hcz34_7, hcz34_8, hcz34_9, hcz34_10, hcz34_11⟩ := cz12 BK434.out; obtain ⟨hfz34_0, hfz34_1, hfz34_2, hfz34_3, hfz34_4, hfz34_5, hfz34_6, hfz34_7, hfz34_8, hfz34_9, hfz34_10, hfz34_11⟩ := fz12 BK434.out))
    refine bodyPost_ret (results_cell_row rfl _ _ gb434 40 #[.int .i64 a0_0, .int .i64 a0_1, .int .i64 a0_2, .int .i64 a0_3, .int .i64 t435, .int .i64 (wrap64 (a0_5 + a1_1)), .int .i64 0, .int .i64 a0_7, .int .i64 a0_8, .int .i64 a0_9, .int .i64 a0_10, .int .i64 a0_11] (0, 0) _ rfl (qP BK434) Try.underlying40 rfl (by kernel_rfl)) rfl ?_
    exact ⟨qE, qL HB⟩
  rw [if_neg c25] at H
  have c25b0 : (t436 == (wrap64 (a0_5 + a1_1))) = false := beq_eq_false_iff_ne.mpr c25
  have c25b1 : (t436 != (wrap64 (a0_5 + a1_1))) = true := bne_iff_ne.mpr c25
  simp only [Option.some.injEq, Prod.mk.injEq] at H
  obtain ⟨rfl, rfl, rfl, rfl, rfl, rfl, rfl, rfl, rfl, rfl, rfl, rfl⟩ := H
  go_enter Try.func55, Try.ntmps55
  go_wp2_with (first | ((with_reducible refine gate_dst (N := 2) rfl ?_); refine bx (N := 2) (cs := #[.int .i64 a0_0, .int .i64 a0_1, .int .i64 a0_2, .int .i64 a0_3, .int .i64 a0_4, .int .i64 a0_5, .int .i64 a0_6, .int .i64 a0_7, .int .i64 a0_8, .int .i64 a0_9, .int .i64 a0_10, .int .i64 a0_11]) (t := 40) ?_; intro gb432 hg w35 hbox hb; have BK432 := az hbox; have GW432 := az ((gE hg (qL HB) : w.heap.size ≤ gb432)); have GE432 := GW432; replace HB := bS HB hb; clear hb hbox hg) | ((with_reducible refine gate_dst (N := 3) rfl ?_); refine bx (N := 3) (cs := #[.int .i64 a1_0, .int .i64 a1_1]) (t := 24) ?_; intro gb433 hg w36 hbox hb; have BK433 := az hbox; have GW433 := az ((gE hg (qL HB) : w.heap.size ≤ gb433)); have GE433 := GW433; obtain ⟨NB432_433, NB433_432⟩ := nPB BK432 hg; replace BK432 := kBB BK432 hb; replace HB := bS HB hb; clear hb hbox hg) | ((with_reducible refine gate_dst (N := 4) rfl ?_); refine bx (N := 4) (cs := #[.int .i64 0, .int .i64 0, .int .i64 0, .int .i64 0, .int .i64 0, .int .i64 0, .int .i64 0, .int .i64 0, .int .i64 0, .int .i64 0, .int .i64 0, .int .i64 0]) (t := 40) ?_; intro gb434 hg w37 hbox hb; have BK434 := az hbox; have GW434 := az ((gE hg (qL HB) : w.heap.size ≤ gb434)); have GE434 := GW434; obtain ⟨NB432_434, NB434_432⟩ := nPB BK432 hg; obtain ⟨NB433_434, NB434_433⟩ := nPB BK433 hg; replace BK432 := kBB BK432 hb; replace BK433 := kBB BK433 hb; replace HB := bS HB hb; clear hb hbox hg; have hnb38 := NB432_433.out; have hnc38 := NB433_432.out; have hnb39 := NB432_434.out; have hnc39 := NB434_432.out; obtain ⟨hcz40_0, hcz40_1, hcz40_2, hcz40_3, hcz40_4, hcz40_5, hcz40_6, hcz40_7, hcz40_8, hcz40_9, hcz40_10, hcz40_11⟩ := cz12 BK432.out; obtain ⟨hfz40_0, hfz40_1, hfz40_2, hfz40_3, hfz40_4, hfz40_5, hfz40_6, hfz40_7, hfz40_8, hfz40_9, hfz40_10, hfz40_11⟩ := fz12 BK432.out; have hnb41 := NB433_434.out; have hnc41 := NB434_433.out; obtain ⟨hcz42_0, hcz42_1⟩ := cz2 BK433.out; have hfz42_0 := blk_frozen BK433.out 0; have hfz42_1 := blk_frozen BK433.out 1) | ((with_reducible refine gate_callee (f := 87) rfl ?_); refine gl (some 20) Try.func87 #[.int .i64 (wrap64 (a0_4 + a1_0)), .int .i64 2560000] ?_; (with_reducible refine (spec_l6Within.calls (wrap64 (a0_4 + a1_0)) 2560000 t435 _ A3.out).mono ?_); rintro e w' ⟨rfl, ⟨nd, rfl⟩⟩; refine ⟨_, rfl, ?_⟩; (try (rw [drewN_self w37]; generalize hq_ : World.drewN w37 _ = w37; have n0_ : Aside0 (w37.heap[gb432]? = some (.cells #[.int .i64 a0_0, .int .i64 a0_1, .int .i64 a0_2, .int .i64 a0_3, .int .i64 a0_4, .int .i64 a0_5, .int .i64 a0_6, .int .i64 a0_7, .int .i64 a0_8, .int .i64 a0_9, .int .i64 a0_10, .int .i64 a0_11] 40 (0, 0))) := ⟨by rw [← hq_]; exact (qB BK432)⟩; have n1_ : Aside0 (w37.heap[gb433]? = some (.cells #[.int .i64 a1_0, .int .i64 a1_1] 24 (0, 0))) := ⟨by rw [← hq_]; exact (qB BK433)⟩; have n2_ : Aside0 (w37.heap[gb434]? = some (.cells #[.int .i64 0, .int .i64 0, .int .i64 0, .int .i64 0, .int .i64 0, .int .i64 0, .int .i64 0, .int .i64 0, .int .i64 0, .int .i64 0, .int .i64 0, .int .i64 0] 40 (0, 0))) := ⟨by rw [← hq_]; exact (qB BK434)⟩; have n3_ : Aside0 (Below w.heap.size w w37) := ⟨by rw [← hq_]; exact (qL HB)⟩; clear BK432 BK433 BK434 HB hq_; have BK432 := n0_; have BK433 := n1_; have BK434 := n2_; have HB := n3_; clear n0_ n1_ n2_ n3_))) | ((with_reducible refine gate_callee (f := 87) rfl ?_); refine gl (some 22) Try.func87 #[.int .i64 (wrap64 (a0_5 + a1_1)), .int .i64 2560000] ?_; (with_reducible refine (spec_l6Within.calls (wrap64 (a0_5 + a1_1)) 2560000 t436 _ A4.out).mono ?_); rintro e w' ⟨rfl, ⟨nd, rfl⟩⟩; refine ⟨_, rfl, ?_⟩; (try (rw [drewN_self w37]; generalize hq_ : World.drewN w37 _ = w37; have n0_ : Aside0 (w37.heap[gb432]? = some (.cells #[.int .i64 a0_0, .int .i64 a0_1, .int .i64 a0_2, .int .i64 a0_3, .int .i64 a0_4, .int .i64 a0_5, .int .i64 a0_6, .int .i64 a0_7, .int .i64 a0_8, .int .i64 a0_9, .int .i64 a0_10, .int .i64 a0_11] 40 (0, 0))) := ⟨by rw [← hq_]; exact (qB BK432)⟩; have n1_ : Aside0 (w37.heap[gb433]? = some (.cells #[.int .i64 a1_0, .int .i64 a1_1] 24 (0, 0))) := ⟨by rw [← hq_]; exact (qB BK433)⟩; have n2_ : Aside0 (w37.heap[gb434]? = some (.cells #[.int .i64 0, .int .i64 0, .int .i64 0, .int .i64 0, .int .i64 0, .int .i64 0, .int .i64 0, .int .i64 0, .int .i64 0, .int .i64 0, .int .i64 0, .int .i64 0] 40 (0, 0))) := ⟨by rw [← hq_]; exact (qB BK434)⟩; have n3_ : Aside0 (Below w.heap.size w w37) := ⟨by rw [← hq_]; exact (qL HB)⟩; clear BK432 BK433 BK434 HB hq_; have BK432 := n0_; have BK433 := n1_; have BK434 := n2_; have HB := n3_; clear n0_ n1_ n2_ n3_)); obtain ⟨zq_0, zq_1, zq_2, zq_3, zq_4, zq_5, zq_6, zq_7, zq_8, zq_9, zq_10, zq_11⟩ := cz12 BK432.out; obtain ⟨fq_0, fq_1, fq_2, fq_3, fq_4, fq_5, fq_6, fq_7, fq_8, fq_9, fq_10, fq_11⟩ := fz12 BK432.out; obtain ⟨hcz43_0, hcz43_1, hcz43_2, hcz43_3, hcz43_4, hcz43_5, hcz43_6, hcz43_7, hcz43_8, hcz43_9, hcz43_10, hcz43_11⟩ := cz12 BK434.out; obtain ⟨hfz43_0, hfz43_1, hfz43_2, hfz43_3, hfz43_4, hfz43_5, hfz43_6, hfz43_7, hfz43_8, hfz43_9, hfz43_10, hfz43_11⟩ := fz12 BK434.out))
  refine bodyPost_ret (results_cell_row rfl _ _ gb434 40 #[.int .i64 a0_0, .int .i64 a0_1, .int .i64 a0_2, .int .i64 a0_3, .int .i64 t435, .int .i64 t436, .int .i64 0, .int .i64 0, .int .i64 a0_8, .int .i64 a0_9, .int .i64 a0_10, .int .i64 a0_11] (0, 0) _ rfl (qP BK434) Try.underlying40 rfl (by kernel_rfl)) rfl ?_
  exact ⟨qE, qL HB⟩

/-! ### spec_l6Speed: function 56 -/
def spec_l6Speed.f (a0_0 : Int) (a0_1 : Int) (a0_2 : Int) (a0_3 : Int) (a0_4 : Int) (a0_5 : Int) (a0_6 : Int) (a0_7 : Int) (a0_8 : Int) (a0_9 : Int) (a0_10 : Int) (a0_11 : Int) : Option (Int × Int) := if a0_8 = 0 then (some (0, 0)) else (some (wrap64 (Int.tdiv a0_6 a0_8), wrap64 (Int.tdiv a0_7 a0_8)))
def spec_l6Speed.T3 : Bool × List (List Nat × List Nat) := (true, [([], []), ([0], [0]), ([1], [1]), ([], []), ([3], [3]), ([2, 4], [2, 4]), ([], []), ([6], [6]), ([7], [7]), ([], []), ([9], [9]), ([8, 10], [8, 10]), ([5, 11], [5, 11]), ([12, 0, 1, 2, 3, 4, 5, 6, 7, 8, 9, 10, 11, 12], [12])])
def spec_l6Speed.B3 : List Nat := [0, 1, 3, 0, 8, 31, 0, 64, 192, 0, 512, 1984, 4095, 8191]
theorem spec_l6Speed.tab3 : rtab .any (opsOf Try.f56 3) = spec_l6Speed.T3 := by kernel_rfl
theorem spec_l6Speed.bits3 : waitsOk spec_l6Speed.T3.2 spec_l6Speed.B3 = true := by kernel_rfl
set_option maxHeartbeats 8000000 in
set_option maxRecDepth 100000 in
theorem spec_l6Speed.calls (a0_0 : Int) (a0_1 : Int) (a0_2 : Int) (a0_3 : Int) (a0_4 : Int) (a0_5 : Int) (a0_6 : Int) (a0_7 : Int) (a0_8 : Int) (a0_9 : Int) (a0_10 : Int) (a0_11 : Int) (r1 : Int) (r2 : Int) (w : World) (h : spec_l6Speed.f a0_0 a0_1 a0_2 a0_3 a0_4 a0_5 a0_6 a0_7 a0_8 a0_9 a0_10 a0_11 = some (r1, r2)) :
    Calls Try.prog 56 #[.agg #[.int .i64 a0_0, .int .i64 a0_1, .int .i64 a0_2, .int .i64 a0_3, .int .i64 a0_4, .int .i64 a0_5, .int .i64 a0_6, .int .i64 a0_7, .int .i64 a0_8, .int .i64 a0_9, .int .i64 a0_10, .int .i64 a0_11]] w fun e w' => e = .returned (.agg #[.int .i64 r1, .int .i64 r2]) ∧ Below w.heap.size w w' := by
  have hu40 := Try.underlying40
  have hu24 := Try.underlying24
  have HB := az (Below.refl w.heap.size w)
  have H : (if a0_8 = 0 then (some (0, 0)) else (some (wrap64 (Int.tdiv a0_6 a0_8), wrap64 (Int.tdiv a0_7 a0_8)))) = some (r1, r2) := h
  clear h
  by_cases c2 : a0_8 = 0
  · rw [if_pos c2] at H
    have c2b0 : (a0_8 == 0) = true := beq_iff_eq.mpr c2
    have c2b1 : (a0_8 != 0) = false := bne_eq_false_iff_eq.mpr c2
    clear c2
    simp only [Option.some.injEq, Prod.mk.injEq] at H
    obtain ⟨rfl, rfl⟩ := H
    go_enter Try.func56, Try.ntmps56
    go_wp2_with (first | ((with_reducible refine gate_dst (N := 1) rfl ?_); refine bx (N := 1) (cs := #[.int .i64 a0_0, .int .i64 a0_1, .int .i64 a0_2, .int .i64 a0_3, .int .i64 a0_4, .int .i64 a0_5, .int .i64 a0_6, .int .i64 a0_7, .int .i64 a0_8, .int .i64 a0_9, .int .i64 a0_10, .int .i64 a0_11]) (t := 40) ?_; intro gb437 hg w3 hbox hb; have BK437 := az hbox; have GW437 := az ((gE hg (qL HB) : w.heap.size ≤ gb437)); have GE437 := GW437; replace HB := bS HB hb; clear hb hbox hg) | ((with_reducible refine gate_dst (N := 2) rfl ?_); refine bx (N := 2) (cs := #[.int .i64 0, .int .i64 0]) (t := 24) ?_; intro gb438 hg w4 hbox hb; have BK438 := az hbox; have GW438 := az ((gE hg (qL HB) : w.heap.size ≤ gb438)); have GE438 := GW438; obtain ⟨NB437_438, NB438_437⟩ := nPB BK437 hg; replace BK437 := kBB BK437 hb; replace HB := bS HB hb; clear hb hbox hg; have hnb5 := NB437_438.out; have hnc5 := NB438_437.out; obtain ⟨hcz6_0, hcz6_1, hcz6_2, hcz6_3, hcz6_4, hcz6_5, hcz6_6, hcz6_7, hcz6_8, hcz6_9, hcz6_10, hcz6_11⟩ := cz12 BK437.out; obtain ⟨hfz6_0, hfz6_1, hfz6_2, hfz6_3, hfz6_4, hfz6_5, hfz6_6, hfz6_7, hfz6_8, hfz6_9, hfz6_10, hfz6_11⟩ := fz12 BK437.out; obtain ⟨hcz7_0, hcz7_1⟩ := cz2 BK438.out; have hfz7_0 := blk_frozen BK438.out 0; have hfz7_1 := blk_frozen BK438.out 1))
    refine bodyPost_ret (results_cell_row rfl _ _ gb438 24 #[.int .i64 0, .int .i64 0] (0, 0) _ rfl (qP BK438) Try.underlying24 rfl (by kernel_rfl)) rfl ?_
    exact ⟨qE, qL HB⟩
  rw [if_neg c2] at H
  have c2b0 : (a0_8 == 0) = false := beq_eq_false_iff_ne.mpr c2
  have c2b1 : (a0_8 != 0) = true := bne_iff_ne.mpr c2
  simp only [Option.some.injEq, Prod.mk.injEq] at H
  obtain ⟨rfl, rfl⟩ := H
  go_enter Try.func56, Try.ntmps56
  try go_wp2_with (first | ((with_reducible refine gate_dst (N := 1) rfl ?_); refine bx (N := 1) (cs := #[.int .i64 a0_0, .int .i64 a0_1, .int .i64 a0_2, .int .i64 a0_3, .int .i64 a0_4, .int .i64 a0_5, .int .i64 a0_6, .int .i64 a0_7, .int .i64 a0_8, .int .i64 a0_9, .int .i64 a0_10, .int .i64 a0_11]) (t := 40) ?_; intro gb437 hg w8 hbox hb; have BK437 := az hbox; have GW437 := az ((gE hg (qL HB) : w.heap.size ≤ gb437)); have GE437 := GW437; replace HB := bS HB hb; clear hb hbox hg) | ((with_reducible refine gate_dst (N := 2) rfl ?_); refine bx (N := 2) (cs := #[.int .i64 0, .int .i64 0]) (t := 24) ?_; intro gb438 hg w9 hbox hb; have BK438 := az hbox; have GW438 := az ((gE hg (qL HB) : w.heap.size ≤ gb438)); have GE438 := GW438; obtain ⟨NB437_438, NB438_437⟩ := nPB BK437 hg; replace BK437 := kBB BK437 hb; replace HB := bS HB hb; clear hb hbox hg; have hnb10 := NB437_438.out; have hnc10 := NB438_437.out; obtain ⟨hcz11_0, hcz11_1, hcz11_2, hcz11_3, hcz11_4, hcz11_5, hcz11_6, hcz11_7, hcz11_8, hcz11_9, hcz11_10, hcz11_11⟩ := cz12 BK437.out; obtain ⟨hfz11_0, hfz11_1, hfz11_2, hfz11_3, hfz11_4, hfz11_5, hfz11_6, hfz11_7, hfz11_8, hfz11_9, hfz11_10, hfz11_11⟩ := fz12 BK437.out))
  replace BK437 := az (blk_drew BK437.out)
  replace BK438 := az (blk_drew BK438.out)
  replace HB := az (below_drew1 HB.out)
  refine start_ (n := 14) (S := fun w' => w'.cell? ⟨gb437, 0, none⟩ = some (.int .i64 a0_0) ∧ w'.cell? ⟨gb437, 1, none⟩ = some (.int .i64 a0_1) ∧ w'.cell? ⟨gb437, 2, none⟩ = some (.int .i64 a0_2) ∧ w'.cell? ⟨gb437, 3, none⟩ = some (.int .i64 a0_3) ∧ w'.cell? ⟨gb437, 4, none⟩ = some (.int .i64 a0_4) ∧ w'.cell? ⟨gb437, 5, none⟩ = some (.int .i64 a0_5) ∧ w'.cell? ⟨gb437, 6, none⟩ = some (.int .i64 a0_6) ∧ w'.cell? ⟨gb437, 7, none⟩ = some (.int .i64 a0_7) ∧ w'.cell? ⟨gb437, 8, none⟩ = some (.int .i64 a0_8) ∧ w'.cell? ⟨gb437, 9, none⟩ = some (.int .i64 a0_9) ∧ w'.cell? ⟨gb437, 10, none⟩ = some (.int .i64 a0_10) ∧ w'.cell? ⟨gb437, 11, none⟩ = some (.int .i64 a0_11)) (ds := []) #[false, false, false, false, false, false, false, false, false, false, false, false, false, false] (by kernel_rfl) rfl rfl ⟨bc BK437 0, bc BK437 1, bc BK437 2, bc BK437 3, bc BK437 4, bc BK437 5, bc BK437 6, bc BK437 7, bc BK437 8, bc BK437 9, bc BK437 10, bc BK437 11⟩ (fun hHeld => ?_); refine with_tabW spec_l6Speed.tab3 spec_l6Speed.bits3 (fun HT_ HW_ => ?_)
  generalize w9.drew = w12 at BK437 BK438 HB hHeld ⊢
  refine pu 0 (some 7) (fl 14 1) HT_ ?_
  refine pu 1 (some 8) (fl 14 3) HT_ ?_
  refine pu 3 (some 10) (fl 14 11) HT_ ?_
  refine pu 6 (some 13) (fl 14 75) HT_ ?_
  refine pu 7 (some 14) (fl 14 203) HT_ ?_
  refine pu 9 (some 16) (fl 14 715) HT_ ?_
  refine tk12 2 (some 9) (fl 14 719) HT_ HW_ hHeld ?_
  refine tk12 4 (some 11) (fl 14 735) HT_ HW_ hHeld ?_
  refine pu 5 (some 12) (fl 14 767) HT_ ?_
  refine tk12 8 (some 15) (fl 14 1023) HT_ HW_ hHeld ?_
  refine tk12 10 (some 17) (fl 14 2047) HT_ HW_ hHeld ?_
  refine pu 11 (some 18) (fl 14 4095) HT_ ?_
  refine pu 12 (some 19) (fl 14 8191) HT_ ?_
  refine on 13 (none) (fl 14 16383) HT_ (fun K hK => ?_)
  have hs13 : w12.cell? ⟨gb438, 0, none⟩ = some (.int .i64 0) := bc BK438 0
  have hfs13 := blk_frozen BK438.out 0
  have hns13_0 := NB437_438.out
  have hms13_0 := NB438_437.out
  have hs14 : w12.cell? ⟨gb438, 1, none⟩ = some (.int .i64 0) := bc BK438 1
  have hfs14 := blk_frozen BK438.out 1
  have hns14_0 := NB437_438.out
  have hms14_0 := NB438_437.out
  refine skip_ (w1 := ?_) ?hw ?hn ?_ ?_; (case hw => unfold Region.wanted; rfl); (case hn => rfl)
  rotate_left
  · go_simp
    rfl
  refine hK.out _ _ ⟨(cf NB437_438 ((cf NB437_438 (hHeld.1)))), (cf NB437_438 ((cf NB437_438 (hHeld.2.1)))), (cf NB437_438 ((cf NB437_438 (hHeld.2.2.1)))), (cf NB437_438 ((cf NB437_438 (hHeld.2.2.2.1)))), (cf NB437_438 ((cf NB437_438 (hHeld.2.2.2.2.1)))), (cf NB437_438 ((cf NB437_438 (hHeld.2.2.2.2.2.1)))), (cf NB437_438 ((cf NB437_438 (hHeld.2.2.2.2.2.2.1)))), (cf NB437_438 ((cf NB437_438 (hHeld.2.2.2.2.2.2.2.1)))), (cf NB437_438 ((cf NB437_438 (hHeld.2.2.2.2.2.2.2.2.1)))), (cf NB437_438 ((cf NB437_438 (hHeld.2.2.2.2.2.2.2.2.2.1)))), (cf NB437_438 ((cf NB437_438 (hHeld.2.2.2.2.2.2.2.2.2.2.1)))), (cf NB437_438 ((cf NB437_438 (hHeld.2.2.2.2.2.2.2.2.2.2.2))))⟩ (fun hHeld => ?_)
  clear hK K
  refine done_ (done_of HT_.out (by kernel_rfl)) ?_
  try go_wp2
  refine bodyPost_ret (results_cell_row rfl _ _ gb438 24 #[.int .i64 (wrap64 (Int.tdiv a0_6 a0_8)), .int .i64 (wrap64 (Int.tdiv a0_7 a0_8))] (0, 0) _ rfl (qP BK438) Try.underlying24 rfl (by kernel_rfl)) rfl ?_
  exact ⟨qE, qL HB⟩

/-! ### spec_BodyMove: function 23 -/
def spec_BodyMove.f (k : Nat) (a0_0 : Int) (a0_1 : Int) (a0_2 : Int) (a0_3 : Int) (a0_4 : Int) (a0_5 : Int) (a0_6 : Int) (a0_7 : Int) (a0_8 : Int) (a0_9 : Int) (a0_10 : Int) (a0_11 : Int) : Option (Int × Int × Int × Int × Int × Int × Int × Int × Int × Int × Int × Int) := (spec_BodyOk.f k a0_0 a0_1 a0_2 a0_3 a0_4 a0_5 a0_6 a0_7 a0_8 a0_9 a0_10 a0_11).bind fun t441 => (if t441 = true then ((spec_l6Speed.f a0_0 a0_1 a0_2 a0_3 a0_4 a0_5 a0_6 a0_7 a0_8 a0_9 a0_10 a0_11).bind fun bt442 => ((spec_l6Move.f a0_0 a0_1 a0_2 a0_3 a0_4 a0_5 a0_6 a0_7 a0_8 a0_9 a0_10 a0_11 bt442.1 bt442.2).bind fun bt444 => (some (bt444.1, bt444.2.1, bt444.2.2.1, bt444.2.2.2.1, bt444.2.2.2.2.1, bt444.2.2.2.2.2.1, bt444.2.2.2.2.2.2.1, bt444.2.2.2.2.2.2.2.1, bt444.2.2.2.2.2.2.2.2.1, bt444.2.2.2.2.2.2.2.2.2.1, bt444.2.2.2.2.2.2.2.2.2.2.1, bt444.2.2.2.2.2.2.2.2.2.2.2)))) else (some (0, 0, 0, 0, 0, 0, 0, 0, 0, 0, 0, 0)))
theorem spec_BodyMove.mono : ∀ a0 a1 a2 a3 a4 a5 a6 a7 a8 a9 a10 a11 k, LeO (spec_BodyMove.f k a0 a1 a2 a3 a4 a5 a6 a7 a8 a9 a10 a11) (spec_BodyMove.f (k + 1) a0 a1 a2 a3 a4 a5 a6 a7 a8 a9 a10 a11) := by
  intro a0 a1 a2 a3 a4 a5 a6 a7 a8 a9 a10 a11 k
  unfold spec_BodyMove.f
  repeat' first
      | (with_reducible exact spec_BodyOk.mono _ _ _ _ _ _ _ _ _ _ _ _ _)
      | (with_reducible exact LeO.refl _)
      | (with_reducible exact LeO.none _)
      | (with_reducible refine LeO.ite ?_ ?_)
      | (with_reducible refine LeO.bind ?_ (fun _ => ?_))
set_option maxHeartbeats 8000000 in
set_option maxRecDepth 100000 in
theorem spec_BodyMove.calls (k : Nat) (a0_0 : Int) (a0_1 : Int) (a0_2 : Int) (a0_3 : Int) (a0_4 : Int) (a0_5 : Int) (a0_6 : Int) (a0_7 : Int) (a0_8 : Int) (a0_9 : Int) (a0_10 : Int) (a0_11 : Int) (r1 : Int) (r2 : Int) (r3 : Int) (r4 : Int) (r5 : Int) (r6 : Int) (r7 : Int) (r8 : Int) (r9 : Int) (r10 : Int) (r11 : Int) (r12 : Int) (w : World) (h : spec_BodyMove.f k a0_0 a0_1 a0_2 a0_3 a0_4 a0_5 a0_6 a0_7 a0_8 a0_9 a0_10 a0_11 = some (r1, r2, r3, r4, r5, r6, r7, r8, r9, r10, r11, r12)) :
    Calls Try.prog 23 #[.agg #[.int .i64 a0_0, .int .i64 a0_1, .int .i64 a0_2, .int .i64 a0_3, .int .i64 a0_4, .int .i64 a0_5, .int .i64 a0_6, .int .i64 a0_7, .int .i64 a0_8, .int .i64 a0_9, .int .i64 a0_10, .int .i64 a0_11]] w fun e w' => e = .returned (.agg #[.int .i64 r1, .int .i64 r2, .int .i64 r3, .int .i64 r4, .int .i64 r5, .int .i64 r6, .int .i64 r7, .int .i64 r8, .int .i64 r9, .int .i64 r10, .int .i64 r11, .int .i64 r12]) ∧ Below w.heap.size w w' := by
  have hu40 := Try.underlying40
  have HB := az (Below.refl w.heap.size w)
  have H : ((spec_BodyOk.f k a0_0 a0_1 a0_2 a0_3 a0_4 a0_5 a0_6 a0_7 a0_8 a0_9 a0_10 a0_11).bind fun t441 => (if t441 = true then ((spec_l6Speed.f a0_0 a0_1 a0_2 a0_3 a0_4 a0_5 a0_6 a0_7 a0_8 a0_9 a0_10 a0_11).bind fun bt442 => ((spec_l6Move.f a0_0 a0_1 a0_2 a0_3 a0_4 a0_5 a0_6 a0_7 a0_8 a0_9 a0_10 a0_11 bt442.1 bt442.2).bind fun bt444 => (some (bt444.1, bt444.2.1, bt444.2.2.1, bt444.2.2.2.1, bt444.2.2.2.2.1, bt444.2.2.2.2.2.1, bt444.2.2.2.2.2.2.1, bt444.2.2.2.2.2.2.2.1, bt444.2.2.2.2.2.2.2.2.1, bt444.2.2.2.2.2.2.2.2.2.1, bt444.2.2.2.2.2.2.2.2.2.2.1, bt444.2.2.2.2.2.2.2.2.2.2.2)))) else (some (0, 0, 0, 0, 0, 0, 0, 0, 0, 0, 0, 0)))) = some (r1, r2, r3, r4, r5, r6, r7, r8, r9, r10, r11, r12) := h
  clear h
  replace H := qH H
  obtain ⟨t441, A2, H⟩ := H
  try dsimp only at H
  by_cases c3 : t441 = true
  · subst c3
    replace H := qT H
    replace H := qH H
    obtain ⟨⟨t442, t443⟩, A4, H⟩ := H
    try dsimp only at H
    replace H := qH H
    obtain ⟨⟨t444, t445, t446, t447, t448, t449, t450, t451, t452, t453, t454, t455⟩, A5, H⟩ := H
    try dsimp only at H
    simp only [Option.some.injEq, Prod.mk.injEq] at H
    obtain ⟨rfl, rfl, rfl, rfl, rfl, rfl, rfl, rfl, rfl, rfl, rfl, rfl⟩ := H
    go_enter Try.func23, Try.ntmps23
    try go_wp2_with (first | ((with_reducible refine gate_dst (N := 1) rfl ?_); refine bx (N := 1) (cs := #[.int .i64 a0_0, .int .i64 a0_1, .int .i64 a0_2, .int .i64 a0_3, .int .i64 a0_4, .int .i64 a0_5, .int .i64 a0_6, .int .i64 a0_7, .int .i64 a0_8, .int .i64 a0_9, .int .i64 a0_10, .int .i64 a0_11]) (t := 40) ?_; intro gb439 hg w6 hbox hb; have BK439 := az hbox; have GW439 := az ((gE hg (qL HB) : w.heap.size ≤ gb439)); have GE439 := GW439; replace HB := bS HB hb; clear hb hbox hg) | ((with_reducible refine gate_dst (N := 2) rfl ?_); refine bx (N := 2) (cs := #[.int .i64 0, .int .i64 0, .int .i64 0, .int .i64 0, .int .i64 0, .int .i64 0, .int .i64 0, .int .i64 0, .int .i64 0, .int .i64 0, .int .i64 0, .int .i64 0]) (t := 40) ?_; intro gb440 hg w7 hbox hb; have BK440 := az hbox; have GW440 := az ((gE hg (qL HB) : w.heap.size ≤ gb440)); have GE440 := GW440; obtain ⟨NB439_440, NB440_439⟩ := nPB BK439 hg; replace BK439 := kBB BK439 hb; replace HB := bS HB hb; clear hb hbox hg; have hnb8 := NB439_440.out; have hnc8 := NB440_439.out; obtain ⟨hcz9_0, hcz9_1, hcz9_2, hcz9_3, hcz9_4, hcz9_5, hcz9_6, hcz9_7, hcz9_8, hcz9_9, hcz9_10, hcz9_11⟩ := cz12 BK439.out; obtain ⟨hfz9_0, hfz9_1, hfz9_2, hfz9_3, hfz9_4, hfz9_5, hfz9_6, hfz9_7, hfz9_8, hfz9_9, hfz9_10, hfz9_11⟩ := fz12 BK439.out) | ((with_reducible refine gate_callee (f := 26) rfl ?_); refine gl (some 4) Try.func26 #[.agg #[.int .i64 a0_0, .int .i64 a0_1, .int .i64 a0_2, .int .i64 a0_3, .int .i64 a0_4, .int .i64 a0_5, .int .i64 a0_6, .int .i64 a0_7, .int .i64 a0_8, .int .i64 a0_9, .int .i64 a0_10, .int .i64 a0_11]] ?_; (with_reducible refine (spec_BodyOk.calls k a0_0 a0_1 a0_2 a0_3 a0_4 a0_5 a0_6 a0_7 a0_8 a0_9 a0_10 a0_11 true _ A2.out).mono ?_); rintro e w10 ⟨rfl, hb⟩; refine ⟨_, rfl, ?_⟩; replace BK439 := kBB BK439 hb; replace BK440 := kBB BK440 hb; replace HB := bS HB hb; clear hb))
    replace BK439 := az (blk_drew BK439.out)
    replace BK440 := az (blk_drew BK440.out)
    replace HB := az (below_drew1 HB.out)
    refine start_ (n := 5) (S := fun w' => w'.cell? ⟨gb439, 0, none⟩ = some (.int .i64 a0_0) ∧ w'.cell? ⟨gb439, 1, none⟩ = some (.int .i64 a0_1) ∧ w'.cell? ⟨gb439, 2, none⟩ = some (.int .i64 a0_2) ∧ w'.cell? ⟨gb439, 3, none⟩ = some (.int .i64 a0_3) ∧ w'.cell? ⟨gb439, 4, none⟩ = some (.int .i64 a0_4) ∧ w'.cell? ⟨gb439, 5, none⟩ = some (.int .i64 a0_5) ∧ w'.cell? ⟨gb439, 6, none⟩ = some (.int .i64 a0_6) ∧ w'.cell? ⟨gb439, 7, none⟩ = some (.int .i64 a0_7) ∧ w'.cell? ⟨gb439, 8, none⟩ = some (.int .i64 a0_8) ∧ w'.cell? ⟨gb439, 9, none⟩ = some (.int .i64 a0_9) ∧ w'.cell? ⟨gb439, 10, none⟩ = some (.int .i64 a0_10) ∧ w'.cell? ⟨gb439, 11, none⟩ = some (.int .i64 a0_11)) (ds := []) #[false, false, false, false, false] (by kernel_rfl) rfl rfl ⟨bc BK439 0, bc BK439 1, bc BK439 2, bc BK439 3, bc BK439 4, bc BK439 5, bc BK439 6, bc BK439 7, bc BK439 8, bc BK439 9, bc BK439 10, bc BK439 11⟩ (fun hHeld => ?_)
    generalize w10.drew = w11 at BK439 BK440 HB hHeld ⊢
    refine take_ (i := 0) (N := some 7) (v := ?_) (a' := ?_) #[true, false, false, false, false] rfl rfl (by kernel_rfl) (fun _ _ _ h => h) (Or.inl ⟨by rfl, ?_⟩) hHeld ?_ ?_
    rotate_left
    · rintro w' ⟨s0, s1, s2, s3, s4, s5, s6, s7, s8, s9, s10, s11⟩
      go_simp
      with_reducible rfl
    rotate_left
    · simp only [Act.put, List.setIfInBounds_toArray, List.set_cons_zero, List.set_cons_succ, i64_w, i32_w]
      rfl
    refine take_ (i := 1) (N := some 8) (v := ?_) (a' := ?_) #[true, true, false, false, false] rfl rfl (by kernel_rfl) (fun _ _ _ h => h) (Or.inl ⟨by rfl, ?_⟩) hHeld ?_ ?_
    rotate_left
    · rintro w' ⟨s0, s1, s2, s3, s4, s5, s6, s7, s8, s9, s10, s11⟩
      go_simp
      with_reducible rfl
    rotate_left
    · simp only [Act.put, List.setIfInBounds_toArray, List.set_cons_zero, List.set_cons_succ, i64_w, i32_w]
      rfl
    refine one_ (i := 2) (N := some 9) #[true, true, true, false, false] rfl rfl (by kernel_rfl) (by decide) (fun K hK => ?_)
    refine go1 Try.func56 #[.agg #[.int .i64 a0_0, .int .i64 a0_1, .int .i64 a0_2, .int .i64 a0_3, .int .i64 a0_4, .int .i64 a0_5, .int .i64 a0_6, .int .i64 a0_7, .int .i64 a0_8, .int .i64 a0_9, .int .i64 a0_10, .int .i64 a0_11]] ?_
    with_reducible refine (spec_l6Speed.calls a0_0 a0_1 a0_2 a0_3 a0_4 a0_5 a0_6 a0_7 a0_8 a0_9 a0_10 a0_11 t442 t443 _ A4.out).mono ?_
    rintro e w12 ⟨rfl, hb⟩
    refine ⟨_, rfl, ?_⟩
    replace BK439 := kBB BK439 hb
    replace BK440 := kBB BK440 hb
    replace HB := bS HB hb
    clear hb
    refine hK.out _ _ ⟨bc BK439 0, bc BK439 1, bc BK439 2, bc BK439 3, bc BK439 4, bc BK439 5, bc BK439 6, bc BK439 7, bc BK439 8, bc BK439 9, bc BK439 10, bc BK439 11⟩ (fun hHeld => ?_)
    clear hK K
    refine nm (some 9) ?_
    refine one_ (i := 3) (N := some 10) #[true, true, true, true, false] rfl rfl (by kernel_rfl) (by decide) (fun K hK => ?_)
    refine go1 Try.func55 #[.agg #[.int .i64 a0_0, .int .i64 a0_1, .int .i64 a0_2, .int .i64 a0_3, .int .i64 a0_4, .int .i64 a0_5, .int .i64 a0_6, .int .i64 a0_7, .int .i64 a0_8, .int .i64 a0_9, .int .i64 a0_10, .int .i64 a0_11], .agg #[.int .i64 t442, .int .i64 t443]] ?_
    with_reducible refine (spec_l6Move.calls a0_0 a0_1 a0_2 a0_3 a0_4 a0_5 a0_6 a0_7 a0_8 a0_9 a0_10 a0_11 t442 t443 t444 t445 t446 t447 t448 t449 t450 t451 t452 t453 t454 t455 _ A5.out).mono ?_
    rintro e w13 ⟨rfl, hb⟩
    refine ⟨_, rfl, ?_⟩
    replace BK439 := kBB BK439 hb
    replace BK440 := kBB BK440 hb
    replace HB := bS HB hb
    clear hb
    refine hK.out _ _ ⟨bc BK439 0, bc BK439 1, bc BK439 2, bc BK439 3, bc BK439 4, bc BK439 5, bc BK439 6, bc BK439 7, bc BK439 8, bc BK439 9, bc BK439 10, bc BK439 11⟩ (fun hHeld => ?_)
    clear hK K
    refine nm (some 10) ?_
    refine one_ (i := 4) (N := none) #[true, true, true, true, true] rfl rfl (by kernel_rfl) (by decide) (fun K hK => ?_)
    have hs14 : w13.cell? ⟨gb440, 0, none⟩ = some (.int .i64 0) := bc BK440 0
    have hfs14 := blk_frozen BK440.out 0
    have hns14_0 := NB439_440.out
    have hms14_0 := NB440_439.out
    have hs15 : w13.cell? ⟨gb440, 1, none⟩ = some (.int .i64 0) := bc BK440 1
    have hfs15 := blk_frozen BK440.out 1
    have hns15_0 := NB439_440.out
    have hms15_0 := NB440_439.out
    have hs16 : w13.cell? ⟨gb440, 2, none⟩ = some (.int .i64 0) := bc BK440 2
    have hfs16 := blk_frozen BK440.out 2
    have hns16_0 := NB439_440.out
    have hms16_0 := NB440_439.out
    have hs17 : w13.cell? ⟨gb440, 3, none⟩ = some (.int .i64 0) := bc BK440 3
    have hfs17 := blk_frozen BK440.out 3
    have hns17_0 := NB439_440.out
    have hms17_0 := NB440_439.out
    have hs18 : w13.cell? ⟨gb440, 4, none⟩ = some (.int .i64 0) := bc BK440 4
    have hfs18 := blk_frozen BK440.out 4
    have hns18_0 := NB439_440.out
    have hms18_0 := NB440_439.out
    have hs19 : w13.cell? ⟨gb440, 5, none⟩ = some (.int .i64 0) := bc BK440 5
    have hfs19 := blk_frozen BK440.out 5
    have hns19_0 := NB439_440.out
    have hms19_0 := NB440_439.out
    have hs20 : w13.cell? ⟨gb440, 6, none⟩ = some (.int .i64 0) := bc BK440 6
    have hfs20 := blk_frozen BK440.out 6
    have hns20_0 := NB439_440.out
    have hms20_0 := NB440_439.out
    have hs21 : w13.cell? ⟨gb440, 7, none⟩ = some (.int .i64 0) := bc BK440 7
    have hfs21 := blk_frozen BK440.out 7
    have hns21_0 := NB439_440.out
    have hms21_0 := NB440_439.out
    have hs22 : w13.cell? ⟨gb440, 8, none⟩ = some (.int .i64 0) := bc BK440 8
    have hfs22 := blk_frozen BK440.out 8
    have hns22_0 := NB439_440.out
    have hms22_0 := NB440_439.out
    have hs23 : w13.cell? ⟨gb440, 9, none⟩ = some (.int .i64 0) := bc BK440 9
    have hfs23 := blk_frozen BK440.out 9
    have hns23_0 := NB439_440.out
    have hms23_0 := NB440_439.out
    have hs24 : w13.cell? ⟨gb440, 10, none⟩ = some (.int .i64 0) := bc BK440 10
    have hfs24 := blk_frozen BK440.out 10
    have hns24_0 := NB439_440.out
    have hms24_0 := NB440_439.out
    have hs25 : w13.cell? ⟨gb440, 11, none⟩ = some (.int .i64 0) := bc BK440 11
    have hfs25 := blk_frozen BK440.out 11
    have hns25_0 := NB439_440.out
    have hms25_0 := NB440_439.out
    refine skip_ (w1 := ?_) ?hw ?hn ?_ ?_; (case hw => unfold Region.wanted; rfl); (case hn => rfl)
    rotate_left
    · go_simp
      rfl
    refine hK.out _ _ ⟨(cf NB439_440 ((cf NB439_440 ((cf NB439_440 ((cf NB439_440 ((cf NB439_440 ((cf NB439_440 ((cf NB439_440 ((cf NB439_440 ((cf NB439_440 ((cf NB439_440 ((cf NB439_440 ((cf NB439_440 (hHeld.1)))))))))))))))))))))))), (cf NB439_440 ((cf NB439_440 ((cf NB439_440 ((cf NB439_440 ((cf NB439_440 ((cf NB439_440 ((cf NB439_440 ((cf NB439_440 ((cf NB439_440 ((cf NB439_440 ((cf NB439_440 ((cf NB439_440 (hHeld.2.1)))))))))))))))))))))))), (cf NB439_440 ((cf NB439_440 ((cf NB439_440 ((cf NB439_440 ((cf NB439_440 ((cf NB439_440 ((cf NB439_440 ((cf NB439_440 ((cf NB439_440 ((cf NB439_440 ((cf NB439_440 ((cf NB439_440 (hHeld.2.2.1)))))))))))))))))))))))), (cf NB439_440 ((cf NB439_440 ((cf NB439_440 ((cf NB439_440 ((cf NB439_440 ((cf NB439_440 ((cf NB439_440 ((cf NB439_440 ((cf NB439_440 ((cf NB439_440 ((cf NB439_440 ((cf NB439_440 (hHeld.2.2.2.1)))))))))))))))))))))))), (cf NB439_440 ((cf NB439_440 ((cf NB439_440 ((cf NB439_440 ((cf NB439_440 ((cf NB439_440 ((cf NB439_440 ((cf NB439_440 ((cf NB439_440 ((cf NB439_440 ((cf NB439_440 ((cf NB439_440 (hHeld.2.2.2.2.1)))))))))))))))))))))))), (cf NB439_440 ((cf NB439_440 ((cf NB439_440 ((cf NB439_440 ((cf NB439_440 ((cf NB439_440 ((cf NB439_440 ((cf NB439_440 ((cf NB439_440 ((cf NB439_440 ((cf NB439_440 ((cf NB439_440 (hHeld.2.2.2.2.2.1)))))))))))))))))))))))), (cf NB439_440 ((cf NB439_440 ((cf NB439_440 ((cf NB439_440 ((cf NB439_440 ((cf NB439_440 ((cf NB439_440 ((cf NB439_440 ((cf NB439_440 ((cf NB439_440 ((cf NB439_440 ((cf NB439_440 (hHeld.2.2.2.2.2.2.1)))))))))))))))))))))))), (cf NB439_440 ((cf NB439_440 ((cf NB439_440 ((cf NB439_440 ((cf NB439_440 ((cf NB439_440 ((cf NB439_440 ((cf NB439_440 ((cf NB439_440 ((cf NB439_440 ((cf NB439_440 ((cf NB439_440 (hHeld.2.2.2.2.2.2.2.1)))))))))))))))))))))))), (cf NB439_440 ((cf NB439_440 ((cf NB439_440 ((cf NB439_440 ((cf NB439_440 ((cf NB439_440 ((cf NB439_440 ((cf NB439_440 ((cf NB439_440 ((cf NB439_440 ((cf NB439_440 ((cf NB439_440 (hHeld.2.2.2.2.2.2.2.2.1)))))))))))))))))))))))), (cf NB439_440 ((cf NB439_440 ((cf NB439_440 ((cf NB439_440 ((cf NB439_440 ((cf NB439_440 ((cf NB439_440 ((cf NB439_440 ((cf NB439_440 ((cf NB439_440 ((cf NB439_440 ((cf NB439_440 (hHeld.2.2.2.2.2.2.2.2.2.1)))))))))))))))))))))))), (cf NB439_440 ((cf NB439_440 ((cf NB439_440 ((cf NB439_440 ((cf NB439_440 ((cf NB439_440 ((cf NB439_440 ((cf NB439_440 ((cf NB439_440 ((cf NB439_440 ((cf NB439_440 ((cf NB439_440 (hHeld.2.2.2.2.2.2.2.2.2.2.1)))))))))))))))))))))))), (cf NB439_440 ((cf NB439_440 ((cf NB439_440 ((cf NB439_440 ((cf NB439_440 ((cf NB439_440 ((cf NB439_440 ((cf NB439_440 ((cf NB439_440 ((cf NB439_440 ((cf NB439_440 ((cf NB439_440 (hHeld.2.2.2.2.2.2.2.2.2.2.2))))))))))))))))))))))))⟩ (fun hHeld => ?_)
    clear hK K
    refine done_ (by kernel_rfl) ?_
    try go_wp2
    refine bodyPost_ret (results_cell_row rfl _ _ gb440 40 #[.int .i64 t444, .int .i64 t445, .int .i64 t446, .int .i64 t447, .int .i64 t448, .int .i64 t449, .int .i64 t450, .int .i64 t451, .int .i64 t452, .int .i64 t453, .int .i64 t454, .int .i64 t455] (0, 0) _ rfl (qP BK440) Try.underlying40 rfl (by kernel_rfl)) rfl ?_
    exact ⟨qE, qL HB⟩
  replace c3 := Bool.eq_false_iff.mpr c3
  subst c3
  replace H := qU H
  simp only [Option.some.injEq, Prod.mk.injEq] at H
  obtain ⟨rfl, rfl, rfl, rfl, rfl, rfl, rfl, rfl, rfl, rfl, rfl, rfl⟩ := H
  go_enter Try.func23, Try.ntmps23
  go_wp2_with (first | ((with_reducible refine gate_dst (N := 1) rfl ?_); refine bx (N := 1) (cs := #[.int .i64 a0_0, .int .i64 a0_1, .int .i64 a0_2, .int .i64 a0_3, .int .i64 a0_4, .int .i64 a0_5, .int .i64 a0_6, .int .i64 a0_7, .int .i64 a0_8, .int .i64 a0_9, .int .i64 a0_10, .int .i64 a0_11]) (t := 40) ?_; intro gb439 hg w26 hbox hb; have BK439 := az hbox; have GW439 := az ((gE hg (qL HB) : w.heap.size ≤ gb439)); have GE439 := GW439; replace HB := bS HB hb; clear hb hbox hg) | ((with_reducible refine gate_dst (N := 2) rfl ?_); refine bx (N := 2) (cs := #[.int .i64 0, .int .i64 0, .int .i64 0, .int .i64 0, .int .i64 0, .int .i64 0, .int .i64 0, .int .i64 0, .int .i64 0, .int .i64 0, .int .i64 0, .int .i64 0]) (t := 40) ?_; intro gb440 hg w27 hbox hb; have BK440 := az hbox; have GW440 := az ((gE hg (qL HB) : w.heap.size ≤ gb440)); have GE440 := GW440; obtain ⟨NB439_440, NB440_439⟩ := nPB BK439 hg; replace BK439 := kBB BK439 hb; replace HB := bS HB hb; clear hb hbox hg; have hnb28 := NB439_440.out; have hnc28 := NB440_439.out; obtain ⟨hcz29_0, hcz29_1, hcz29_2, hcz29_3, hcz29_4, hcz29_5, hcz29_6, hcz29_7, hcz29_8, hcz29_9, hcz29_10, hcz29_11⟩ := cz12 BK439.out; obtain ⟨hfz29_0, hfz29_1, hfz29_2, hfz29_3, hfz29_4, hfz29_5, hfz29_6, hfz29_7, hfz29_8, hfz29_9, hfz29_10, hfz29_11⟩ := fz12 BK439.out) | ((with_reducible refine gate_callee (f := 26) rfl ?_); refine gl (some 4) Try.func26 #[.agg #[.int .i64 a0_0, .int .i64 a0_1, .int .i64 a0_2, .int .i64 a0_3, .int .i64 a0_4, .int .i64 a0_5, .int .i64 a0_6, .int .i64 a0_7, .int .i64 a0_8, .int .i64 a0_9, .int .i64 a0_10, .int .i64 a0_11]] ?_; (with_reducible refine (spec_BodyOk.calls k a0_0 a0_1 a0_2 a0_3 a0_4 a0_5 a0_6 a0_7 a0_8 a0_9 a0_10 a0_11 false _ A2.out).mono ?_); rintro e w30 ⟨rfl, hb⟩; refine ⟨_, rfl, ?_⟩; replace BK439 := kBB BK439 hb; replace BK440 := kBB BK440 hb; replace HB := bS HB hb; clear hb; obtain ⟨hcz31_0, hcz31_1, hcz31_2, hcz31_3, hcz31_4, hcz31_5, hcz31_6, hcz31_7, hcz31_8, hcz31_9, hcz31_10, hcz31_11⟩ := cz12 BK440.out; obtain ⟨hfz31_0, hfz31_1, hfz31_2, hfz31_3, hfz31_4, hfz31_5, hfz31_6, hfz31_7, hfz31_8, hfz31_9, hfz31_10, hfz31_11⟩ := fz12 BK440.out))
  refine bodyPost_ret (results_cell_row rfl _ _ gb440 40 #[.int .i64 0, .int .i64 0, .int .i64 0, .int .i64 0, .int .i64 0, .int .i64 0, .int .i64 0, .int .i64 0, .int .i64 0, .int .i64 0, .int .i64 0, .int .i64 0] (0, 0) _ rfl (qP BK440) Try.underlying40 rfl (by kernel_rfl)) rfl ?_
  exact ⟨qE, qL HB⟩

/-! ### spec_l2Square: function 100 -/
def spec_l2Square.f (a0_0 : Int) (a0_1 : Int) : Option (Int) := some (wrap64 ((wrap64 (a0_0 * a0_0)) + (wrap64 (a0_1 * a0_1))))
set_option maxHeartbeats 8000000 in
set_option maxRecDepth 100000 in
theorem spec_l2Square.calls (a0_0 : Int) (a0_1 : Int) (r : Int) (w : World) (h : spec_l2Square.f a0_0 a0_1 = some r) :
    Calls Try.prog 100 #[.agg #[.int .i64 a0_0, .int .i64 a0_1]] w fun e w' => e = .returned (.int .i64 r) ∧ Below w.heap.size w w' := by
  have hu24 := Try.underlying24
  have HB := az (Below.refl w.heap.size w)
  have H : (some (wrap64 ((wrap64 (a0_0 * a0_0)) + (wrap64 (a0_1 * a0_1))))) = some r := h
  clear h
  obtain rfl := Option.some.inj H
  go_enter Try.func100, Try.ntmps100
  go_wp2_with (first | ((with_reducible refine gate_dst (N := 1) rfl ?_); refine bx (N := 1) (cs := #[.int .i64 a0_0, .int .i64 a0_1]) (t := 24) ?_; intro gb882 hg w2 hbox hb; have BK882 := az hbox; have GW882 := az ((gE hg (qL HB) : w.heap.size ≤ gb882)); have GE882 := GW882; replace HB := bS HB hb; clear hb hbox hg; obtain ⟨hcz3_0, hcz3_1⟩ := cz2 BK882.out; have hfz3_0 := blk_frozen BK882.out 0; have hfz3_1 := blk_frozen BK882.out 1))
  go_ret
  exact ⟨qE, qL HB⟩

/-! ### spec_FixClamp: function 108 -/
def spec_FixClamp.f (a0 : Int) : Option (Int) := if a0 > 1000000000 then (some 1000000000) else (if a0 < (-1000000000) then (some (-1000000000)) else (some a0))
set_option maxHeartbeats 8000000 in
set_option maxRecDepth 100000 in
theorem spec_FixClamp.calls (a0 : Int) (r : Int) (w : World) (h : spec_FixClamp.f a0 = some r) :
    Calls Try.prog 108 #[.int .i64 a0] w fun e w' => e = .returned (.int .i64 r) ∧ Drawn0 w w' := by
  have H : (if a0 > 1000000000 then (some 1000000000) else (if a0 < (-1000000000) then (some (-1000000000)) else (some a0))) = some r := h
  clear h
  by_cases c2 : a0 > 1000000000
  · rw [if_pos c2] at H
    have c2b0 : decide (1000000000 < a0) = true := decide_eq_true c2
    clear c2
    obtain rfl := Option.some.inj H
    go_enter Try.func108, Try.ntmps108
    go_wp2
    go_ret
    exact ⟨by first | rfl | (simp; done) | (simp [*]; done), by repeat (first | exact Drawn0.refl _ | apply Drawn0.step)⟩
  rw [if_neg c2] at H
  have c2b0 : decide (1000000000 < a0) = false := decide_eq_false c2
  clear c2
  by_cases c3 : a0 < (-1000000000)
  · rw [if_pos c3] at H
    have c3b0 : decide (a0 < (-1000000000)) = true := decide_eq_true c3
    clear c3
    obtain rfl := Option.some.inj H
    go_enter Try.func108, Try.ntmps108
    go_wp2
    go_ret
    exact ⟨by first | rfl | (simp; done) | (simp [*]; done), by repeat (first | exact Drawn0.refl _ | apply Drawn0.step)⟩
  rw [if_neg c3] at H
  have c3b0 : decide (a0 < (-1000000000)) = false := decide_eq_false c3
  clear c3
  obtain rfl := Option.some.inj H
  go_enter Try.func108, Try.ntmps108
  go_wp2
  go_ret
  exact ⟨by first | rfl | (simp; done) | (simp [*]; done), by repeat (first | exact Drawn0.refl _ | apply Drawn0.step)⟩
end Go.Proofs.Ytihajbjkjclmoaa.PBig
