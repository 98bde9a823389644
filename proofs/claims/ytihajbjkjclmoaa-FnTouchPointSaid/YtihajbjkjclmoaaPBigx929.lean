/- What these functions compute, each walked once: impl_boxRound, impl_Vec_opposite; for all arguments and worlds, under the conditions that each theorem names. -/
import Derived.Test.YtihajbjkjclmoaaSq
import Derived.Test.YtihajbjkjclmoaaPBigx907
import Derived.Test.YtihajbjkjclmoaaPBigx927
import Derived.Test.YtihajbjkjclmoaaPBigx928
namespace Go.Proofs.Ytihajbjkjclmoaa.PBig
open Go.RowKit Go.Proofs.YtihajbjkjclmoaaW.PrintWords Go.Proofs.YtihajbjkjclmoaaW.PrintLast Go.Proofs.YtihajbjkjclmoaaW.PrintMore
attribute [local go_sem] max2_int min2_int max_two min_two max_three min_three max_four min_four   -- for this text's walks alone
set_option linter.unusedVariables false
set_option linter.unusedSimpArgs false

theorem rnL_impl_boxRound {P : Program} {ops : Array Oper} {Q : Exit → Act → World → Prop} {l : List Oper} {a : Act} {W : World} (K : World → Prop) (f : K W) (h : ∀ w', K w' → wpList P ops Q l a w') : wpList P ops Q l a W := h W f

/-! ### impl_boxRound: function 77 -/
def impl_boxRound.f (k : Nat) (a0_0 : Int) (a0_1 : Int) (a0_2 : Int) (a0_3 : Int) (a1_0 : Int) (a1_1 : Int) (a2 : Int) : Option (Int × Int × Int × Bool) := (impl_Box_has.f a0_0 a0_1 a0_2 a0_3 a1_0 a1_1).bind fun t1047 => (if t1047 = true then ((impl_boxes.f k a0_0 a0_1 a0_2 a0_3 a1_0 a1_1 a1_0 a1_1).bind fun bt1048 => (some (bt1048.1, bt1048.2.1, wrap64 (bt1048.2.2.1 + a2), bt1048.2.2.2))) else ((impl_Box_near.f a0_0 a0_1 a0_2 a0_3 a1_0 a1_1).bind fun bt1053 => ((impl_rounds.f k bt1053.1 bt1053.2 0 a1_0 a1_1 a2).bind fun bt1055 => (some (bt1055.1, bt1055.2.1, bt1055.2.2.1, bt1055.2.2.2)))))
theorem impl_boxRound.mono : ∀ a0 a1 a2 a3 a4 a5 a6 k, LeO (impl_boxRound.f k a0 a1 a2 a3 a4 a5 a6) (impl_boxRound.f (k + 1) a0 a1 a2 a3 a4 a5 a6) := by
  intro a0 a1 a2 a3 a4 a5 a6 k
  unfold impl_boxRound.f
  repeat' first
      | (with_reducible exact impl_boxes.mono _ _ _ _ _ _ _ _ _)
      | (with_reducible exact impl_rounds.mono _ _ _ _ _ _ _)
      | (with_reducible exact LeO.refl _)
      | (with_reducible exact LeO.none _)
      | (with_reducible refine LeO.ite ?_ ?_)
      | (with_reducible refine LeO.bind ?_ (fun _ => ?_))
def impl_boxRound.T2 : Bool × List (List Nat × List Nat) := (true, [([], []), ([], []), ([0, 1], [0, 1]), ([], []), ([], []), ([2, 3, 4, 2], [2, 3, 4]), ([5], [5]), ([5], [5]), ([6, 5, 0, 1, 2, 3, 4, 5, 6, 7], [6]), ([7, 8, 0, 1, 2, 3, 4, 5, 6, 7, 8], [7])])
def impl_boxRound.B2 : List Nat := [0, 0, 3, 0, 0, 31, 63, 63, 255, 511]
theorem impl_boxRound.tab2 : rtab .any (opsOf Try.f77 2) = impl_boxRound.T2 := by kernel_rfl
theorem impl_boxRound.bits2 : waitsOk impl_boxRound.T2.2 impl_boxRound.B2 = true := by kernel_rfl
set_option maxHeartbeats 8000000 in
set_option maxRecDepth 100000 in
theorem impl_boxRound.calls (k : Nat) (a0_0 : Int) (a0_1 : Int) (a0_2 : Int) (a0_3 : Int) (a1_0 : Int) (a1_1 : Int) (a2 : Int) (r1 : Int) (r2 : Int) (r3 : Int) (r4 : Bool) (w : World) (h : impl_boxRound.f k a0_0 a0_1 a0_2 a0_3 a1_0 a1_1 a2 = some (r1, r2, r3, r4)) :
    Calls Try.prog 77 #[.agg #[.int .i64 a0_0, .int .i64 a0_1, .int .i64 a0_2, .int .i64 a0_3], .agg #[.int .i64 a1_0, .int .i64 a1_1], .int .i64 a2] w fun e w' => e = .returned (.tuple #[.agg #[.int .i64 r1, .int .i64 r2, .int .i64 r3], .bool r4]) ∧ Below w.heap.size w w' := by
  have hu26 := Try.underlying26
  have hu24 := Try.underlying24
  have hu56 := Try.underlying56
  have HB := az (Below.refl w.heap.size w)
  have H : ((impl_Box_has.f a0_0 a0_1 a0_2 a0_3 a1_0 a1_1).bind fun t1047 => (if t1047 = true then ((impl_boxes.f k a0_0 a0_1 a0_2 a0_3 a1_0 a1_1 a1_0 a1_1).bind fun bt1048 => (some (bt1048.1, bt1048.2.1, wrap64 (bt1048.2.2.1 + a2), bt1048.2.2.2))) else ((impl_Box_near.f a0_0 a0_1 a0_2 a0_3 a1_0 a1_1).bind fun bt1053 => ((impl_rounds.f k bt1053.1 bt1053.2 0 a1_0 a1_1 a2).bind fun bt1055 => (some (bt1055.1, bt1055.2.1, bt1055.2.2.1, bt1055.2.2.2)))))) = some (r1, r2, r3, r4) := h
  clear h
  replace H := qH H
  obtain ⟨t1047, A4, H⟩ := H
  try dsimp only at H
  by_cases c5 : t1047 = true
  · subst c5
    replace H := qT H
    replace H := qH H
    obtain ⟨⟨t1048, t1049, t1050, t1051⟩, A6, H⟩ := H
    try dsimp only at H
    simp only [Option.some.injEq, Prod.mk.injEq] at H
    obtain ⟨rfl, rfl, rfl, rfl⟩ := H
    go_enter Try.func77, Try.ntmps77
    go_wp2_with (first | ((with_reducible refine gate_dst (N := 35) rfl ?_); refine rnL_impl_boxRound (fun w_ => w_.heap[gb1052]? = some (.cells #[.int .i64 t1048, .int .i64 t1049, .int .i64 (wrap64 (t1050 + a2))] 56 (0, 0)) ∧ w_.heap[gb1046]? = some (.cells #[.int .i64 0, .int .i64 0, .int .i64 0] 56 (0, 0)) ∧ Below w.heap.size w w_) ⟨qP BK1052, qF BK1046, qL HB⟩ ?_; clear BK1052 BK1046 HB; rintro w35_ ⟨n0_, n1_, n2_⟩; have BK1052 := az n0_; have BK1046 := az n1_; have HB := az n2_; clear n0_ n1_ n2_; obtain ⟨z35_1052_0, z35_1052_1, z35_1052_2⟩ := cz3 BK1052.out; obtain ⟨f35_1052_0, f35_1052_1, f35_1052_2⟩ := fz3 BK1052.out; obtain ⟨z35_1046_0, z35_1046_1, z35_1046_2⟩ := cz3 BK1046.out; obtain ⟨f35_1046_0, f35_1046_1, f35_1046_2⟩ := fz3 BK1046.out; go_step) | ((with_reducible refine gate_dst (N := 3) rfl ?_); refine bx (N := 3) (cs := #[.int .i64 a0_0, .int .i64 a0_1, .int .i64 a0_2, .int .i64 a0_3]) (t := 26) ?_; intro gb1044 hg w7 hbox hb; have BK1044 := az hbox; have GW1044 := az ((gE hg (qL HB) : w.heap.size ≤ gb1044)); have GE1044 := GW1044; replace HB := bS HB hb; clear hb hbox hg) | ((with_reducible refine gate_dst (N := 4) rfl ?_); refine bx (N := 4) (cs := #[.int .i64 a1_0, .int .i64 a1_1]) (t := 24) ?_; intro gb1045 hg w8 hbox hb; have BK1045 := az hbox; have GW1045 := az ((gE hg (qL HB) : w.heap.size ≤ gb1045)); have GE1045 := GW1045; obtain ⟨NB1044_1045, NB1045_1044⟩ := nPB BK1044 hg; replace BK1044 := kBB BK1044 hb; replace HB := bS HB hb; clear hb hbox hg) | ((with_reducible refine gate_dst (N := 6) rfl ?_); refine bx (N := 6) (cs := #[.int .i64 0, .int .i64 0, .int .i64 0]) (t := 56) ?_; intro gb1046 hg w9 hbox hb; have BK1046 := az hbox; have GW1046 := az ((gE hg (qL HB) : w.heap.size ≤ gb1046)); have GE1046 := GW1046; obtain ⟨NB1044_1046, NB1046_1044⟩ := nPB BK1044 hg; obtain ⟨NB1045_1046, NB1046_1045⟩ := nPB BK1045 hg; replace BK1044 := kBB BK1044 hb; replace BK1045 := kBB BK1045 hb; replace HB := bS HB hb; clear hb hbox hg; have hnb10 := NB1044_1045.out; have hnc10 := NB1045_1044.out; have hnb11 := NB1044_1046.out; have hnc11 := NB1046_1044.out; obtain ⟨hcz12_0, hcz12_1, hcz12_2, hcz12_3⟩ := cz4 BK1044.out; obtain ⟨hfz12_0, hfz12_1, hfz12_2, hfz12_3⟩ := fz4 BK1044.out; have hnb13 := NB1045_1046.out; have hnc13 := NB1046_1045.out; obtain ⟨hcz14_0, hcz14_1⟩ := cz2 BK1045.out; have hfz14_0 := blk_frozen BK1045.out 0; have hfz14_1 := blk_frozen BK1045.out 1) | ((with_reducible refine gate_callee (f := 48) rfl ?_); refine gl (some 12) Try.func48 #[.agg #[.int .i64 a0_0, .int .i64 a0_1, .int .i64 a0_2, .int .i64 a0_3], .agg #[.int .i64 a1_0, .int .i64 a1_1]] ?_; (with_reducible refine (impl_Box_has.calls a0_0 a0_1 a0_2 a0_3 a1_0 a1_1 true _ A4.out).mono ?_); rintro e w15 ⟨rfl, hb⟩; refine ⟨_, rfl, ?_⟩; replace BK1044 := kBB BK1044 hb; replace BK1045 := kBB BK1045 hb; replace BK1046 := kBB BK1046 hb; replace HB := bS HB hb; clear hb; obtain ⟨hcz16_0, hcz16_1, hcz16_2, hcz16_3⟩ := cz4 BK1044.out; obtain ⟨hfz16_0, hfz16_1, hfz16_2, hfz16_3⟩ := fz4 BK1044.out; obtain ⟨hcz17_0, hcz17_1⟩ := cz2 BK1045.out; have hfz17_0 := blk_frozen BK1045.out 0; have hfz17_1 := blk_frozen BK1045.out 1) | ((with_reducible refine gate_callee (f := 75) rfl ?_); refine gl (some 27) Try.func75 #[.agg #[.int .i64 a0_0, .int .i64 a0_1, .int .i64 a0_2, .int .i64 a0_3], .agg #[.int .i64 a1_0, .int .i64 a1_1, .int .i64 a1_0, .int .i64 a1_1]] ?_; (with_reducible refine (impl_boxes.calls k a0_0 a0_1 a0_2 a0_3 a1_0 a1_1 a1_0 a1_1 t1048 t1049 t1050 t1051 _ A6.out).mono ?_); rintro e w18 ⟨rfl, hb⟩; refine ⟨_, rfl, ?_⟩; replace BK1044 := kBB BK1044 hb; replace BK1045 := kBB BK1045 hb; replace BK1046 := kBB BK1046 hb; replace HB := bS HB hb; clear hb) | ((with_reducible refine gate_dst (N := 8) rfl ?_); refine bx (N := 8) (cs := #[.int .i64 0, .int .i64 0, .int .i64 0]) (t := 56) ?_; intro gb1052 hg w19 hbox hb; have BK1052 := az hbox; have GW1052 := az ((gE hg (qL HB) : w.heap.size ≤ gb1052)); have GE1052 := GW1052; obtain ⟨NB1044_1052, NB1052_1044⟩ := nPB BK1044 hg; obtain ⟨NB1045_1052, NB1052_1045⟩ := nPB BK1045 hg; obtain ⟨NB1046_1052, NB1052_1046⟩ := nPB BK1046 hg; replace BK1044 := kBB BK1044 hb; replace BK1045 := kBB BK1045 hb; replace BK1046 := kBB BK1046 hb; replace HB := bS HB hb; clear hb hbox hg; have hnb20 := NB1052_1044.out; have hnc20 := NB1044_1052.out; have hnb21 := NB1052_1045.out; have hnc21 := NB1045_1052.out; have hnb22 := NB1052_1046.out; have hnc22 := NB1046_1052.out; obtain ⟨hcz23_0, hcz23_1, hcz23_2⟩ := cz3 BK1052.out; obtain ⟨hfz23_0, hfz23_1, hfz23_2⟩ := fz3 BK1052.out; obtain ⟨hcz24_0, hcz24_1, hcz24_2⟩ := cz3 BK1046.out; obtain ⟨hfz24_0, hfz24_1, hfz24_2⟩ := fz3 BK1046.out))
    refine bodyPost_ret (results_ct rfl _ _ gb1046 56 #[.int .i64 t1048, .int .i64 t1049, .int .i64 (wrap64 (t1050 + a2))] (0, 0) _ rfl (qP BK1046) Try.underlying56 rfl (by kernel_rfl)) rfl ?_
    exact ⟨qE, qL HB⟩
  replace c5 := Bool.eq_false_iff.mpr c5
  subst c5
  replace H := qU H
  replace H := qH H
  obtain ⟨⟨t1053, t1054⟩, A25, H⟩ := H
  try dsimp only at H
  replace H := qH H
  obtain ⟨⟨t1055, t1056, t1057, t1058⟩, A26, H⟩ := H
  try dsimp only at H
  simp only [Option.some.injEq, Prod.mk.injEq] at H
  obtain ⟨rfl, rfl, rfl, rfl⟩ := H
  go_enter Try.func77, Try.ntmps77
  try go_wp2_with (first | ((with_reducible refine gate_dst (N := 3) rfl ?_); refine bx (N := 3) (cs := #[.int .i64 a0_0, .int .i64 a0_1, .int .i64 a0_2, .int .i64 a0_3]) (t := 26) ?_; intro gb1044 hg w27 hbox hb; have BK1044 := az hbox; have GW1044 := az ((gE hg (qL HB) : w.heap.size ≤ gb1044)); have GE1044 := GW1044; replace HB := bS HB hb; clear hb hbox hg) | ((with_reducible refine gate_dst (N := 4) rfl ?_); refine bx (N := 4) (cs := #[.int .i64 a1_0, .int .i64 a1_1]) (t := 24) ?_; intro gb1045 hg w28 hbox hb; have BK1045 := az hbox; have GW1045 := az ((gE hg (qL HB) : w.heap.size ≤ gb1045)); have GE1045 := GW1045; obtain ⟨NB1044_1045, NB1045_1044⟩ := nPB BK1044 hg; replace BK1044 := kBB BK1044 hb; replace HB := bS HB hb; clear hb hbox hg) | ((with_reducible refine gate_dst (N := 6) rfl ?_); refine bx (N := 6) (cs := #[.int .i64 0, .int .i64 0, .int .i64 0]) (t := 56) ?_; intro gb1046 hg w29 hbox hb; have BK1046 := az hbox; have GW1046 := az ((gE hg (qL HB) : w.heap.size ≤ gb1046)); have GE1046 := GW1046; obtain ⟨NB1044_1046, NB1046_1044⟩ := nPB BK1044 hg; obtain ⟨NB1045_1046, NB1046_1045⟩ := nPB BK1045 hg; replace BK1044 := kBB BK1044 hb; replace BK1045 := kBB BK1045 hb; replace HB := bS HB hb; clear hb hbox hg; have hnb30 := NB1044_1045.out; have hnc30 := NB1045_1044.out; have hnb31 := NB1044_1046.out; have hnc31 := NB1046_1044.out; obtain ⟨hcz32_0, hcz32_1, hcz32_2, hcz32_3⟩ := cz4 BK1044.out; obtain ⟨hfz32_0, hfz32_1, hfz32_2, hfz32_3⟩ := fz4 BK1044.out; have hnb33 := NB1045_1046.out; have hnc33 := NB1046_1045.out; obtain ⟨hcz34_0, hcz34_1⟩ := cz2 BK1045.out; have hfz34_0 := blk_frozen BK1045.out 0; have hfz34_1 := blk_frozen BK1045.out 1) | ((with_reducible refine gate_callee (f := 48) rfl ?_); refine gl (some 12) Try.func48 #[.agg #[.int .i64 a0_0, .int .i64 a0_1, .int .i64 a0_2, .int .i64 a0_3], .agg #[.int .i64 a1_0, .int .i64 a1_1]] ?_; (with_reducible refine (impl_Box_has.calls a0_0 a0_1 a0_2 a0_3 a1_0 a1_1 false _ A4.out).mono ?_); rintro e w35 ⟨rfl, hb⟩; refine ⟨_, rfl, ?_⟩; replace BK1044 := kBB BK1044 hb; replace BK1045 := kBB BK1045 hb; replace BK1046 := kBB BK1046 hb; replace HB := bS HB hb; clear hb))
  replace BK1044 := az (blk_drew BK1044.out)
  replace BK1045 := az (blk_drew BK1045.out)
  replace BK1046 := az (blk_drew BK1046.out)
  replace HB := az (below_drew1 HB.out)
  refine start_ (n := 10) (S := fun w' => w'.cell? ⟨gb1044, 0, none⟩ = some (.int .i64 a0_0) ∧ w'.cell? ⟨gb1044, 1, none⟩ = some (.int .i64 a0_1) ∧ w'.cell? ⟨gb1044, 2, none⟩ = some (.int .i64 a0_2) ∧ w'.cell? ⟨gb1044, 3, none⟩ = some (.int .i64 a0_3) ∧ w'.cell? ⟨gb1045, 0, none⟩ = some (.int .i64 a1_0) ∧ w'.cell? ⟨gb1045, 1, none⟩ = some (.int .i64 a1_1)) (ds := []) #[false, false, false, false, false, false, false, false, false, false] (by kernel_rfl) rfl rfl ⟨bc BK1044 0, bc BK1044 1, bc BK1044 2, bc BK1044 3, bc BK1045 0, bc BK1045 1⟩ (fun hHeld => ?_); refine with_tabW impl_boxRound.tab2 impl_boxRound.bits2 (fun HT_ HW_ => ?_)
  generalize w35.drew = w36 at BK1044 BK1045 BK1046 HB hHeld ⊢
  refine pu 4 (some 18) (fl 10 16) HT_ ?_
  refine tk6 0 (some 14) (fl 10 17) HT_ HW_ hHeld ?_
  refine tk6 1 (some 15) (fl 10 19) HT_ HW_ hHeld ?_
  refine tk6 3 (some 17) (fl 10 27) HT_ HW_ hHeld ?_
  refine on 2 (some 16) (fl 10 31) HT_ (fun K hK => ?_)
  refine go1 Try.func82 #[.agg #[.int .i64 a0_0, .int .i64 a0_1, .int .i64 a0_2, .int .i64 a0_3], .agg #[.int .i64 a1_0, .int .i64 a1_1]] ?_
  with_reducible refine (impl_Box_near.calls a0_0 a0_1 a0_2 a0_3 a1_0 a1_1 t1053 t1054 _ A25.out).mono ?_
  rintro e w37 ⟨rfl, hb⟩
  refine ⟨_, rfl, ?_⟩
  replace BK1044 := kBB BK1044 hb
  replace BK1045 := kBB BK1045 hb
  replace BK1046 := kBB BK1046 hb
  replace HB := bS HB hb
  clear hb
  refine hK.out _ _ ⟨bc BK1044 0, bc BK1044 1, bc BK1044 2, bc BK1044 3, bc BK1045 0, bc BK1045 1⟩ (fun hHeld => ?_)
  clear hK K
  refine nm (some 16) ?_
  refine on 5 (some 19) (fl 10 63) HT_ (fun K hK => ?_)
  refine go1 Try.func74 #[.agg #[.int .i64 t1053, .int .i64 t1054], .int .i64 0, .agg #[.int .i64 a1_0, .int .i64 a1_1], .int .i64 a2] ?_
  with_reducible refine (impl_rounds.calls k t1053 t1054 0 a1_0 a1_1 a2 t1055 t1056 t1057 t1058 _ A26.out).mono ?_
  rintro e w38 ⟨rfl, hb⟩
  refine ⟨_, rfl, ?_⟩
  replace BK1044 := kBB BK1044 hb
  replace BK1045 := kBB BK1045 hb
  replace BK1046 := kBB BK1046 hb
  replace HB := bS HB hb
  clear hb
  refine hK.out _ _ ⟨bc BK1044 0, bc BK1044 1, bc BK1044 2, bc BK1044 3, bc BK1045 0, bc BK1045 1⟩ (fun hHeld => ?_)
  clear hK K
  refine nm (some 19) ?_
  refine pu 6 (some 20) (fl 10 127) HT_ ?_
  refine pu 7 (some 21) (fl 10 255) HT_ ?_
  refine on 8 (none) (fl 10 511) HT_ (fun K hK => ?_)
  have hs39 : w38.cell? ⟨gb1046, 0, none⟩ = some (.int .i64 0) := bc BK1046 0
  have hfs39 := blk_frozen BK1046.out 0
  have hns39_0 := NB1044_1046.out
  have hns39_1 := NB1045_1046.out
  have hms39_0 := NB1046_1044.out
  have hms39_1 := NB1046_1045.out
  have hs40 : w38.cell? ⟨gb1046, 1, none⟩ = some (.int .i64 0) := bc BK1046 1
  have hfs40 := blk_frozen BK1046.out 1
  have hns40_0 := NB1044_1046.out
  have hns40_1 := NB1045_1046.out
  have hms40_0 := NB1046_1044.out
  have hms40_1 := NB1046_1045.out
  have hs41 : w38.cell? ⟨gb1046, 2, none⟩ = some (.int .i64 0) := bc BK1046 2
  have hfs41 := blk_frozen BK1046.out 2
  have hns41_0 := NB1044_1046.out
  have hns41_1 := NB1045_1046.out
  have hms41_0 := NB1046_1044.out
  have hms41_1 := NB1046_1045.out
  refine skip_ (w1 := ?_) ?hw ?hn ?_ ?_; (case hw => unfold Region.wanted; rfl); (case hn => rfl)
  rotate_left
  · go_simp
    rfl
  refine hK.out _ _ ⟨(cf NB1044_1046 ((cf NB1044_1046 ((cf NB1044_1046 (hHeld.1)))))), (cf NB1044_1046 ((cf NB1044_1046 ((cf NB1044_1046 (hHeld.2.1)))))), (cf NB1044_1046 ((cf NB1044_1046 ((cf NB1044_1046 (hHeld.2.2.1)))))), (cf NB1044_1046 ((cf NB1044_1046 ((cf NB1044_1046 (hHeld.2.2.2.1)))))), (cf NB1045_1046 ((cf NB1045_1046 ((cf NB1045_1046 (hHeld.2.2.2.2.1)))))), (cf NB1045_1046 ((cf NB1045_1046 ((cf NB1045_1046 (hHeld.2.2.2.2.2))))))⟩ (fun hHeld => ?_)
  clear hK K
  refine pu 9 (some 7) (fl 10 1023) HT_ ?_
  refine done_ (done_of HT_.out (by kernel_rfl)) ?_
  try go_wp2
  refine bodyPost_ret (results_ct rfl _ _ gb1046 56 #[.int .i64 t1055, .int .i64 t1056, .int .i64 t1057] (0, 0) _ rfl (qP BK1046) Try.underlying56 rfl (by kernel_rfl)) rfl ?_
  exact ⟨qE, qL HB⟩

/-! ### impl_Vec_opposite: function 78 -/
def impl_Vec_opposite.f (a0_0 : Int) (a0_1 : Int) : Option (Int × Int) := some (wrap64 (-a0_0), wrap64 (-a0_1))
set_option maxHeartbeats 8000000 in
set_option maxRecDepth 100000 in
theorem impl_Vec_opposite.calls (a0_0 : Int) (a0_1 : Int) (r1 : Int) (r2 : Int) (w : World) (h : impl_Vec_opposite.f a0_0 a0_1 = some (r1, r2)) :
    Calls Try.prog 78 #[.agg #[.int .i64 a0_0, .int .i64 a0_1]] w fun e w' => e = .returned (.agg #[.int .i64 r1, .int .i64 r2]) ∧ Below w.heap.size w w' := by
  have hu24 := Try.underlying24
  have HB := az (Below.refl w.heap.size w)
  have H : (some (wrap64 (-a0_0), wrap64 (-a0_1))) = some (r1, r2) := h
  clear h
  simp only [Option.some.injEq, Prod.mk.injEq] at H
  obtain ⟨rfl, rfl⟩ := H
  go_enter Try.func78, Try.ntmps78
  go_wp2_with (first | ((with_reducible refine gate_dst (N := 1) rfl ?_); refine bx (N := 1) (cs := #[.int .i64 a0_0, .int .i64 a0_1]) (t := 24) ?_; intro gb1059 hg w2 hbox hb; have BK1059 := az hbox; have GW1059 := az ((gE hg (qL HB) : w.heap.size ≤ gb1059)); have GE1059 := GW1059; replace HB := bS HB hb; clear hb hbox hg) | ((with_reducible refine gate_dst (N := 2) rfl ?_); refine bx (N := 2) (cs := #[.int .i64 0, .int .i64 0]) (t := 24) ?_; intro gb1060 hg w3 hbox hb; have BK1060 := az hbox; have GW1060 := az ((gE hg (qL HB) : w.heap.size ≤ gb1060)); have GE1060 := GW1060; obtain ⟨NB1059_1060, NB1060_1059⟩ := nPB BK1059 hg; replace BK1059 := kBB BK1059 hb; replace HB := bS HB hb; clear hb hbox hg; have hnb4 := NB1059_1060.out; have hnc4 := NB1060_1059.out; obtain ⟨hcz5_0, hcz5_1⟩ := cz2 BK1059.out; have hfz5_0 := blk_frozen BK1059.out 0; have hfz5_1 := blk_frozen BK1059.out 1; obtain ⟨hcz6_0, hcz6_1⟩ := cz2 BK1060.out; have hfz6_0 := blk_frozen BK1060.out 0; have hfz6_1 := blk_frozen BK1060.out 1))
  refine bodyPost_ret (results_cell_row rfl _ _ gb1060 24 #[.int .i64 (wrap64 (-a0_0)), .int .i64 (wrap64 (-a0_1))] (0, 0) _ rfl (qP BK1060) Try.underlying24 rfl (by kernel_rfl)) rfl ?_
  exact ⟨qE, qL HB⟩
end Go.Proofs.Ytihajbjkjclmoaa.PBig
