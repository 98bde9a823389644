/- What these functions compute, each walked once: laws_toVec, laws_toShape, laws_toBody, laws_eqShape, laws_eqVec, laws_eqBody, laws_pqAbs, laws_eqHit; for all arguments and worlds, under the conditions that each theorem names. -/
import Derived.Test.YtihajbjkjclmoaaSq
namespace Go.Proofs.Ytihajbjkjclmoaa.PBig
open Go.RowKit Go.Proofs.YtihajbjkjclmoaaW.PrintWords Go.Proofs.YtihajbjkjclmoaaW.PrintLast Go.Proofs.YtihajbjkjclmoaaW.PrintMore
attribute [local go_sem] max2_int min2_int max_two min_two max_three min_three max_four min_four   -- for this text's walks alone
set_option linter.unusedVariables false
set_option linter.unusedSimpArgs false

/-! ### laws_toVec: function 20 -/
def laws_toVec.f (a0_0 : Int) (a0_1 : Int) : Option (Int × Int) := some (a0_0, a0_1)
set_option maxHeartbeats 8000000 in
set_option maxRecDepth 100000 in
theorem laws_toVec.calls (a0_0 : Int) (a0_1 : Int) (r1 : Int) (r2 : Int) (w : World) (h : laws_toVec.f a0_0 a0_1 = some (r1, r2)) :
    Calls Try.prog 20 #[.agg #[.int .i64 a0_0, .int .i64 a0_1]] w fun e w' => e = .returned (.agg #[.int .i64 r1, .int .i64 r2]) ∧ Below w.heap.size w w' := by
  have hu35 := Try.underlying35
  have hu24 := Try.underlying24
  have HB := az (Below.refl w.heap.size w)
  have H : (some (a0_0, a0_1)) = some (r1, r2) := h
  clear h
  simp only [Option.some.injEq, Prod.mk.injEq] at H
  obtain ⟨rfl, rfl⟩ := H
  go_enter Try.func20, Try.ntmps20
  go_wp2_with (first | ((with_reducible refine gate_dst (N := 1) rfl ?_); refine bx (N := 1) (cs := #[.int .i64 a0_0, .int .i64 a0_1]) (t := 35) ?_; intro gb308 hg w2 hbox hb; have BK308 := az hbox; have GW308 := az ((gE hg (qL HB) : w.heap.size ≤ gb308)); have GE308 := GW308; replace HB := bS HB hb; clear hb hbox hg) | ((with_reducible refine gate_dst (N := 2) rfl ?_); refine bx (N := 2) (cs := #[.int .i64 0, .int .i64 0]) (t := 24) ?_; intro gb309 hg w3 hbox hb; have BK309 := az hbox; have GW309 := az ((gE hg (qL HB) : w.heap.size ≤ gb309)); have GE309 := GW309; obtain ⟨NB308_309, NB309_308⟩ := nPB BK308 hg; replace BK308 := kBB BK308 hb; replace HB := bS HB hb; clear hb hbox hg) | ((with_reducible refine gate_dst (N := 3) rfl ?_); refine bx (N := 3) (cs := #[.int .i64 0, .int .i64 0]) (t := 24) ?_; intro gb310 hg w4 hbox hb; have BK310 := az hbox; have GW310 := az ((gE hg (qL HB) : w.heap.size ≤ gb310)); have GE310 := GW310; obtain ⟨NB308_310, NB310_308⟩ := nPB BK308 hg; obtain ⟨NB309_310, NB310_309⟩ := nPB BK309 hg; replace BK308 := kBB BK308 hb; replace BK309 := kBB BK309 hb; replace HB := bS HB hb; clear hb hbox hg; have hnb5 := NB308_309.out; have hnc5 := NB309_308.out; have hnb6 := NB308_310.out; have hnc6 := NB310_308.out; obtain ⟨hcz7_0, hcz7_1⟩ := cz2 BK308.out; have hfz7_0 := blk_frozen BK308.out 0; have hfz7_1 := blk_frozen BK308.out 1; have hnb8 := NB310_309.out; have hnc8 := NB309_310.out; obtain ⟨hcz9_0, hcz9_1⟩ := cz2 BK310.out; have hfz9_0 := blk_frozen BK310.out 0; have hfz9_1 := blk_frozen BK310.out 1; obtain ⟨hcz10_0, hcz10_1⟩ := cz2 BK309.out; have hfz10_0 := blk_frozen BK309.out 0; have hfz10_1 := blk_frozen BK309.out 1))
  refine bodyPost_ret (results_cell_row rfl _ _ gb309 24 #[.int .i64 a0_0, .int .i64 a0_1] (0, 0) _ rfl (qP BK309) Try.underlying24 rfl (by kernel_rfl)) rfl ?_
  exact ⟨qE, qL HB⟩

/-! ### laws_toShape: function 34 -/
def laws_toShape.f (a0_0 : Int) (a0_1 : Int) (a0_2 : Int) : Option (Int × Int × Int) := some (a0_0, a0_1, a0_2)
set_option maxHeartbeats 8000000 in
set_option maxRecDepth 100000 in
theorem laws_toShape.calls (a0_0 : Int) (a0_1 : Int) (a0_2 : Int) (r1 : Int) (r2 : Int) (r3 : Int) (w : World) (h : laws_toShape.f a0_0 a0_1 a0_2 = some (r1, r2, r3)) :
    Calls Try.prog 34 #[.agg #[.int .i64 a0_0, .int .i64 a0_1, .int .i64 a0_2]] w fun e w' => e = .returned (.agg #[.int .i64 r1, .int .i64 r2, .int .i64 r3]) ∧ Below w.heap.size w w' := by
  have hu34 := Try.underlying34
  have hu38 := Try.underlying38
  have HB := az (Below.refl w.heap.size w)
  have H : (some (a0_0, a0_1, a0_2)) = some (r1, r2, r3) := h
  clear h
  simp only [Option.some.injEq, Prod.mk.injEq] at H
  obtain ⟨rfl, rfl, rfl⟩ := H
  go_enter Try.func34, Try.ntmps34
  go_wp2_with (first | ((with_reducible refine gate_dst (N := 1) rfl ?_); refine bx (N := 1) (cs := #[.int .i64 a0_0, .int .i64 a0_1, .int .i64 a0_2]) (t := 34) ?_; intro gb311 hg w2 hbox hb; have BK311 := az hbox; have GW311 := az ((gE hg (qL HB) : w.heap.size ≤ gb311)); have GE311 := GW311; replace HB := bS HB hb; clear hb hbox hg) | ((with_reducible refine gate_dst (N := 2) rfl ?_); refine bx (N := 2) (cs := #[.int .i64 0, .int .i64 0, .int .i64 0]) (t := 38) ?_; intro gb312 hg w3 hbox hb; have BK312 := az hbox; have GW312 := az ((gE hg (qL HB) : w.heap.size ≤ gb312)); have GE312 := GW312; obtain ⟨NB311_312, NB312_311⟩ := nPB BK311 hg; replace BK311 := kBB BK311 hb; replace HB := bS HB hb; clear hb hbox hg) | ((with_reducible refine gate_dst (N := 3) rfl ?_); refine bx (N := 3) (cs := #[.int .i64 0, .int .i64 0, .int .i64 0]) (t := 38) ?_; intro gb313 hg w4 hbox hb; have BK313 := az hbox; have GW313 := az ((gE hg (qL HB) : w.heap.size ≤ gb313)); have GE313 := GW313; obtain ⟨NB311_313, NB313_311⟩ := nPB BK311 hg; obtain ⟨NB312_313, NB313_312⟩ := nPB BK312 hg; replace BK311 := kBB BK311 hb; replace BK312 := kBB BK312 hb; replace HB := bS HB hb; clear hb hbox hg; have hnb5 := NB311_312.out; have hnc5 := NB312_311.out; have hnb6 := NB311_313.out; have hnc6 := NB313_311.out; obtain ⟨hcz7_0, hcz7_1, hcz7_2⟩ := cz3 BK311.out; obtain ⟨hfz7_0, hfz7_1, hfz7_2⟩ := fz3 BK311.out; have hnb8 := NB313_312.out; have hnc8 := NB312_313.out; obtain ⟨hcz9_0, hcz9_1, hcz9_2⟩ := cz3 BK313.out; obtain ⟨hfz9_0, hfz9_1, hfz9_2⟩ := fz3 BK313.out; obtain ⟨hcz10_0, hcz10_1, hcz10_2⟩ := cz3 BK312.out; obtain ⟨hfz10_0, hfz10_1, hfz10_2⟩ := fz3 BK312.out))
  refine bodyPost_ret (results_cell_row rfl _ _ gb312 38 #[.int .i64 a0_0, .int .i64 a0_1, .int .i64 a0_2] (0, 0) _ rfl (qP BK312) Try.underlying38 rfl (by kernel_rfl)) rfl ?_
  exact ⟨qE, qL HB⟩

/-! ### laws_toBody: function 19 -/
def laws_toBody.f (a0_0 : Int) (a0_1 : Int) (a0_2 : Int) (a0_3 : Int) (a0_4 : Int) (a0_5 : Int) (a0_6 : Int) (a0_7 : Int) (a0_8 : Int) (a0_9 : Int) (a0_10 : Int) (a0_11 : Int) : Option (Int × Int × Int × Int × Int × Int × Int × Int × Int × Int × Int × Int) := (laws_toShape.f a0_1 a0_2 a0_3).bind fun bt317 => ((laws_toVec.f a0_4 a0_5).bind fun bt320 => ((laws_toVec.f a0_6 a0_7).bind fun bt322 => (some (a0_0, bt317.1, bt317.2.1, bt317.2.2, bt320.1, bt320.2, bt322.1, bt322.2, a0_8, a0_9, a0_10, a0_11))))
set_option maxHeartbeats 8000000 in
set_option maxRecDepth 100000 in
theorem laws_toBody.calls (a0_0 : Int) (a0_1 : Int) (a0_2 : Int) (a0_3 : Int) (a0_4 : Int) (a0_5 : Int) (a0_6 : Int) (a0_7 : Int) (a0_8 : Int) (a0_9 : Int) (a0_10 : Int) (a0_11 : Int) (r1 : Int) (r2 : Int) (r3 : Int) (r4 : Int) (r5 : Int) (r6 : Int) (r7 : Int) (r8 : Int) (r9 : Int) (r10 : Int) (r11 : Int) (r12 : Int) (w : World) (h : laws_toBody.f a0_0 a0_1 a0_2 a0_3 a0_4 a0_5 a0_6 a0_7 a0_8 a0_9 a0_10 a0_11 = some (r1, r2, r3, r4, r5, r6, r7, r8, r9, r10, r11, r12)) :
    Calls Try.prog 19 #[.agg #[.int .i64 a0_0, .int .i64 a0_1, .int .i64 a0_2, .int .i64 a0_3, .int .i64 a0_4, .int .i64 a0_5, .int .i64 a0_6, .int .i64 a0_7, .int .i64 a0_8, .int .i64 a0_9, .int .i64 a0_10, .int .i64 a0_11]] w fun e w' => e = .returned (.agg #[.int .i64 r1, .int .i64 r2, .int .i64 r3, .int .i64 r4, .int .i64 r5, .int .i64 r6, .int .i64 r7, .int .i64 r8, .int .i64 r9, .int .i64 r10, .int .i64 r11, .int .i64 r12]) ∧ Below w.heap.size w w' := by
  have hu37 := Try.underlying37
  have hu40 := Try.underlying40
  have hu34 := Try.underlying34
  have hu38 := Try.underlying38
  have hu35 := Try.underlying35
  have hu24 := Try.underlying24
  have HB := az (Below.refl w.heap.size w)
  have H : ((laws_toShape.f a0_1 a0_2 a0_3).bind fun bt317 => ((laws_toVec.f a0_4 a0_5).bind fun bt320 => ((laws_toVec.f a0_6 a0_7).bind fun bt322 => (some (a0_0, bt317.1, bt317.2.1, bt317.2.2, bt320.1, bt320.2, bt322.1, bt322.2, a0_8, a0_9, a0_10, a0_11))))) = some (r1, r2, r3, r4, r5, r6, r7, r8, r9, r10, r11, r12) := h
  clear h
  replace H := qH H
  obtain ⟨⟨t317, t318, t319⟩, A2, H⟩ := H
  try dsimp only at H
  replace H := qH H
  obtain ⟨⟨t320, t321⟩, A3, H⟩ := H
  try dsimp only at H
  replace H := qH H
  obtain ⟨⟨t322, t323⟩, A4, H⟩ := H
  try dsimp only at H
  simp only [Option.some.injEq, Prod.mk.injEq] at H
  obtain ⟨rfl, rfl, rfl, rfl, rfl, rfl, rfl, rfl, rfl, rfl, rfl, rfl⟩ := H
  go_enter Try.func19, Try.ntmps19
  go_wp2_with (first | ((with_reducible refine gate_dst (N := 1) rfl ?_); refine bx (N := 1) (cs := #[.int .i64 a0_0, .int .i64 a0_1, .int .i64 a0_2, .int .i64 a0_3, .int .i64 a0_4, .int .i64 a0_5, .int .i64 a0_6, .int .i64 a0_7, .int .i64 a0_8, .int .i64 a0_9, .int .i64 a0_10, .int .i64 a0_11]) (t := 37) ?_; intro gb314 hg w5 hbox hb; have BK314 := az hbox; have GW314 := az ((gE hg (qL HB) : w.heap.size ≤ gb314)); have GE314 := GW314; replace HB := bS HB hb; clear hb hbox hg) | ((with_reducible refine gate_dst (N := 2) rfl ?_); refine bx (N := 2) (cs := #[.int .i64 0, .int .i64 0, .int .i64 0, .int .i64 0, .int .i64 0, .int .i64 0, .int .i64 0, .int .i64 0, .int .i64 0, .int .i64 0, .int .i64 0, .int .i64 0]) (t := 40) ?_; intro gb315 hg w6 hbox hb; have BK315 := az hbox; have GW315 := az ((gE hg (qL HB) : w.heap.size ≤ gb315)); have GE315 := GW315; obtain ⟨NB314_315, NB315_314⟩ := nPB BK314 hg; replace BK314 := kBB BK314 hb; replace HB := bS HB hb; clear hb hbox hg) | ((with_reducible refine gate_dst (N := 3) rfl ?_); refine bx (N := 3) (cs := #[.int .i64 0, .int .i64 0, .int .i64 0, .int .i64 0, .int .i64 0, .int .i64 0, .int .i64 0, .int .i64 0, .int .i64 0, .int .i64 0, .int .i64 0, .int .i64 0]) (t := 40) ?_; intro gb316 hg w7 hbox hb; have BK316 := az hbox; have GW316 := az ((gE hg (qL HB) : w.heap.size ≤ gb316)); have GE316 := GW316; obtain ⟨NB314_316, NB316_314⟩ := nPB BK314 hg; obtain ⟨NB315_316, NB316_315⟩ := nPB BK315 hg; replace BK314 := kBB BK314 hb; replace BK315 := kBB BK315 hb; replace HB := bS HB hb; clear hb hbox hg; have hnb8 := NB314_315.out; have hnc8 := NB315_314.out; have hnb9 := NB314_316.out; have hnc9 := NB316_314.out; obtain ⟨hcz10_0, hcz10_1, hcz10_2, hcz10_3, hcz10_4, hcz10_5, hcz10_6, hcz10_7, hcz10_8, hcz10_9, hcz10_10, hcz10_11⟩ := cz12 BK314.out; obtain ⟨hfz10_0, hfz10_1, hfz10_2, hfz10_3, hfz10_4, hfz10_5, hfz10_6, hfz10_7, hfz10_8, hfz10_9, hfz10_10, hfz10_11⟩ := fz12 BK314.out; have hnb11 := NB316_315.out; have hnc11 := NB315_316.out; obtain ⟨hcz12_0, hcz12_1, hcz12_2, hcz12_3, hcz12_4, hcz12_5, hcz12_6, hcz12_7, hcz12_8, hcz12_9, hcz12_10, hcz12_11⟩ := cz12 BK316.out; obtain ⟨hfz12_0, hfz12_1, hfz12_2, hfz12_3, hfz12_4, hfz12_5, hfz12_6, hfz12_7, hfz12_8, hfz12_9, hfz12_10, hfz12_11⟩ := fz12 BK316.out) | ((with_reducible refine gate_callee (f := 34) rfl ?_); refine gl (some 9) Try.func34 #[.agg #[.int .i64 a0_1, .int .i64 a0_2, .int .i64 a0_3]] ?_; (with_reducible refine (laws_toShape.calls a0_1 a0_2 a0_3 t317 t318 t319 _ A2.out).mono ?_); rintro e w13 ⟨rfl, hb⟩; refine ⟨_, rfl, ?_⟩; replace BK314 := kBF BK314 hb; replace BK315 := kBF BK315 hb; replace BK316 := kBP (o' := .cells #[.int .i64 a0_0, .int .i64 0, .int .i64 0, .int .i64 0, .int .i64 0, .int .i64 0, .int .i64 0, .int .i64 0, .int .i64 0, .int .i64 0, .int .i64 0, .int .i64 0] 40 (0, 0)) BK316 hb; replace HB := bS HB hb; clear hb; obtain ⟨hcz14_0, hcz14_1, hcz14_2, hcz14_3, hcz14_4, hcz14_5, hcz14_6, hcz14_7, hcz14_8, hcz14_9, hcz14_10, hcz14_11⟩ := cz12 BK316.out; obtain ⟨hfz14_0, hfz14_1, hfz14_2, hfz14_3, hfz14_4, hfz14_5, hfz14_6, hfz14_7, hfz14_8, hfz14_9, hfz14_10, hfz14_11⟩ := fz12 BK316.out; obtain ⟨hcz15_0, hcz15_1, hcz15_2, hcz15_3, hcz15_4, hcz15_5, hcz15_6, hcz15_7, hcz15_8, hcz15_9, hcz15_10, hcz15_11⟩ := cz12 BK314.out; obtain ⟨hfz15_0, hfz15_1, hfz15_2, hfz15_3, hfz15_4, hfz15_5, hfz15_6, hfz15_7, hfz15_8, hfz15_9, hfz15_10, hfz15_11⟩ := fz12 BK314.out) | ((with_reducible refine gate_callee (f := 20) rfl ?_); refine gl (some 13) Try.func20 #[.agg #[.int .i64 a0_4, .int .i64 a0_5]] ?_; (with_reducible refine (laws_toVec.calls a0_4 a0_5 t320 t321 _ A3.out).mono ?_); rintro e w16 ⟨rfl, hb⟩; refine ⟨_, rfl, ?_⟩; replace BK314 := kBF BK314 hb; replace BK315 := kBF BK315 hb; replace BK316 := kBP (o' := .cells #[.int .i64 a0_0, .int .i64 t317, .int .i64 t318, .int .i64 t319, .int .i64 0, .int .i64 0, .int .i64 0, .int .i64 0, .int .i64 0, .int .i64 0, .int .i64 0, .int .i64 0] 40 (0, 0)) BK316 hb; replace HB := bS HB hb; clear hb; obtain ⟨hcz17_0, hcz17_1, hcz17_2, hcz17_3, hcz17_4, hcz17_5, hcz17_6, hcz17_7, hcz17_8, hcz17_9, hcz17_10, hcz17_11⟩ := cz12 BK316.out; obtain ⟨hfz17_0, hfz17_1, hfz17_2, hfz17_3, hfz17_4, hfz17_5, hfz17_6, hfz17_7, hfz17_8, hfz17_9, hfz17_10, hfz17_11⟩ := fz12 BK316.out; obtain ⟨hcz18_0, hcz18_1, hcz18_2, hcz18_3, hcz18_4, hcz18_5, hcz18_6, hcz18_7, hcz18_8, hcz18_9, hcz18_10, hcz18_11⟩ := cz12 BK314.out; obtain ⟨hfz18_0, hfz18_1, hfz18_2, hfz18_3, hfz18_4, hfz18_5, hfz18_6, hfz18_7, hfz18_8, hfz18_9, hfz18_10, hfz18_11⟩ := fz12 BK314.out) | ((with_reducible refine gate_callee (f := 20) rfl ?_); refine gl (some 17) Try.func20 #[.agg #[.int .i64 a0_6, .int .i64 a0_7]] ?_; (with_reducible refine (laws_toVec.calls a0_6 a0_7 t322 t323 _ A4.out).mono ?_); rintro e w19 ⟨rfl, hb⟩; refine ⟨_, rfl, ?_⟩; replace BK314 := kBF BK314 hb; replace BK315 := kBF BK315 hb; replace BK316 := kBP (o' := .cells #[.int .i64 a0_0, .int .i64 t317, .int .i64 t318, .int .i64 t319, .int .i64 t320, .int .i64 t321, .int .i64 0, .int .i64 0, .int .i64 0, .int .i64 0, .int .i64 0, .int .i64 0] 40 (0, 0)) BK316 hb; replace HB := bS HB hb; clear hb; obtain ⟨hcz20_0, hcz20_1, hcz20_2, hcz20_3, hcz20_4, hcz20_5, hcz20_6, hcz20_7, hcz20_8, hcz20_9, hcz20_10, hcz20_11⟩ := cz12 BK316.out; obtain ⟨hfz20_0, hfz20_1, hfz20_2, hfz20_3, hfz20_4, hfz20_5, hfz20_6, hfz20_7, hfz20_8, hfz20_9, hfz20_10, hfz20_11⟩ := fz12 BK316.out; obtain ⟨hcz21_0, hcz21_1, hcz21_2, hcz21_3, hcz21_4, hcz21_5, hcz21_6, hcz21_7, hcz21_8, hcz21_9, hcz21_10, hcz21_11⟩ := cz12 BK314.out; obtain ⟨hfz21_0, hfz21_1, hfz21_2, hfz21_3, hfz21_4, hfz21_5, hfz21_6, hfz21_7, hfz21_8, hfz21_9, hfz21_10, hfz21_11⟩ := fz12 BK314.out; obtain ⟨hcz22_0, hcz22_1, hcz22_2, hcz22_3, hcz22_4, hcz22_5, hcz22_6, hcz22_7, hcz22_8, hcz22_9, hcz22_10, hcz22_11⟩ := cz12 BK315.out; obtain ⟨hfz22_0, hfz22_1, hfz22_2, hfz22_3, hfz22_4, hfz22_5, hfz22_6, hfz22_7, hfz22_8, hfz22_9, hfz22_10, hfz22_11⟩ := fz12 BK315.out))
  refine bodyPost_ret (results_cell_row rfl _ _ gb315 40 #[.int .i64 a0_0, .int .i64 t317, .int .i64 t318, .int .i64 t319, .int .i64 t320, .int .i64 t321, .int .i64 t322, .int .i64 t323, .int .i64 a0_8, .int .i64 a0_9, .int .i64 a0_10, .int .i64 a0_11] (0, 0) _ rfl (qP BK315) Try.underlying40 rfl (by kernel_rfl)) rfl ?_
  exact ⟨qE, qL HB⟩

/-! ### laws_eqShape: function 53 -/
def laws_eqShape.f (a0_0 : Int) (a0_1 : Int) (a0_2 : Int) (a1_0 : Int) (a1_1 : Int) (a1_2 : Int) : Option (Bool) := if a0_0 = a1_0 then (if a0_1 = a1_1 then (if a0_2 = a1_2 then (some true) else (some false)) else (some false)) else (some false)
set_option maxHeartbeats 8000000 in
set_option maxRecDepth 100000 in
theorem laws_eqShape.calls (a0_0 : Int) (a0_1 : Int) (a0_2 : Int) (a1_0 : Int) (a1_1 : Int) (a1_2 : Int) (r : Bool) (w : World) (h : laws_eqShape.f a0_0 a0_1 a0_2 a1_0 a1_1 a1_2 = some r) :
    Calls Try.prog 53 #[.agg #[.int .i64 a0_0, .int .i64 a0_1, .int .i64 a0_2], .agg #[.int .i64 a1_0, .int .i64 a1_1, .int .i64 a1_2]] w fun e w' => e = .returned (.bool r) ∧ Below w.heap.size w w' := by
  have hu38 := Try.underlying38
  have HB := az (Below.refl w.heap.size w)
  have H : (if a0_0 = a1_0 then (if a0_1 = a1_1 then (if a0_2 = a1_2 then (some true) else (some false)) else (some false)) else (some false)) = some r := h
  clear h
  by_cases c3 : a0_0 = a1_0
  · rw [if_pos c3] at H
    have c3b0 : (a0_0 == a1_0) = true := beq_iff_eq.mpr c3
    have c3b1 : (a0_0 != a1_0) = false := bne_eq_false_iff_eq.mpr c3
    clear c3
    by_cases c4 : a0_1 = a1_1
    · rw [if_pos c4] at H
      have c4b0 : (a0_1 == a1_1) = true := beq_iff_eq.mpr c4
      have c4b1 : (a0_1 != a1_1) = false := bne_eq_false_iff_eq.mpr c4
      clear c4
      by_cases c5 : a0_2 = a1_2
      · rw [if_pos c5] at H
        have c5b0 : (a0_2 == a1_2) = true := beq_iff_eq.mpr c5
        have c5b1 : (a0_2 != a1_2) = false := bne_eq_false_iff_eq.mpr c5
        clear c5
        obtain rfl := Option.some.inj H
        go_enter Try.func53, Try.ntmps53
        go_wp2_with (first | ((with_reducible refine gate_dst (N := 2) rfl ?_); refine bx (N := 2) (cs := #[.int .i64 a0_0, .int .i64 a0_1, .int .i64 a0_2]) (t := 38) ?_; intro gb366 hg w6 hbox hb; have BK366 := az hbox; have GW366 := az ((gE hg (qL HB) : w.heap.size ≤ gb366)); have GE366 := GW366; replace HB := bS HB hb; clear hb hbox hg) | ((with_reducible refine gate_dst (N := 3) rfl ?_); refine bx (N := 3) (cs := #[.int .i64 a1_0, .int .i64 a1_1, .int .i64 a1_2]) (t := 38) ?_; intro gb367 hg w7 hbox hb; have BK367 := az hbox; have GW367 := az ((gE hg (qL HB) : w.heap.size ≤ gb367)); have GE367 := GW367; obtain ⟨NB366_367, NB367_366⟩ := nPB BK366 hg; replace BK366 := kBB BK366 hb; replace HB := bS HB hb; clear hb hbox hg; have hnb8 := NB366_367.out; have hnc8 := NB367_366.out; obtain ⟨hcz9_0, hcz9_1, hcz9_2⟩ := cz3 BK366.out; obtain ⟨hfz9_0, hfz9_1, hfz9_2⟩ := fz3 BK366.out; obtain ⟨hcz10_0, hcz10_1, hcz10_2⟩ := cz3 BK367.out; obtain ⟨hfz10_0, hfz10_1, hfz10_2⟩ := fz3 BK367.out))
        go_ret
        exact ⟨qE, qL HB⟩
      rw [if_neg c5] at H
      have c5b0 : (a0_2 == a1_2) = false := beq_eq_false_iff_ne.mpr c5
      have c5b1 : (a0_2 != a1_2) = true := bne_iff_ne.mpr c5
      obtain rfl := Option.some.inj H
      go_enter Try.func53, Try.ntmps53
      go_wp2_with (first | ((with_reducible refine gate_dst (N := 2) rfl ?_); refine bx (N := 2) (cs := #[.int .i64 a0_0, .int .i64 a0_1, .int .i64 a0_2]) (t := 38) ?_; intro gb366 hg w11 hbox hb; have BK366 := az hbox; have GW366 := az ((gE hg (qL HB) : w.heap.size ≤ gb366)); have GE366 := GW366; replace HB := bS HB hb; clear hb hbox hg) | ((with_reducible refine gate_dst (N := 3) rfl ?_); refine bx (N := 3) (cs := #[.int .i64 a1_0, .int .i64 a1_1, .int .i64 a1_2]) (t := 38) ?_; intro gb367 hg w12 hbox hb; have BK367 := az hbox; have GW367 := az ((gE hg (qL HB) : w.heap.size ≤ gb367)); have GE367 := GW367; obtain ⟨NB366_367, NB367_366⟩ := nPB BK366 hg; replace BK366 := kBB BK366 hb; replace HB := bS HB hb; clear hb hbox hg; have hnb13 := NB366_367.out; have hnc13 := NB367_366.out; obtain ⟨hcz14_0, hcz14_1, hcz14_2⟩ := cz3 BK366.out; obtain ⟨hfz14_0, hfz14_1, hfz14_2⟩ := fz3 BK366.out; obtain ⟨hcz15_0, hcz15_1, hcz15_2⟩ := cz3 BK367.out; obtain ⟨hfz15_0, hfz15_1, hfz15_2⟩ := fz3 BK367.out))
      go_ret
      exact ⟨qE, qL HB⟩
    rw [if_neg c4] at H
    have c4b0 : (a0_1 == a1_1) = false := beq_eq_false_iff_ne.mpr c4
    have c4b1 : (a0_1 != a1_1) = true := bne_iff_ne.mpr c4
    obtain rfl := Option.some.inj H
    go_enter Try.func53, Try.ntmps53
    go_wp2_with (first | ((with_reducible refine gate_dst (N := 2) rfl ?_); refine bx (N := 2) (cs := #[.int .i64 a0_0, .int .i64 a0_1, .int .i64 a0_2]) (t := 38) ?_; intro gb366 hg w16 hbox hb; have BK366 := az hbox; have GW366 := az ((gE hg (qL HB) : w.heap.size ≤ gb366)); have GE366 := GW366; replace HB := bS HB hb; clear hb hbox hg) | ((with_reducible refine gate_dst (N := 3) rfl ?_); refine bx (N := 3) (cs := #[.int .i64 a1_0, .int .i64 a1_1, .int .i64 a1_2]) (t := 38) ?_; intro gb367 hg w17 hbox hb; have BK367 := az hbox; have GW367 := az ((gE hg (qL HB) : w.heap.size ≤ gb367)); have GE367 := GW367; obtain ⟨NB366_367, NB367_366⟩ := nPB BK366 hg; replace BK366 := kBB BK366 hb; replace HB := bS HB hb; clear hb hbox hg; have hnb18 := NB366_367.out; have hnc18 := NB367_366.out; obtain ⟨hcz19_0, hcz19_1, hcz19_2⟩ := cz3 BK366.out; obtain ⟨hfz19_0, hfz19_1, hfz19_2⟩ := fz3 BK366.out; obtain ⟨hcz20_0, hcz20_1, hcz20_2⟩ := cz3 BK367.out; obtain ⟨hfz20_0, hfz20_1, hfz20_2⟩ := fz3 BK367.out))
    go_ret
    exact ⟨qE, qL HB⟩
  rw [if_neg c3] at H
  have c3b0 : (a0_0 == a1_0) = false := beq_eq_false_iff_ne.mpr c3
  have c3b1 : (a0_0 != a1_0) = true := bne_iff_ne.mpr c3
  obtain rfl := Option.some.inj H
  go_enter Try.func53, Try.ntmps53
  go_wp2_with (first | ((with_reducible refine gate_dst (N := 2) rfl ?_); refine bx (N := 2) (cs := #[.int .i64 a0_0, .int .i64 a0_1, .int .i64 a0_2]) (t := 38) ?_; intro gb366 hg w21 hbox hb; have BK366 := az hbox; have GW366 := az ((gE hg (qL HB) : w.heap.size ≤ gb366)); have GE366 := GW366; replace HB := bS HB hb; clear hb hbox hg) | ((with_reducible refine gate_dst (N := 3) rfl ?_); refine bx (N := 3) (cs := #[.int .i64 a1_0, .int .i64 a1_1, .int .i64 a1_2]) (t := 38) ?_; intro gb367 hg w22 hbox hb; have BK367 := az hbox; have GW367 := az ((gE hg (qL HB) : w.heap.size ≤ gb367)); have GE367 := GW367; obtain ⟨NB366_367, NB367_366⟩ := nPB BK366 hg; replace BK366 := kBB BK366 hb; replace HB := bS HB hb; clear hb hbox hg; have hnb23 := NB366_367.out; have hnc23 := NB367_366.out; obtain ⟨hcz24_0, hcz24_1, hcz24_2⟩ := cz3 BK366.out; obtain ⟨hfz24_0, hfz24_1, hfz24_2⟩ := fz3 BK366.out; obtain ⟨hcz25_0, hcz25_1, hcz25_2⟩ := cz3 BK367.out; obtain ⟨hfz25_0, hfz25_1, hfz25_2⟩ := fz3 BK367.out))
  go_ret
  exact ⟨qE, qL HB⟩

/-! ### laws_eqVec: function 54 -/
def laws_eqVec.f (a0_0 : Int) (a0_1 : Int) (a1_0 : Int) (a1_1 : Int) : Option (Bool) := if a0_0 = a1_0 then (if a0_1 = a1_1 then (some true) else (some false)) else (some false)
set_option maxHeartbeats 8000000 in
set_option maxRecDepth 100000 in
theorem laws_eqVec.calls (a0_0 : Int) (a0_1 : Int) (a1_0 : Int) (a1_1 : Int) (r : Bool) (w : World) (h : laws_eqVec.f a0_0 a0_1 a1_0 a1_1 = some r) :
    Calls Try.prog 54 #[.agg #[.int .i64 a0_0, .int .i64 a0_1], .agg #[.int .i64 a1_0, .int .i64 a1_1]] w fun e w' => e = .returned (.bool r) ∧ Below w.heap.size w w' := by
  have hu24 := Try.underlying24
  have HB := az (Below.refl w.heap.size w)
  have H : (if a0_0 = a1_0 then (if a0_1 = a1_1 then (some true) else (some false)) else (some false)) = some r := h
  clear h
  by_cases c3 : a0_0 = a1_0
  · rw [if_pos c3] at H
    have c3b0 : (a0_0 == a1_0) = true := beq_iff_eq.mpr c3
    have c3b1 : (a0_0 != a1_0) = false := bne_eq_false_iff_eq.mpr c3
    clear c3
    by_cases c4 : a0_1 = a1_1
    · rw [if_pos c4] at H
      have c4b0 : (a0_1 == a1_1) = true := beq_iff_eq.mpr c4
      have c4b1 : (a0_1 != a1_1) = false := bne_eq_false_iff_eq.mpr c4
      clear c4
      obtain rfl := Option.some.inj H
      go_enter Try.func54, Try.ntmps54
      go_wp2_with (first | ((with_reducible refine gate_dst (N := 2) rfl ?_); refine bx (N := 2) (cs := #[.int .i64 a0_0, .int .i64 a0_1]) (t := 24) ?_; intro gb368 hg w5 hbox hb; have BK368 := az hbox; have GW368 := az ((gE hg (qL HB) : w.heap.size ≤ gb368)); have GE368 := GW368; replace HB := bS HB hb; clear hb hbox hg) | ((with_reducible refine gate_dst (N := 3) rfl ?_); refine bx (N := 3) (cs := #[.int .i64 a1_0, .int .i64 a1_1]) (t := 24) ?_; intro gb369 hg w6 hbox hb; have BK369 := az hbox; have GW369 := az ((gE hg (qL HB) : w.heap.size ≤ gb369)); have GE369 := GW369; obtain ⟨NB368_369, NB369_368⟩ := nPB BK368 hg; replace BK368 := kBB BK368 hb; replace HB := bS HB hb; clear hb hbox hg; have hnb7 := NB368_369.out; have hnc7 := NB369_368.out; obtain ⟨hcz8_0, hcz8_1⟩ := cz2 BK368.out; have hfz8_0 := blk_frozen BK368.out 0; have hfz8_1 := blk_frozen BK368.out 1; obtain ⟨hcz9_0, hcz9_1⟩ := cz2 BK369.out; have hfz9_0 := blk_frozen BK369.out 0; have hfz9_1 := blk_frozen BK369.out 1))
      go_ret
      exact ⟨qE, qL HB⟩
    rw [if_neg c4] at H
    have c4b0 : (a0_1 == a1_1) = false := beq_eq_false_iff_ne.mpr c4
    have c4b1 : (a0_1 != a1_1) = true := bne_iff_ne.mpr c4
    obtain rfl := Option.some.inj H
    go_enter Try.func54, Try.ntmps54
    go_wp2_with (first | ((with_reducible refine gate_dst (N := 2) rfl ?_); refine bx (N := 2) (cs := #[.int .i64 a0_0, .int .i64 a0_1]) (t := 24) ?_; intro gb368 hg w10 hbox hb; have BK368 := az hbox; have GW368 := az ((gE hg (qL HB) : w.heap.size ≤ gb368)); have GE368 := GW368; replace HB := bS HB hb; clear hb hbox hg) | ((with_reducible refine gate_dst (N := 3) rfl ?_); refine bx (N := 3) (cs := #[.int .i64 a1_0, .int .i64 a1_1]) (t := 24) ?_; intro gb369 hg w11 hbox hb; have BK369 := az hbox; have GW369 := az ((gE hg (qL HB) : w.heap.size ≤ gb369)); have GE369 := GW369; obtain ⟨NB368_369, NB369_368⟩ := nPB BK368 hg; replace BK368 := kBB BK368 hb; replace HB := bS HB hb; clear hb hbox hg; have hnb12 := NB368_369.out; have hnc12 := NB369_368.out; obtain ⟨hcz13_0, hcz13_1⟩ := cz2 BK368.out; have hfz13_0 := blk_frozen BK368.out 0; have hfz13_1 := blk_frozen BK368.out 1; obtain ⟨hcz14_0, hcz14_1⟩ := cz2 BK369.out; have hfz14_0 := blk_frozen BK369.out 0; have hfz14_1 := blk_frozen BK369.out 1))
    go_ret
    exact ⟨qE, qL HB⟩
  rw [if_neg c3] at H
  have c3b0 : (a0_0 == a1_0) = false := beq_eq_false_iff_ne.mpr c3
  have c3b1 : (a0_0 != a1_0) = true := bne_iff_ne.mpr c3
  obtain rfl := Option.some.inj H
  go_enter Try.func54, Try.ntmps54
  go_wp2_with (first | ((with_reducible refine gate_dst (N := 2) rfl ?_); refine bx (N := 2) (cs := #[.int .i64 a0_0, .int .i64 a0_1]) (t := 24) ?_; intro gb368 hg w15 hbox hb; have BK368 := az hbox; have GW368 := az ((gE hg (qL HB) : w.heap.size ≤ gb368)); have GE368 := GW368; replace HB := bS HB hb; clear hb hbox hg) | ((with_reducible refine gate_dst (N := 3) rfl ?_); refine bx (N := 3) (cs := #[.int .i64 a1_0, .int .i64 a1_1]) (t := 24) ?_; intro gb369 hg w16 hbox hb; have BK369 := az hbox; have GW369 := az ((gE hg (qL HB) : w.heap.size ≤ gb369)); have GE369 := GW369; obtain ⟨NB368_369, NB369_368⟩ := nPB BK368 hg; replace BK368 := kBB BK368 hb; replace HB := bS HB hb; clear hb hbox hg; have hnb17 := NB368_369.out; have hnc17 := NB369_368.out; obtain ⟨hcz18_0, hcz18_1⟩ := cz2 BK368.out; have hfz18_0 := blk_frozen BK368.out 0; have hfz18_1 := blk_frozen BK368.out 1; obtain ⟨hcz19_0, hcz19_1⟩ := cz2 BK369.out; have hfz19_0 := blk_frozen BK369.out 0; have hfz19_1 := blk_frozen BK369.out 1))
  go_ret
  exact ⟨qE, qL HB⟩

/-! ### laws_eqBody: function 22 -/
def laws_eqBody.f (a0_0 : Int) (a0_1 : Int) (a0_2 : Int) (a0_3 : Int) (a0_4 : Int) (a0_5 : Int) (a0_6 : Int) (a0_7 : Int) (a0_8 : Int) (a0_9 : Int) (a0_10 : Int) (a0_11 : Int) (a1_0 : Int) (a1_1 : Int) (a1_2 : Int) (a1_3 : Int) (a1_4 : Int) (a1_5 : Int) (a1_6 : Int) (a1_7 : Int) (a1_8 : Int) (a1_9 : Int) (a1_10 : Int) (a1_11 : Int) : Option (Bool) := if a0_0 = a1_0 then ((laws_eqShape.f a0_1 a0_2 a0_3 a1_1 a1_2 a1_3).bind fun t372 => (if t372 = true then ((laws_eqVec.f a0_4 a0_5 a1_4 a1_5).bind fun t373 => (if t373 = true then ((laws_eqVec.f a0_6 a0_7 a1_6 a1_7).bind fun t374 => (if t374 = true then (if a0_8 = a1_8 then (if a0_9 = a1_9 then (if a0_10 = a1_10 then (if a0_11 = a1_11 then (some true) else (some false)) else (some false)) else (some false)) else (some false)) else (some false))) else (some false))) else (some false))) else (some false)
set_option maxRecDepth 100000 in
theorem laws_eqBody.lf0 {P : Prop} (h : P := by
    go_enter Try.func22, Try.ntmps22
    go_wp2_with (first | ((with_reducible refine gate_dst (N := 2) rfl ?_); refine bx (N := 2) (cs := #[.int .i64 a0_0, .int .i64 a0_1, .int .i64 a0_2, .int .i64 a0_3, .int .i64 a0_4, .int .i64 a0_5, .int .i64 a0_6, .int .i64 a0_7, .int .i64 a0_8, .int .i64 a0_9, .int .i64 a0_10, .int .i64 a0_11]) (t := 40) ?_; intro gb5000 hg w5001 hbox hb; have BK5000 := az hbox; have GW5000 := az ((gE hg (qL HB) : w.heap.size ≤ gb5000)); have GE5000 := GW5000; replace HB := bS HB hb; clear hb hbox hg) | ((with_reducible refine gate_dst (N := 3) rfl ?_); refine bx (N := 3) (cs := #[.int .i64 a1_0, .int .i64 a1_1, .int .i64 a1_2, .int .i64 a1_3, .int .i64 a1_4, .int .i64 a1_5, .int .i64 a1_6, .int .i64 a1_7, .int .i64 a1_8, .int .i64 a1_9, .int .i64 a1_10, .int .i64 a1_11]) (t := 40) ?_; intro gb5002 hg w5003 hbox hb; have BK5002 := az hbox; have GW5002 := az ((gE hg (qL HB) : w.heap.size ≤ gb5002)); have GE5002 := GW5002; obtain ⟨NB5000_5002, NB5002_5000⟩ := nPB BK5000 hg; replace BK5000 := kBB BK5000 hb; replace HB := bS HB hb; clear hb hbox hg; have hnb5004 := NB5000_5002.out; have hnc5004 := NB5002_5000.out; obtain ⟨hcz5005_0, hcz5005_1, hcz5005_2, hcz5005_3, hcz5005_4, hcz5005_5, hcz5005_6, hcz5005_7, hcz5005_8, hcz5005_9, hcz5005_10, hcz5005_11⟩ := cz12 BK5000.out; obtain ⟨hfz5005_0, hfz5005_1, hfz5005_2, hfz5005_3, hfz5005_4, hfz5005_5, hfz5005_6, hfz5005_7, hfz5005_8, hfz5005_9, hfz5005_10, hfz5005_11⟩ := fz12 BK5000.out; obtain ⟨hcz5006_0, hcz5006_1, hcz5006_2, hcz5006_3, hcz5006_4, hcz5006_5, hcz5006_6, hcz5006_7, hcz5006_8, hcz5006_9, hcz5006_10, hcz5006_11⟩ := cz12 BK5002.out; obtain ⟨hfz5006_0, hfz5006_1, hfz5006_2, hfz5006_3, hfz5006_4, hfz5006_5, hfz5006_6, hfz5006_7, hfz5006_8, hfz5006_9, hfz5006_10, hfz5006_11⟩ := fz12 BK5002.out) | ((with_reducible refine gate_callee (f := 53) rfl ?_); refine gl (some 14) Try.func53 #[.agg #[.int .i64 a0_1, .int .i64 a0_2, .int .i64 a0_3], .agg #[.int .i64 a1_1, .int .i64 a1_2, .int .i64 a1_3]] ?_; (with_reducible refine (laws_eqShape.calls a0_1 a0_2 a0_3 a1_1 a1_2 a1_3 true _ A4.out).mono ?_); rintro e w5007 ⟨rfl, hb⟩; refine ⟨_, rfl, ?_⟩; replace BK5000 := kBB BK5000 hb; replace BK5002 := kBB BK5002 hb; replace HB := bS HB hb; clear hb; obtain ⟨hcz5008_0, hcz5008_1, hcz5008_2, hcz5008_3, hcz5008_4, hcz5008_5, hcz5008_6, hcz5008_7, hcz5008_8, hcz5008_9, hcz5008_10, hcz5008_11⟩ := cz12 BK5000.out; obtain ⟨hfz5008_0, hfz5008_1, hfz5008_2, hfz5008_3, hfz5008_4, hfz5008_5, hfz5008_6, hfz5008_7, hfz5008_8, hfz5008_9, hfz5008_10, hfz5008_11⟩ := fz12 BK5000.out; obtain ⟨hcz5009_0, hcz5009_1, hcz5009_2, hcz5009_3, hcz5009_4, hcz5009_5, hcz5009_6, hcz5009_7, hcz5009_8, hcz5009_9, hcz5009_10, hcz5009_11⟩ := cz12 BK5002.out; obtain ⟨hfz5009_0, hfz5009_1, hfz5009_2, hfz5009_3, hfz5009_4, hfz5009_5, hfz5009_6, hfz5009_7, hfz5009_8, hfz5009_9, hfz5009_10, hfz5009_11⟩ := fz12 BK5002.out) | ((with_reducible refine gate_callee (f := 54) rfl ?_); refine gl (some 20) Try.func54 #[.agg #[.int .i64 a0_4, .int .i64 a0_5], .agg #[.int .i64 a1_4, .int .i64 a1_5]] ?_; (with_reducible refine (laws_eqVec.calls a0_4 a0_5 a1_4 a1_5 true _ A6.out).mono ?_); rintro e w5010 ⟨rfl, hb⟩; refine ⟨_, rfl, ?_⟩; replace BK5000 := kBB BK5000 hb; replace BK5002 := kBB BK5002 hb; replace HB := bS HB hb; clear hb; obtain ⟨hcz5011_0, hcz5011_1, hcz5011_2, hcz5011_3, hcz5011_4, hcz5011_5, hcz5011_6, hcz5011_7, hcz5011_8, hcz5011_9, hcz5011_10, hcz5011_11⟩ := cz12 BK5000.out; obtain ⟨hfz5011_0, hfz5011_1, hfz5011_2, hfz5011_3, hfz5011_4, hfz5011_5, hfz5011_6, hfz5011_7, hfz5011_8, hfz5011_9, hfz5011_10, hfz5011_11⟩ := fz12 BK5000.out; obtain ⟨hcz5012_0, hcz5012_1, hcz5012_2, hcz5012_3, hcz5012_4, hcz5012_5, hcz5012_6, hcz5012_7, hcz5012_8, hcz5012_9, hcz5012_10, hcz5012_11⟩ := cz12 BK5002.out; obtain ⟨hfz5012_0, hfz5012_1, hfz5012_2, hfz5012_3, hfz5012_4, hfz5012_5, hfz5012_6, hfz5012_7, hfz5012_8, hfz5012_9, hfz5012_10, hfz5012_11⟩ := fz12 BK5002.out) | ((with_reducible refine gate_callee (f := 54) rfl ?_); refine gl (some 26) Try.func54 #[.agg #[.int .i64 a0_6, .int .i64 a0_7], .agg #[.int .i64 a1_6, .int .i64 a1_7]] ?_; (with_reducible refine (laws_eqVec.calls a0_6 a0_7 a1_6 a1_7 true _ A8.out).mono ?_); rintro e w5013 ⟨rfl, hb⟩; refine ⟨_, rfl, ?_⟩; replace BK5000 := kBB BK5000 hb; replace BK5002 := kBB BK5002 hb; replace HB := bS HB hb; clear hb; obtain ⟨hcz5014_0, hcz5014_1, hcz5014_2, hcz5014_3, hcz5014_4, hcz5014_5, hcz5014_6, hcz5014_7, hcz5014_8, hcz5014_9, hcz5014_10, hcz5014_11⟩ := cz12 BK5000.out; obtain ⟨hfz5014_0, hfz5014_1, hfz5014_2, hfz5014_3, hfz5014_4, hfz5014_5, hfz5014_6, hfz5014_7, hfz5014_8, hfz5014_9, hfz5014_10, hfz5014_11⟩ := fz12 BK5000.out; obtain ⟨hcz5015_0, hcz5015_1, hcz5015_2, hcz5015_3, hcz5015_4, hcz5015_5, hcz5015_6, hcz5015_7, hcz5015_8, hcz5015_9, hcz5015_10, hcz5015_11⟩ := cz12 BK5002.out; obtain ⟨hfz5015_0, hfz5015_1, hfz5015_2, hfz5015_3, hfz5015_4, hfz5015_5, hfz5015_6, hfz5015_7, hfz5015_8, hfz5015_9, hfz5015_10, hfz5015_11⟩ := fz12 BK5002.out))
    go_ret
    exact ⟨qE, qL HB⟩) : P := h
set_option maxHeartbeats 8000000 in
set_option maxRecDepth 100000 in
theorem laws_eqBody.calls (a0_0 : Int) (a0_1 : Int) (a0_2 : Int) (a0_3 : Int) (a0_4 : Int) (a0_5 : Int) (a0_6 : Int) (a0_7 : Int) (a0_8 : Int) (a0_9 : Int) (a0_10 : Int) (a0_11 : Int) (a1_0 : Int) (a1_1 : Int) (a1_2 : Int) (a1_3 : Int) (a1_4 : Int) (a1_5 : Int) (a1_6 : Int) (a1_7 : Int) (a1_8 : Int) (a1_9 : Int) (a1_10 : Int) (a1_11 : Int) (r : Bool) (w : World) (h : laws_eqBody.f a0_0 a0_1 a0_2 a0_3 a0_4 a0_5 a0_6 a0_7 a0_8 a0_9 a0_10 a0_11 a1_0 a1_1 a1_2 a1_3 a1_4 a1_5 a1_6 a1_7 a1_8 a1_9 a1_10 a1_11 = some r) :
    Calls Try.prog 22 #[.agg #[.int .i64 a0_0, .int .i64 a0_1, .int .i64 a0_2, .int .i64 a0_3, .int .i64 a0_4, .int .i64 a0_5, .int .i64 a0_6, .int .i64 a0_7, .int .i64 a0_8, .int .i64 a0_9, .int .i64 a0_10, .int .i64 a0_11], .agg #[.int .i64 a1_0, .int .i64 a1_1, .int .i64 a1_2, .int .i64 a1_3, .int .i64 a1_4, .int .i64 a1_5, .int .i64 a1_6, .int .i64 a1_7, .int .i64 a1_8, .int .i64 a1_9, .int .i64 a1_10, .int .i64 a1_11]] w fun e w' => e = .returned (.bool r) ∧ Below w.heap.size w w' := by
  have hu40 := Try.underlying40
  have hu38 := Try.underlying38
  have hu24 := Try.underlying24
  have HB := az (Below.refl w.heap.size w)
  have H : (if a0_0 = a1_0 then ((laws_eqShape.f a0_1 a0_2 a0_3 a1_1 a1_2 a1_3).bind fun t372 => (if t372 = true then ((laws_eqVec.f a0_4 a0_5 a1_4 a1_5).bind fun t373 => (if t373 = true then ((laws_eqVec.f a0_6 a0_7 a1_6 a1_7).bind fun t374 => (if t374 = true then (if a0_8 = a1_8 then (if a0_9 = a1_9 then (if a0_10 = a1_10 then (if a0_11 = a1_11 then (some true) else (some false)) else (some false)) else (some false)) else (some false)) else (some false))) else (some false))) else (some false))) else (some false)) = some r := h
  clear h
  by_cases c3 : a0_0 = a1_0
  · rw [if_pos c3] at H
    have c3b0 : (a0_0 == a1_0) = true := beq_iff_eq.mpr c3
    have c3b1 : (a0_0 != a1_0) = false := bne_eq_false_iff_eq.mpr c3
    clear c3
    replace H := qH H
    obtain ⟨t372, A4, H⟩ := H
    try dsimp only at H
    by_cases c5 : t372 = true
    · subst c5
      replace H := qT H
      replace H := qH H
      obtain ⟨t373, A6, H⟩ := H
      try dsimp only at H
      by_cases c7 : t373 = true
      · subst c7
        replace H := qT H
        replace H := qH H
        obtain ⟨t374, A8, H⟩ := H
        try dsimp only at H
        by_cases c9 : t374 = true
        · subst c9
          replace H := qT H
          by_cases c10 : a0_8 = a1_8
          · rw [if_pos c10] at H
            have c10b0 : (a0_8 == a1_8) = true := beq_iff_eq.mpr c10
            have c10b1 : (a0_8 != a1_8) = false := bne_eq_false_iff_eq.mpr c10
            clear c10
            by_cases c11 : a0_9 = a1_9
            · rw [if_pos c11] at H
              have c11b0 : (a0_9 == a1_9) = true := beq_iff_eq.mpr c11
              have c11b1 : (a0_9 != a1_9) = false := bne_eq_false_iff_eq.mpr c11
              clear c11
              by_cases c12 : a0_10 = a1_10
              · rw [if_pos c12] at H
                have c12b0 : (a0_10 == a1_10) = true := beq_iff_eq.mpr c12
                have c12b1 : (a0_10 != a1_10) = false := bne_eq_false_iff_eq.mpr c12
                clear c12
                by_cases c13 : a0_11 = a1_11
                · rw [if_pos c13] at H
                  have c13b0 : (a0_11 == a1_11) = true := beq_iff_eq.mpr c13
                  have c13b1 : (a0_11 != a1_11) = false := bne_eq_false_iff_eq.mpr c13
                  clear c13
                  obtain rfl := Option.some.inj H
                  exact laws_eqBody.lf0
                rw [if_neg c13] at H
                have c13b0 : (a0_11 == a1_11) = false := beq_eq_false_iff_ne.mpr c13
                have c13b1 : (a0_11 != a1_11) = true := bne_iff_ne.mpr c13
                obtain rfl := Option.some.inj H
                exact laws_eqBody.lf0
              rw [if_neg c12] at H
              have c12b0 : (a0_10 == a1_10) = false := beq_eq_false_iff_ne.mpr c12
              have c12b1 : (a0_10 != a1_10) = true := bne_iff_ne.mpr c12
              obtain rfl := Option.some.inj H
              exact laws_eqBody.lf0
            rw [if_neg c11] at H
            have c11b0 : (a0_9 == a1_9) = false := beq_eq_false_iff_ne.mpr c11
            have c11b1 : (a0_9 != a1_9) = true := bne_iff_ne.mpr c11
            obtain rfl := Option.some.inj H
            exact laws_eqBody.lf0
          rw [if_neg c10] at H
          have c10b0 : (a0_8 == a1_8) = false := beq_eq_false_iff_ne.mpr c10
          have c10b1 : (a0_8 != a1_8) = true := bne_iff_ne.mpr c10
          obtain rfl := Option.some.inj H
          exact laws_eqBody.lf0
        replace c9 := Bool.eq_false_iff.mpr c9
        subst c9
        replace H := qU H
        obtain rfl := Option.some.inj H
        go_enter Try.func22, Try.ntmps22
        go_wp2_with (first | ((with_reducible refine gate_dst (N := 2) rfl ?_); refine bx (N := 2) (cs := #[.int .i64 a0_0, .int .i64 a0_1, .int .i64 a0_2, .int .i64 a0_3, .int .i64 a0_4, .int .i64 a0_5, .int .i64 a0_6, .int .i64 a0_7, .int .i64 a0_8, .int .i64 a0_9, .int .i64 a0_10, .int .i64 a0_11]) (t := 40) ?_; intro gb370 hg w84 hbox hb; have BK370 := az hbox; have GW370 := az ((gE hg (qL HB) : w.heap.size ≤ gb370)); have GE370 := GW370; replace HB := bS HB hb; clear hb hbox hg) | ((with_reducible refine gate_dst (N := 3) rfl ?_); refine bx (N := 3) (cs := #[.int .i64 a1_0, .int .i64 a1_1, .int .i64 a1_2, .int .i64 a1_3, .int .i64 a1_4, .int .i64 a1_5, .int .i64 a1_6, .int .i64 a1_7, .int .i64 a1_8, .int .i64 a1_9, .int .i64 a1_10, .int .i64 a1_11]) (t := 40) ?_; intro gb371 hg w85 hbox hb; have BK371 := az hbox; have GW371 := az ((gE hg (qL HB) : w.heap.size ≤ gb371)); have GE371 := GW371; obtain ⟨NB370_371, NB371_370⟩ := nPB BK370 hg; replace BK370 := kBB BK370 hb; replace HB := bS HB hb; clear hb hbox hg; have hnb86 := NB370_371.out; have hnc86 := NB371_370.out; obtain ⟨hcz87_0, hcz87_1, hcz87_2, hcz87_3, hcz87_4, hcz87_5, hcz87_6, hcz87_7, hcz87_8, hcz87_9, hcz87_10, hcz87_11⟩ := cz12 BK370.out; obtain ⟨hfz87_0, hfz87_1, hfz87_2, hfz87_3, hfz87_4, hfz87_5, hfz87_6, hfz87_7, hfz87_8, hfz87_9, hfz87_10, hfz87_11⟩ := fz12 BK370.out; obtain ⟨hcz88_0, hcz88_1, hcz88_2, hcz88_3, hcz88_4, hcz88_5, hcz88_6, hcz88_7, hcz88_8, hcz88_9, hcz88_10, hcz88_11⟩ := cz12 BK371.out; obtain ⟨hfz88_0, hfz88_1, hfz88_2, hfz88_3, hfz88_4, hfz88_5, hfz88_6, hfz88_7, hfz88_8, hfz88_9, hfz88_10, hfz88_11⟩ := fz12 BK371.out) | ((with_reducible refine gate_callee (f := 53) rfl ?_); refine gl (some 14) Try.func53 #[.agg #[.int .i64 a0_1, .int .i64 a0_2, .int .i64 a0_3], .agg #[.int .i64 a1_1, .int .i64 a1_2, .int .i64 a1_3]] ?_; (with_reducible refine (laws_eqShape.calls a0_1 a0_2 a0_3 a1_1 a1_2 a1_3 true _ A4.out).mono ?_); rintro e w89 ⟨rfl, hb⟩; refine ⟨_, rfl, ?_⟩; replace BK370 := kBB BK370 hb; replace BK371 := kBB BK371 hb; replace HB := bS HB hb; clear hb; obtain ⟨hcz90_0, hcz90_1, hcz90_2, hcz90_3, hcz90_4, hcz90_5, hcz90_6, hcz90_7, hcz90_8, hcz90_9, hcz90_10, hcz90_11⟩ := cz12 BK370.out; obtain ⟨hfz90_0, hfz90_1, hfz90_2, hfz90_3, hfz90_4, hfz90_5, hfz90_6, hfz90_7, hfz90_8, hfz90_9, hfz90_10, hfz90_11⟩ := fz12 BK370.out; obtain ⟨hcz91_0, hcz91_1, hcz91_2, hcz91_3, hcz91_4, hcz91_5, hcz91_6, hcz91_7, hcz91_8, hcz91_9, hcz91_10, hcz91_11⟩ := cz12 BK371.out; obtain ⟨hfz91_0, hfz91_1, hfz91_2, hfz91_3, hfz91_4, hfz91_5, hfz91_6, hfz91_7, hfz91_8, hfz91_9, hfz91_10, hfz91_11⟩ := fz12 BK371.out) | ((with_reducible refine gate_callee (f := 54) rfl ?_); refine gl (some 20) Try.func54 #[.agg #[.int .i64 a0_4, .int .i64 a0_5], .agg #[.int .i64 a1_4, .int .i64 a1_5]] ?_; (with_reducible refine (laws_eqVec.calls a0_4 a0_5 a1_4 a1_5 true _ A6.out).mono ?_); rintro e w92 ⟨rfl, hb⟩; refine ⟨_, rfl, ?_⟩; replace BK370 := kBB BK370 hb; replace BK371 := kBB BK371 hb; replace HB := bS HB hb; clear hb; obtain ⟨hcz93_0, hcz93_1, hcz93_2, hcz93_3, hcz93_4, hcz93_5, hcz93_6, hcz93_7, hcz93_8, hcz93_9, hcz93_10, hcz93_11⟩ := cz12 BK370.out; obtain ⟨hfz93_0, hfz93_1, hfz93_2, hfz93_3, hfz93_4, hfz93_5, hfz93_6, hfz93_7, hfz93_8, hfz93_9, hfz93_10, hfz93_11⟩ := fz12 BK370.out; obtain ⟨hcz94_0, hcz94_1, hcz94_2, hcz94_3, hcz94_4, hcz94_5, hcz94_6, hcz94_7, hcz94_8, hcz94_9, hcz94_10, hcz94_11⟩ := cz12 BK371.out; obtain ⟨hfz94_0, hfz94_1, hfz94_2, hfz94_3, hfz94_4, hfz94_5, hfz94_6, hfz94_7, hfz94_8, hfz94_9, hfz94_10, hfz94_11⟩ := fz12 BK371.out) | ((with_reducible refine gate_callee (f := 54) rfl ?_); refine gl (some 26) Try.func54 #[.agg #[.int .i64 a0_6, .int .i64 a0_7], .agg #[.int .i64 a1_6, .int .i64 a1_7]] ?_; (with_reducible refine (laws_eqVec.calls a0_6 a0_7 a1_6 a1_7 false _ A8.out).mono ?_); rintro e w95 ⟨rfl, hb⟩; refine ⟨_, rfl, ?_⟩; replace BK370 := kBB BK370 hb; replace BK371 := kBB BK371 hb; replace HB := bS HB hb; clear hb))
        go_ret
        exact ⟨qE, qL HB⟩
      replace c7 := Bool.eq_false_iff.mpr c7
      subst c7
      replace H := qU H
      obtain rfl := Option.some.inj H
      go_enter Try.func22, Try.ntmps22
      go_wp2_with (first | ((with_reducible refine gate_dst (N := 2) rfl ?_); refine bx (N := 2) (cs := #[.int .i64 a0_0, .int .i64 a0_1, .int .i64 a0_2, .int .i64 a0_3, .int .i64 a0_4, .int .i64 a0_5, .int .i64 a0_6, .int .i64 a0_7, .int .i64 a0_8, .int .i64 a0_9, .int .i64 a0_10, .int .i64 a0_11]) (t := 40) ?_; intro gb370 hg w96 hbox hb; have BK370 := az hbox; have GW370 := az ((gE hg (qL HB) : w.heap.size ≤ gb370)); have GE370 := GW370; replace HB := bS HB hb; clear hb hbox hg) | ((with_reducible refine gate_dst (N := 3) rfl ?_); refine bx (N := 3) (cs := #[.int .i64 a1_0, .int .i64 a1_1, .int .i64 a1_2, .int .i64 a1_3, .int .i64 a1_4, .int .i64 a1_5, .int .i64 a1_6, .int .i64 a1_7, .int .i64 a1_8, .int .i64 a1_9, .int .i64 a1_10, .int .i64 a1_11]) (t := 40) ?_; intro gb371 hg w97 hbox hb; have BK371 := az hbox; have GW371 := az ((gE hg (qL HB) : w.heap.size ≤ gb371)); have GE371 := GW371; obtain ⟨NB370_371, NB371_370⟩ := nPB BK370 hg; replace BK370 := kBB BK370 hb; replace HB := bS HB hb; clear hb hbox hg; have hnb98 := NB370_371.out; have hnc98 := NB371_370.out; obtain ⟨hcz99_0, hcz99_1, hcz99_2, hcz99_3, hcz99_4, hcz99_5, hcz99_6, hcz99_7, hcz99_8, hcz99_9, hcz99_10, hcz99_11⟩ := cz12 BK370.out; obtain ⟨hfz99_0, hfz99_1, hfz99_2, hfz99_3, hfz99_4, hfz99_5, hfz99_6, hfz99_7, hfz99_8, hfz99_9, hfz99_10, hfz99_11⟩ := fz12 BK370.out; obtain ⟨hcz100_0, hcz100_1, hcz100_2, hcz100_3, hcz100_4, hcz100_5, hcz100_6, hcz100_7, hcz100_8, hcz100_9, hcz100_10, hcz100_11⟩ := cz12 BK371.out; obtain ⟨hfz100_0, hfz100_1, hfz100_2, hfz100_3, hfz100_4, hfz100_5, hfz100_6, hfz100_7, hfz100_8, hfz100_9, hfz100_10, hfz100_11⟩ := fz12 BK371.out) | ((with_reducible refine gate_callee (f := 53) rfl ?_); refine gl (some 14) Try.func53 #[.agg #[.int .i64 a0_1, .int .i64 a0_2, .int .i64 a0_3], .agg #[.int .i64 a1_1, .int .i64 a1_2, .int .i64 a1_3]] ?_; (with_reducible refine (laws_eqShape.calls a0_1 a0_2 a0_3 a1_1 a1_2 a1_3 true _ A4.out).mono ?_); rintro e w101 ⟨rfl, hb⟩; refine ⟨_, rfl, ?_⟩; replace BK370 := kBB BK370 hb; replace BK371 := kBB BK371 hb; replace HB := bS HB hb; clear hb; obtain ⟨hcz102_0, hcz102_1, hcz102_2, hcz102_3, hcz102_4, hcz102_5, hcz102_6, hcz102_7, hcz102_8, hcz102_9, hcz102_10, hcz102_11⟩ := cz12 BK370.out; obtain ⟨hfz102_0, hfz102_1, hfz102_2, hfz102_3, hfz102_4, hfz102_5, hfz102_6, hfz102_7, hfz102_8, hfz102_9, hfz102_10, hfz102_11⟩ := fz12 BK370.out; obtain ⟨hcz103_0, hcz103_1, hcz103_2, hcz103_3, hcz103_4, hcz103_5, hcz103_6, hcz103_7, hcz103_8, hcz103_9, hcz103_10, hcz103_11⟩ := cz12 BK371.out; obtain ⟨hfz103_0, hfz103_1, hfz103_2, hfz103_3, hfz103_4, hfz103_5, hfz103_6, hfz103_7, hfz103_8, hfz103_9, hfz103_10, hfz103_11⟩ := fz12 BK371.out) | ((with_reducible refine gate_callee (f := 54) rfl ?_); refine gl (some 20) Try.func54 #[.agg #[.int .i64 a0_4, .int .i64 a0_5], .agg #[.int .i64 a1_4, .int .i64 a1_5]] ?_; (with_reducible refine (laws_eqVec.calls a0_4 a0_5 a1_4 a1_5 false _ A6.out).mono ?_); rintro e w104 ⟨rfl, hb⟩; refine ⟨_, rfl, ?_⟩; replace BK370 := kBB BK370 hb; replace BK371 := kBB BK371 hb; replace HB := bS HB hb; clear hb))
      go_ret
      exact ⟨qE, qL HB⟩
    replace c5 := Bool.eq_false_iff.mpr c5
    subst c5
    replace H := qU H
    obtain rfl := Option.some.inj H
    go_enter Try.func22, Try.ntmps22
    go_wp2_with (first | ((with_reducible refine gate_dst (N := 2) rfl ?_); refine bx (N := 2) (cs := #[.int .i64 a0_0, .int .i64 a0_1, .int .i64 a0_2, .int .i64 a0_3, .int .i64 a0_4, .int .i64 a0_5, .int .i64 a0_6, .int .i64 a0_7, .int .i64 a0_8, .int .i64 a0_9, .int .i64 a0_10, .int .i64 a0_11]) (t := 40) ?_; intro gb370 hg w105 hbox hb; have BK370 := az hbox; have GW370 := az ((gE hg (qL HB) : w.heap.size ≤ gb370)); have GE370 := GW370; replace HB := bS HB hb; clear hb hbox hg) | ((with_reducible refine gate_dst (N := 3) rfl ?_); refine bx (N := 3) (cs := #[.int .i64 a1_0, .int .i64 a1_1, .int .i64 a1_2, .int .i64 a1_3, .int .i64 a1_4, .int .i64 a1_5, .int .i64 a1_6, .int .i64 a1_7, .int .i64 a1_8, .int .i64 a1_9, .int .i64 a1_10, .int .i64 a1_11]) (t := 40) ?_; intro gb371 hg w106 hbox hb; have BK371 := az hbox; have GW371 := az ((gE hg (qL HB) : w.heap.size ≤ gb371)); have GE371 := GW371; obtain ⟨NB370_371, NB371_370⟩ := nPB BK370 hg; replace BK370 := kBB BK370 hb; replace HB := bS HB hb; clear hb hbox hg; have hnb107 := NB370_371.out; have hnc107 := NB371_370.out; obtain ⟨hcz108_0, hcz108_1, hcz108_2, hcz108_3, hcz108_4, hcz108_5, hcz108_6, hcz108_7, hcz108_8, hcz108_9, hcz108_10, hcz108_11⟩ := cz12 BK370.out; obtain ⟨hfz108_0, hfz108_1, hfz108_2, hfz108_3, hfz108_4, hfz108_5, hfz108_6, hfz108_7, hfz108_8, hfz108_9, hfz108_10, hfz108_11⟩ := fz12 BK370.out; obtain ⟨hcz109_0, hcz109_1, hcz109_2, hcz109_3, hcz109_4, hcz109_5, hcz109_6, hcz109_7, hcz109_8, hcz109_9, hcz109_10, hcz109_11⟩ := cz12 BK371.out; obtain ⟨hfz109_0, hfz109_1, hfz109_2, hfz109_3, hfz109_4, hfz109_5, hfz109_6, hfz109_7, hfz109_8, hfz109_9, hfz109_10, hfz109_11⟩ := fz12 BK371.out) | ((with_reducible refine gate_callee (f := 53) rfl ?_); refine gl (some 14) Try.func53 #[.agg #[.int .i64 a0_1, .int .i64 a0_2, .int .i64 a0_3], .agg #[.int .i64 a1_1, .int .i64 a1_2, .int .i64 a1_3]] ?_; (with_reducible refine (laws_eqShape.calls a0_1 a0_2 a0_3 a1_1 a1_2 a1_3 false _ A4.out).mono ?_); rintro e w110 ⟨rfl, hb⟩; refine ⟨_, rfl, ?_⟩; replace BK370 := kBB BK370 hb; replace BK371 := kBB BK371 hb; replace HB := bS HB hb; clear hb))
    go_ret
    exact ⟨qE, qL HB⟩
  rw [if_neg c3] at H
  have c3b0 : (a0_0 == a1_0) = false := beq_eq_false_iff_ne.mpr c3
  have c3b1 : (a0_0 != a1_0) = true := bne_iff_ne.mpr c3
  obtain rfl := Option.some.inj H
  go_enter Try.func22, Try.ntmps22
  go_wp2_with (first | ((with_reducible refine gate_dst (N := 2) rfl ?_); refine bx (N := 2) (cs := #[.int .i64 a0_0, .int .i64 a0_1, .int .i64 a0_2, .int .i64 a0_3, .int .i64 a0_4, .int .i64 a0_5, .int .i64 a0_6, .int .i64 a0_7, .int .i64 a0_8, .int .i64 a0_9, .int .i64 a0_10, .int .i64 a0_11]) (t := 40) ?_; intro gb370 hg w111 hbox hb; have BK370 := az hbox; have GW370 := az ((gE hg (qL HB) : w.heap.size ≤ gb370)); have GE370 := GW370; replace HB := bS HB hb; clear hb hbox hg) | ((with_reducible refine gate_dst (N := 3) rfl ?_); refine bx (N := 3) (cs := #[.int .i64 a1_0, .int .i64 a1_1, .int .i64 a1_2, .int .i64 a1_3, .int .i64 a1_4, .int .i64 a1_5, .int .i64 a1_6, .int .i64 a1_7, .int .i64 a1_8, .int .i64 a1_9, .int .i64 a1_10, .int .i64 a1_11]) (t := 40) ?_; intro gb371 hg w112 hbox hb; have BK371 := az hbox; have GW371 := az ((gE hg (qL HB) : w.heap.size ≤ gb371)); have GE371 := GW371; obtain ⟨NB370_371, NB371_370⟩ := nPB BK370 hg; replace BK370 := kBB BK370 hb; replace HB := bS HB hb; clear hb hbox hg; have hnb113 := NB370_371.out; have hnc113 := NB371_370.out; obtain ⟨hcz114_0, hcz114_1, hcz114_2, hcz114_3, hcz114_4, hcz114_5, hcz114_6, hcz114_7, hcz114_8, hcz114_9, hcz114_10, hcz114_11⟩ := cz12 BK370.out; obtain ⟨hfz114_0, hfz114_1, hfz114_2, hfz114_3, hfz114_4, hfz114_5, hfz114_6, hfz114_7, hfz114_8, hfz114_9, hfz114_10, hfz114_11⟩ := fz12 BK370.out; obtain ⟨hcz115_0, hcz115_1, hcz115_2, hcz115_3, hcz115_4, hcz115_5, hcz115_6, hcz115_7, hcz115_8, hcz115_9, hcz115_10, hcz115_11⟩ := cz12 BK371.out; obtain ⟨hfz115_0, hfz115_1, hfz115_2, hfz115_3, hfz115_4, hfz115_5, hfz115_6, hfz115_7, hfz115_8, hfz115_9, hfz115_10, hfz115_11⟩ := fz12 BK371.out))
  go_ret
  exact ⟨qE, qL HB⟩

/-! ### laws_pqAbs: function 29 -/
def laws_pqAbs.f (a0 : Int) : Option (Int) := if a0 < 0 then (some (wrap64 (-a0))) else (some a0)
set_option maxHeartbeats 8000000 in
set_option maxRecDepth 100000 in
theorem laws_pqAbs.calls (a0 : Int) (r : Int) (w : World) (h : laws_pqAbs.f a0 = some r) :
    Calls Try.prog 29 #[.int .i64 a0] w fun e w' => e = .returned (.int .i64 r) ∧ Drawn0 w w' := by
  have H : (if a0 < 0 then (some (wrap64 (-a0))) else (some a0)) = some r := h
  clear h
  by_cases c2 : a0 < 0
  · rw [if_pos c2] at H
    have c2b0 : decide (a0 < 0) = true := decide_eq_true c2
    clear c2
    obtain rfl := Option.some.inj H
    go_enter Try.func29, Try.ntmps29
    go_wp2
    go_ret
    exact ⟨by first | rfl | (simp; done) | (simp [*]; done), by repeat (first | exact Drawn0.refl _ | apply Drawn0.step)⟩
  rw [if_neg c2] at H
  have c2b0 : decide (a0 < 0) = false := decide_eq_false c2
  clear c2
  obtain rfl := Option.some.inj H
  go_enter Try.func29, Try.ntmps29
  go_wp2
  go_ret
  exact ⟨by first | rfl | (simp; done) | (simp [*]; done), by repeat (first | exact Drawn0.refl _ | apply Drawn0.step)⟩

/-! ### laws_eqHit: function 36 -/
def laws_eqHit.f (a0_0 : Int) (a0_1 : Int) (a0_2 : Int) (a1_0 : Int) (a1_1 : Int) (a1_2 : Int) : Option (Bool) := (laws_eqVec.f a0_0 a0_1 a1_0 a1_1).bind fun t1107 => (if t1107 = true then (if a0_2 = a1_2 then (some true) else (some false)) else (some false))
set_option maxHeartbeats 8000000 in
set_option maxRecDepth 100000 in
theorem laws_eqHit.calls (a0_0 : Int) (a0_1 : Int) (a0_2 : Int) (a1_0 : Int) (a1_1 : Int) (a1_2 : Int) (r : Bool) (w : World) (h : laws_eqHit.f a0_0 a0_1 a0_2 a1_0 a1_1 a1_2 = some r) :
    Calls Try.prog 36 #[.agg #[.int .i64 a0_0, .int .i64 a0_1, .int .i64 a0_2], .agg #[.int .i64 a1_0, .int .i64 a1_1, .int .i64 a1_2]] w fun e w' => e = .returned (.bool r) ∧ Below w.heap.size w w' := by
  have hu56 := Try.underlying56
  have hu24 := Try.underlying24
  have HB := az (Below.refl w.heap.size w)
  have H : ((laws_eqVec.f a0_0 a0_1 a1_0 a1_1).bind fun t1107 => (if t1107 = true then (if a0_2 = a1_2 then (some true) else (some false)) else (some false))) = some r := h
  clear h
  replace H := qH H
  obtain ⟨t1107, A3, H⟩ := H
  try dsimp only at H
  by_cases c4 : t1107 = true
  · subst c4
    replace H := qT H
    by_cases c5 : a0_2 = a1_2
    · rw [if_pos c5] at H
      have c5b0 : (a0_2 == a1_2) = true := beq_iff_eq.mpr c5
      have c5b1 : (a0_2 != a1_2) = false := bne_eq_false_iff_eq.mpr c5
      clear c5
      obtain rfl := Option.some.inj H
      go_enter Try.func36, Try.ntmps36
      go_wp2_with (first | ((with_reducible refine gate_dst (N := 2) rfl ?_); refine bx (N := 2) (cs := #[.int .i64 a0_0, .int .i64 a0_1, .int .i64 a0_2]) (t := 56) ?_; intro gb1105 hg w6 hbox hb; have BK1105 := az hbox; have GW1105 := az ((gE hg (qL HB) : w.heap.size ≤ gb1105)); have GE1105 := GW1105; replace HB := bS HB hb; clear hb hbox hg) | ((with_reducible refine gate_dst (N := 3) rfl ?_); refine bx (N := 3) (cs := #[.int .i64 a1_0, .int .i64 a1_1, .int .i64 a1_2]) (t := 56) ?_; intro gb1106 hg w7 hbox hb; have BK1106 := az hbox; have GW1106 := az ((gE hg (qL HB) : w.heap.size ≤ gb1106)); have GE1106 := GW1106; obtain ⟨NB1105_1106, NB1106_1105⟩ := nPB BK1105 hg; replace BK1105 := kBB BK1105 hb; replace HB := bS HB hb; clear hb hbox hg; have hnb8 := NB1105_1106.out; have hnc8 := NB1106_1105.out; obtain ⟨hcz9_0, hcz9_1, hcz9_2⟩ := cz3 BK1105.out; obtain ⟨hfz9_0, hfz9_1, hfz9_2⟩ := fz3 BK1105.out; obtain ⟨hcz10_0, hcz10_1, hcz10_2⟩ := cz3 BK1106.out; obtain ⟨hfz10_0, hfz10_1, hfz10_2⟩ := fz3 BK1106.out) | ((with_reducible refine gate_callee (f := 54) rfl ?_); refine gl (some 9) Try.func54 #[.agg #[.int .i64 a0_0, .int .i64 a0_1], .agg #[.int .i64 a1_0, .int .i64 a1_1]] ?_; (with_reducible refine (laws_eqVec.calls a0_0 a0_1 a1_0 a1_1 true _ A3.out).mono ?_); rintro e w11 ⟨rfl, hb⟩; refine ⟨_, rfl, ?_⟩; replace BK1105 := kBB BK1105 hb; replace BK1106 := kBB BK1106 hb; replace HB := bS HB hb; clear hb; obtain ⟨hcz12_0, hcz12_1, hcz12_2⟩ := cz3 BK1105.out; obtain ⟨hfz12_0, hfz12_1, hfz12_2⟩ := fz3 BK1105.out; obtain ⟨hcz13_0, hcz13_1, hcz13_2⟩ := cz3 BK1106.out; obtain ⟨hfz13_0, hfz13_1, hfz13_2⟩ := fz3 BK1106.out))
      go_ret
      exact ⟨qE, qL HB⟩
    rw [if_neg c5] at H
    have c5b0 : (a0_2 == a1_2) = false := beq_eq_false_iff_ne.mpr c5
    have c5b1 : (a0_2 != a1_2) = true := bne_iff_ne.mpr c5
    obtain rfl := Option.some.inj H
    go_enter Try.func36, Try.ntmps36
    go_wp2_with (first | ((with_reducible refine gate_dst (N := 2) rfl ?_); refine bx (N := 2) (cs := #[.int .i64 a0_0, .int .i64 a0_1, .int .i64 a0_2]) (t := 56) ?_; intro gb1105 hg w14 hbox hb; have BK1105 := az hbox; have GW1105 := az ((gE hg (qL HB) : w.heap.size ≤ gb1105)); have GE1105 := GW1105; replace HB := bS HB hb; clear hb hbox hg) | ((with_reducible refine gate_dst (N := 3) rfl ?_); refine bx (N := 3) (cs := #[.int .i64 a1_0, .int .i64 a1_1, .int .i64 a1_2]) (t := 56) ?_; intro gb1106 hg w15 hbox hb; have BK1106 := az hbox; have GW1106 := az ((gE hg (qL HB) : w.heap.size ≤ gb1106)); have GE1106 := GW1106; obtain ⟨NB1105_1106, NB1106_1105⟩ := nPB BK1105 hg; replace BK1105 := kBB BK1105 hb; replace HB := bS HB hb; clear hb hbox hg; have hnb16 := NB1105_1106.out; have hnc16 := NB1106_1105.out; obtain ⟨hcz17_0, hcz17_1, hcz17_2⟩ := cz3 BK1105.out; obtain ⟨hfz17_0, hfz17_1, hfz17_2⟩ := fz3 BK1105.out; obtain ⟨hcz18_0, hcz18_1, hcz18_2⟩ := cz3 BK1106.out; obtain ⟨hfz18_0, hfz18_1, hfz18_2⟩ := fz3 BK1106.out) | ((with_reducible refine gate_callee (f := 54) rfl ?_); refine gl (some 9) Try.func54 #[.agg #[.int .i64 a0_0, .int .i64 a0_1], .agg #[.int .i64 a1_0, .int .i64 a1_1]] ?_; (with_reducible refine (laws_eqVec.calls a0_0 a0_1 a1_0 a1_1 true _ A3.out).mono ?_); rintro e w19 ⟨rfl, hb⟩; refine ⟨_, rfl, ?_⟩; replace BK1105 := kBB BK1105 hb; replace BK1106 := kBB BK1106 hb; replace HB := bS HB hb; clear hb; obtain ⟨hcz20_0, hcz20_1, hcz20_2⟩ := cz3 BK1105.out; obtain ⟨hfz20_0, hfz20_1, hfz20_2⟩ := fz3 BK1105.out; obtain ⟨hcz21_0, hcz21_1, hcz21_2⟩ := cz3 BK1106.out; obtain ⟨hfz21_0, hfz21_1, hfz21_2⟩ := fz3 BK1106.out))
    go_ret
    exact ⟨qE, qL HB⟩
  replace c4 := Bool.eq_false_iff.mpr c4
  subst c4
  replace H := qU H
  obtain rfl := Option.some.inj H
  go_enter Try.func36, Try.ntmps36
  go_wp2_with (first | ((with_reducible refine gate_dst (N := 2) rfl ?_); refine bx (N := 2) (cs := #[.int .i64 a0_0, .int .i64 a0_1, .int .i64 a0_2]) (t := 56) ?_; intro gb1105 hg w22 hbox hb; have BK1105 := az hbox; have GW1105 := az ((gE hg (qL HB) : w.heap.size ≤ gb1105)); have GE1105 := GW1105; replace HB := bS HB hb; clear hb hbox hg) | ((with_reducible refine gate_dst (N := 3) rfl ?_); refine bx (N := 3) (cs := #[.int .i64 a1_0, .int .i64 a1_1, .int .i64 a1_2]) (t := 56) ?_; intro gb1106 hg w23 hbox hb; have BK1106 := az hbox; have GW1106 := az ((gE hg (qL HB) : w.heap.size ≤ gb1106)); have GE1106 := GW1106; obtain ⟨NB1105_1106, NB1106_1105⟩ := nPB BK1105 hg; replace BK1105 := kBB BK1105 hb; replace HB := bS HB hb; clear hb hbox hg; have hnb24 := NB1105_1106.out; have hnc24 := NB1106_1105.out; obtain ⟨hcz25_0, hcz25_1, hcz25_2⟩ := cz3 BK1105.out; obtain ⟨hfz25_0, hfz25_1, hfz25_2⟩ := fz3 BK1105.out; obtain ⟨hcz26_0, hcz26_1, hcz26_2⟩ := cz3 BK1106.out; obtain ⟨hfz26_0, hfz26_1, hfz26_2⟩ := fz3 BK1106.out) | ((with_reducible refine gate_callee (f := 54) rfl ?_); refine gl (some 9) Try.func54 #[.agg #[.int .i64 a0_0, .int .i64 a0_1], .agg #[.int .i64 a1_0, .int .i64 a1_1]] ?_; (with_reducible refine (laws_eqVec.calls a0_0 a0_1 a1_0 a1_1 false _ A3.out).mono ?_); rintro e w27 ⟨rfl, hb⟩; refine ⟨_, rfl, ?_⟩; replace BK1105 := kBB BK1105 hb; replace BK1106 := kBB BK1106 hb; replace HB := bS HB hb; clear hb))
  go_ret
  exact ⟨qE, qL HB⟩
end Go.Proofs.Ytihajbjkjclmoaa.PBig
