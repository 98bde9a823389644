-- MINE
import Derived.Test.YtgclkbklhopaaaaSq
import Derived.Test.YtgclkbklhopaaaaPBigx900
namespace Go.Proofs.Ytgclkbklhopaaaa.PBig
open Go.RowKit Go.Proofs.YtgclkbklhopaaaaW.PrintWords Go.Proofs.YtgclkbklhopaaaaW.PrintLast Go.Proofs.YtgclkbklhopaaaaW.PrintMore
attribute [local go_sem] max2_int min2_int max_two min_two max_three min_three max_four min_four   -- for this text's walks alone
set_option linter.unusedVariables false
set_option linter.unusedSimpArgs false

/-! ### impl_Body_speed: function 68 -/
def impl_Body_speed.f (a0_0 : Int) (a0_1 : Int) (a0_2 : Int) (a0_3 : Int) (a0_4 : Int) (a0_5 : Int) (a0_6 : Int) (a0_7 : Int) (a0_8 : Int) (a0_9 : Int) (a0_10 : Int) (a0_11 : Int) : Option (Int × Int) := (impl_Body_fixed.f a0_0 a0_1 a0_2 a0_3 a0_4 a0_5 a0_6 a0_7 a0_8 a0_9 a0_10 a0_11).bind fun t321 => (if t321 = true then (some (0, 0)) else (if a0_8 = 0 then (none) else (some (wrap64 (Int.tdiv a0_6 a0_8), wrap64 (Int.tdiv a0_7 a0_8)))))
def impl_Body_speed.T3 : Bool × List (List Nat × List Nat) := (true, [([], []), ([0], [0]), ([1], [1]), ([], []), ([3], [3]), ([2, 4], [2, 4]), ([], []), ([6], [6]), ([7], [7]), ([], []), ([9], [9]), ([8, 10], [8, 10]), ([5, 11], [5, 11]), ([12, 0, 1, 2, 3, 4, 5, 6, 7, 8, 9, 10, 11, 12], [12])])
def impl_Body_speed.B3 : List Nat := [0, 1, 3, 0, 8, 31, 0, 64, 192, 0, 512, 1984, 4095, 8191]
theorem impl_Body_speed.tab3 : rtab .any (opsOf Try.f68 3) = impl_Body_speed.T3 := by kernel_rfl
theorem impl_Body_speed.bits3 : waitsOk impl_Body_speed.T3.2 impl_Body_speed.B3 = true := by kernel_rfl
set_option maxHeartbeats 8000000 in
set_option maxRecDepth 100000 in
theorem impl_Body_speed.calls (a0_0 : Int) (a0_1 : Int) (a0_2 : Int) (a0_3 : Int) (a0_4 : Int) (a0_5 : Int) (a0_6 : Int) (a0_7 : Int) (a0_8 : Int) (a0_9 : Int) (a0_10 : Int) (a0_11 : Int) (r1 : Int) (r2 : Int) (w : World) (h : impl_Body_speed.f a0_0 a0_1 a0_2 a0_3 a0_4 a0_5 a0_6 a0_7 a0_8 a0_9 a0_10 a0_11 = some (r1, r2)) :
    Calls Try.prog 68 #[.agg #[.int .i64 a0_0, .int .i64 a0_1, .int .i64 a0_2, .int .i64 a0_3, .int .i64 a0_4, .int .i64 a0_5, .int .i64 a0_6, .int .i64 a0_7, .int .i64 a0_8, .int .i64 a0_9, .int .i64 a0_10, .int .i64 a0_11]] w fun e w' => e = .returned (.agg #[.int .i64 r1, .int .i64 r2]) ∧ Below w.heap.size w w' := by
  have hu41 := Try.underlying41
  have hu24 := Try.underlying24
  have HB := Aside0.mk (Below.refl w.heap.size w)
  have H : ((impl_Body_fixed.f a0_0 a0_1 a0_2 a0_3 a0_4 a0_5 a0_6 a0_7 a0_8 a0_9 a0_10 a0_11).bind fun t321 => (if t321 = true then (some (0, 0)) else (if a0_8 = 0 then (none) else (some (wrap64 (Int.tdiv a0_6 a0_8), wrap64 (Int.tdiv a0_7 a0_8)))))) = some (r1, r2) := h
  clear h
  replace H := qH H
  obtain ⟨t321, A2, H⟩ := H
  try dsimp only at H
  by_cases c3 : t321 = true
  · subst c3
    have H1 : (some (0, 0)) = some (r1, r2) := by rw [if_pos rfl] at H; exact H
    clear H
    have H := H1
    clear H1
    simp only [Option.some.injEq, Prod.mk.injEq] at H
    obtain ⟨rfl, rfl⟩ := H
    go_enter Try.func68, Try.ntmps68
    go_wp2_with (first | ((with_reducible refine gate_dst (N := 1) rfl ?_); refine bx (N := 1) (cs := #[.int .i64 a0_0, .int .i64 a0_1, .int .i64 a0_2, .int .i64 a0_3, .int .i64 a0_4, .int .i64 a0_5, .int .i64 a0_6, .int .i64 a0_7, .int .i64 a0_8, .int .i64 a0_9, .int .i64 a0_10, .int .i64 a0_11]) (t := 41) ?_; intro gb319 hg w4 hbox hb; have BK319 := Aside0.mk (hbox); have GW319 := Aside0.mk ((gE hg (qL HB) : w.heap.size ≤ gb319)); have GE319 := Aside0.mk ((gE hg (qL HB) : w.heap.size ≤ gb319)); replace HB := bS HB hb; clear hb hbox hg) | ((with_reducible refine gate_dst (N := 2) rfl ?_); refine bx (N := 2) (cs := #[.int .i64 0, .int .i64 0]) (t := 24) ?_; intro gb320 hg w5 hbox hb; have BK320 := Aside0.mk (hbox); have GW320 := Aside0.mk ((gE hg (qL HB) : w.heap.size ≤ gb320)); have GE320 := Aside0.mk ((gE hg (qL HB) : w.heap.size ≤ gb320)); have NB319_320 := nLB BK319 hg; have NB320_319 := nGB BK319 hg; replace BK319 := kBB BK319 hb; replace HB := bS HB hb; clear hb hbox hg; have hnb6 := NB319_320.out; have hnc6 := NB320_319.out; obtain ⟨hcz7_0, hcz7_1, hcz7_2, hcz7_3, hcz7_4, hcz7_5, hcz7_6, hcz7_7, hcz7_8, hcz7_9, hcz7_10, hcz7_11⟩ := cz12 BK319.out; obtain ⟨hfz7_0, hfz7_1, hfz7_2, hfz7_3, hfz7_4, hfz7_5, hfz7_6, hfz7_7, hfz7_8, hfz7_9, hfz7_10, hfz7_11⟩ := fz12 BK319.out) | ((with_reducible refine gate_callee (f := 99) rfl ?_); refine gl (some 4) Try.func99 #[.agg #[.int .i64 a0_0, .int .i64 a0_1, .int .i64 a0_2, .int .i64 a0_3, .int .i64 a0_4, .int .i64 a0_5, .int .i64 a0_6, .int .i64 a0_7, .int .i64 a0_8, .int .i64 a0_9, .int .i64 a0_10, .int .i64 a0_11]] ?_; (with_reducible refine (impl_Body_fixed.calls a0_0 a0_1 a0_2 a0_3 a0_4 a0_5 a0_6 a0_7 a0_8 a0_9 a0_10 a0_11 true _ A2.out).mono ?_); rintro e w8 ⟨rfl, hb⟩; refine ⟨_, rfl, ?_⟩; replace BK319 := kBB BK319 hb; replace BK320 := kBB BK320 hb; replace HB := bS HB hb; clear hb; obtain ⟨hcz9_0, hcz9_1⟩ := cz2 BK320.out; have hfz9_0 := blk_frozen BK320.out 0; have hfz9_1 := blk_frozen BK320.out 1))
    refine bodyPost_ret (results_cell_row rfl _ _ gb320 24 #[.int .i64 0, .int .i64 0] (0, 0) _ rfl (qP BK320) Try.underlying24 rfl (by kernel_rfl)) rfl ?_
    exact ⟨qE, qL HB⟩
  replace c3 := Bool.eq_false_iff.mpr c3
  subst c3
  have H1 : (if a0_8 = 0 then (none) else (some (wrap64 (Int.tdiv a0_6 a0_8), wrap64 (Int.tdiv a0_7 a0_8)))) = some (r1, r2) := by rw [if_neg (show ¬ (false = true) by decide)] at H; exact H
  clear H
  have H := H1
  clear H1
  by_cases c10 : a0_8 = 0
  · rw [if_pos c10] at H
    exact absurd H (by simp)
  rw [if_neg c10] at H
  have c10b0 : (a0_8 == 0) = false := beq_eq_false_iff_ne.mpr c10
  have c10b1 : (a0_8 != 0) = true := bne_iff_ne.mpr c10
  simp only [Option.some.injEq, Prod.mk.injEq] at H
  obtain ⟨rfl, rfl⟩ := H
  go_enter Try.func68, Try.ntmps68
  try go_wp2_with (first | ((with_reducible refine gate_dst (N := 1) rfl ?_); refine bx (N := 1) (cs := #[.int .i64 a0_0, .int .i64 a0_1, .int .i64 a0_2, .int .i64 a0_3, .int .i64 a0_4, .int .i64 a0_5, .int .i64 a0_6, .int .i64 a0_7, .int .i64 a0_8, .int .i64 a0_9, .int .i64 a0_10, .int .i64 a0_11]) (t := 41) ?_; intro gb319 hg w11 hbox hb; have BK319 := Aside0.mk (hbox); have GW319 := Aside0.mk ((gE hg (qL HB) : w.heap.size ≤ gb319)); have GE319 := Aside0.mk ((gE hg (qL HB) : w.heap.size ≤ gb319)); replace HB := bS HB hb; clear hb hbox hg) | ((with_reducible refine gate_dst (N := 2) rfl ?_); refine bx (N := 2) (cs := #[.int .i64 0, .int .i64 0]) (t := 24) ?_; intro gb320 hg w12 hbox hb; have BK320 := Aside0.mk (hbox); have GW320 := Aside0.mk ((gE hg (qL HB) : w.heap.size ≤ gb320)); have GE320 := Aside0.mk ((gE hg (qL HB) : w.heap.size ≤ gb320)); have NB319_320 := nLB BK319 hg; have NB320_319 := nGB BK319 hg; replace BK319 := kBB BK319 hb; replace HB := bS HB hb; clear hb hbox hg; have hnb13 := NB319_320.out; have hnc13 := NB320_319.out; obtain ⟨hcz14_0, hcz14_1, hcz14_2, hcz14_3, hcz14_4, hcz14_5, hcz14_6, hcz14_7, hcz14_8, hcz14_9, hcz14_10, hcz14_11⟩ := cz12 BK319.out; obtain ⟨hfz14_0, hfz14_1, hfz14_2, hfz14_3, hfz14_4, hfz14_5, hfz14_6, hfz14_7, hfz14_8, hfz14_9, hfz14_10, hfz14_11⟩ := fz12 BK319.out) | ((with_reducible refine gate_callee (f := 99) rfl ?_); refine gl (some 4) Try.func99 #[.agg #[.int .i64 a0_0, .int .i64 a0_1, .int .i64 a0_2, .int .i64 a0_3, .int .i64 a0_4, .int .i64 a0_5, .int .i64 a0_6, .int .i64 a0_7, .int .i64 a0_8, .int .i64 a0_9, .int .i64 a0_10, .int .i64 a0_11]] ?_; (with_reducible refine (impl_Body_fixed.calls a0_0 a0_1 a0_2 a0_3 a0_4 a0_5 a0_6 a0_7 a0_8 a0_9 a0_10 a0_11 false _ A2.out).mono ?_); rintro e w15 ⟨rfl, hb⟩; refine ⟨_, rfl, ?_⟩; replace BK319 := kBB BK319 hb; replace BK320 := kBB BK320 hb; replace HB := bS HB hb; clear hb))
  replace BK319 := Aside0.mk (blk_drew BK319.out)
  replace BK320 := Aside0.mk (blk_drew BK320.out)
  replace HB := Aside0.mk (below_drew1 HB.out)
  refine start_ (n := 14) (S := fun w' => w'.cell? ⟨gb319, 0, none⟩ = some (.int .i64 a0_0) ∧ w'.cell? ⟨gb319, 1, none⟩ = some (.int .i64 a0_1) ∧ w'.cell? ⟨gb319, 2, none⟩ = some (.int .i64 a0_2) ∧ w'.cell? ⟨gb319, 3, none⟩ = some (.int .i64 a0_3) ∧ w'.cell? ⟨gb319, 4, none⟩ = some (.int .i64 a0_4) ∧ w'.cell? ⟨gb319, 5, none⟩ = some (.int .i64 a0_5) ∧ w'.cell? ⟨gb319, 6, none⟩ = some (.int .i64 a0_6) ∧ w'.cell? ⟨gb319, 7, none⟩ = some (.int .i64 a0_7) ∧ w'.cell? ⟨gb319, 8, none⟩ = some (.int .i64 a0_8) ∧ w'.cell? ⟨gb319, 9, none⟩ = some (.int .i64 a0_9) ∧ w'.cell? ⟨gb319, 10, none⟩ = some (.int .i64 a0_10) ∧ w'.cell? ⟨gb319, 11, none⟩ = some (.int .i64 a0_11)) (ds := []) #[false, false, false, false, false, false, false, false, false, false, false, false, false, false] (by kernel_rfl) rfl rfl ⟨bc BK319 0, bc BK319 1, bc BK319 2, bc BK319 3, bc BK319 4, bc BK319 5, bc BK319 6, bc BK319 7, bc BK319 8, bc BK319 9, bc BK319 10, bc BK319 11⟩ (fun hHeld => ?_); refine with_tabW impl_Body_speed.tab3 impl_Body_speed.bits3 (fun HT_ HW_ => ?_)
  generalize w15.drew = w16 at BK319 BK320 HB hHeld ⊢
  refine pu 0 (some 6) #[true, false, false, false, false, false, false, false, false, false, false, false, false, false] HT_ ?_
  refine pu 1 (some 7) #[true, true, false, false, false, false, false, false, false, false, false, false, false, false] HT_ ?_
  refine pu 3 (some 9) #[true, true, false, true, false, false, false, false, false, false, false, false, false, false] HT_ ?_
  refine pu 6 (some 12) #[true, true, false, true, false, false, true, false, false, false, false, false, false, false] HT_ ?_
  refine pu 7 (some 13) #[true, true, false, true, false, false, true, true, false, false, false, false, false, false] HT_ ?_
  refine pu 9 (some 15) #[true, true, false, true, false, false, true, true, false, true, false, false, false, false] HT_ ?_
  refine tk12 2 (some 8) #[true, true, true, true, false, false, true, true, false, true, false, false, false, false] HT_ HW_ hHeld ?_
  refine tk12 4 (some 10) #[true, true, true, true, true, false, true, true, false, true, false, false, false, false] HT_ HW_ hHeld ?_
  refine pu 5 (some 11) #[true, true, true, true, true, true, true, true, false, true, false, false, false, false] HT_ ?_
  refine tk12 8 (some 14) #[true, true, true, true, true, true, true, true, true, true, false, false, false, false] HT_ HW_ hHeld ?_
  refine tk12 10 (some 16) #[true, true, true, true, true, true, true, true, true, true, true, false, false, false] HT_ HW_ hHeld ?_
  refine pu 11 (some 17) #[true, true, true, true, true, true, true, true, true, true, true, true, false, false] HT_ ?_
  refine pu 12 (some 18) #[true, true, true, true, true, true, true, true, true, true, true, true, true, false] HT_ ?_
  refine on 13 (none) #[true, true, true, true, true, true, true, true, true, true, true, true, true, true] HT_ (fun K hK => ?_)
  have hs17 : w16.cell? ⟨gb320, 0, none⟩ = some (.int .i64 0) := bc BK320 0
  have hfs17 := blk_frozen BK320.out 0
  have hns17_0 := NB319_320.out
  have hms17_0 := NB320_319.out
  have hs18 : w16.cell? ⟨gb320, 1, none⟩ = some (.int .i64 0) := bc BK320 1
  have hfs18 := blk_frozen BK320.out 1
  have hns18_0 := NB319_320.out
  have hms18_0 := NB320_319.out
  refine skip_ (w1 := ?_) (by rfl) rfl ?_ ?_
  rotate_left
  · go_simp
    rfl
  refine hK.out _ _ ⟨(cf NB319_320 ((cf NB319_320 (hHeld.1)))), (cf NB319_320 ((cf NB319_320 (hHeld.2.1)))), (cf NB319_320 ((cf NB319_320 (hHeld.2.2.1)))), (cf NB319_320 ((cf NB319_320 (hHeld.2.2.2.1)))), (cf NB319_320 ((cf NB319_320 (hHeld.2.2.2.2.1)))), (cf NB319_320 ((cf NB319_320 (hHeld.2.2.2.2.2.1)))), (cf NB319_320 ((cf NB319_320 (hHeld.2.2.2.2.2.2.1)))), (cf NB319_320 ((cf NB319_320 (hHeld.2.2.2.2.2.2.2.1)))), (cf NB319_320 ((cf NB319_320 (hHeld.2.2.2.2.2.2.2.2.1)))), (cf NB319_320 ((cf NB319_320 (hHeld.2.2.2.2.2.2.2.2.2.1)))), (cf NB319_320 ((cf NB319_320 (hHeld.2.2.2.2.2.2.2.2.2.2.1)))), (cf NB319_320 ((cf NB319_320 (hHeld.2.2.2.2.2.2.2.2.2.2.2))))⟩ (fun hHeld => ?_)
  clear hK K
  refine done_ (done_of HT_.out (by kernel_rfl)) ?_
  try go_wp2
  refine bodyPost_ret (results_cell_row rfl _ _ gb320 24 #[.int .i64 (wrap64 (Int.tdiv a0_6 a0_8)), .int .i64 (wrap64 (Int.tdiv a0_7 a0_8))] (0, 0) _ rfl (qP BK320) Try.underlying24 rfl (by kernel_rfl)) rfl ?_
  exact ⟨qE, qL HB⟩

end Go.Proofs.Ytgclkbklhopaaaa.PBig
