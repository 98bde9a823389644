/- What these functions compute, each walked once: spec_l3Less, spec_l3More, spec_l3Near, spec_l1In, spec_VecOk, spec_BoxOk, spec_BoxBoth, spec_ShapeOk, spec_l6Drive, spec_l3Place; for all arguments and worlds, under the conditions that each theorem names. -/
import Derived.Test.YtihajbjkjclmoaaSq
namespace Go.Proofs.Ytihajbjkjclmoaa.PBig
open Go.RowKit Go.Proofs.YtihajbjkjclmoaaW.PrintWords Go.Proofs.YtihajbjkjclmoaaW.PrintLast Go.Proofs.YtihajbjkjclmoaaW.PrintMore
attribute [local go_sem] max2_int min2_int max_two min_two max_three min_three max_four min_four   -- for this text's walks alone
set_option linter.unusedVariables false
set_option linter.unusedSimpArgs false

/-! ### spec_l3Less: function 44 -/
def spec_l3Less.f (a0 : Int) (a1 : Int) : Option (Int) := if a0 < a1 then (some a0) else (some a1)
set_option maxHeartbeats 8000000 in
set_option maxRecDepth 100000 in
theorem spec_l3Less.calls (a0 : Int) (a1 : Int) (r : Int) (w : World) (h : spec_l3Less.f a0 a1 = some r) :
    Calls Try.prog 44 #[.int .i64 a0, .int .i64 a1] w fun e w' => e = .returned (.int .i64 r) ∧ Drawn0 w w' := by
  have H : (if a0 < a1 then (some a0) else (some a1)) = some r := h
  clear h
  by_cases c3 : a0 < a1
  · rw [if_pos c3] at H
    have c3b0 : decide (a0 < a1) = true := decide_eq_true c3
    clear c3
    obtain rfl := Option.some.inj H
    go_enter Try.func44, Try.ntmps44
    go_wp2
    go_ret
    exact ⟨by first | rfl | (simp; done) | (simp [*]; done), by repeat (first | exact Drawn0.refl _ | apply Drawn0.step)⟩
  rw [if_neg c3] at H
  have c3b0 : decide (a0 < a1) = false := decide_eq_false c3
  clear c3
  obtain rfl := Option.some.inj H
  go_enter Try.func44, Try.ntmps44
  go_wp2
  go_ret
  exact ⟨by first | rfl | (simp; done) | (simp [*]; done), by repeat (first | exact Drawn0.refl _ | apply Drawn0.step)⟩

/-! ### spec_l3More: function 45 -/
def spec_l3More.f (a0 : Int) (a1 : Int) : Option (Int) := if a0 > a1 then (some a0) else (some a1)
set_option maxHeartbeats 8000000 in
set_option maxRecDepth 100000 in
theorem spec_l3More.calls (a0 : Int) (a1 : Int) (r : Int) (w : World) (h : spec_l3More.f a0 a1 = some r) :
    Calls Try.prog 45 #[.int .i64 a0, .int .i64 a1] w fun e w' => e = .returned (.int .i64 r) ∧ Drawn0 w w' := by
  have H : (if a0 > a1 then (some a0) else (some a1)) = some r := h
  clear h
  by_cases c3 : a0 > a1
  · rw [if_pos c3] at H
    have c3b0 : decide (a1 < a0) = true := decide_eq_true c3
    clear c3
    obtain rfl := Option.some.inj H
    go_enter Try.func45, Try.ntmps45
    go_wp2
    go_ret
    exact ⟨by first | rfl | (simp; done) | (simp [*]; done), by repeat (first | exact Drawn0.refl _ | apply Drawn0.step)⟩
  rw [if_neg c3] at H
  have c3b0 : decide (a1 < a0) = false := decide_eq_false c3
  clear c3
  obtain rfl := Option.some.inj H
  go_enter Try.func45, Try.ntmps45
  go_wp2
  go_ret
  exact ⟨by first | rfl | (simp; done) | (simp [*]; done), by repeat (first | exact Drawn0.refl _ | apply Drawn0.step)⟩

/-! ### spec_l3Near: function 86 -/
def spec_l3Near.f (a0_0 : Int) (a0_1 : Int) (a0_2 : Int) (a0_3 : Int) (a1_0 : Int) (a1_1 : Int) : Option (Int × Int) := (spec_l3More.f a1_0 a0_0).bind fun t151 => ((spec_l3Less.f t151 a0_2).bind fun t152 => ((spec_l3More.f a1_1 a0_1).bind fun t153 => ((spec_l3Less.f t153 a0_3).bind fun t154 => (some (t152, t154)))))
def spec_l3Near.T1 : Bool × List (List Nat × List Nat) := (true, [([], []), ([0], [0]), ([], []), ([2], [2]), ([3], [3]), ([1, 4], [1, 4]), ([], []), ([6], [6]), ([7], [7]), ([5, 8, 5], [5, 8]), ([], []), ([10], [10]), ([], []), ([12], [12]), ([13], [13]), ([11, 14, 9], [11, 14]), ([], []), ([16], [16]), ([17], [17]), ([15, 18, 15], [15, 18]), ([9, 19], [9, 19]), ([20, 19, 0, 1, 2, 3, 4, 5, 6, 7, 8, 9, 10, 11, 12, 13, 14, 15, 16, 17, 18, 19, 20], [20])])
def spec_l3Near.B1 : List Nat := [0, 1, 0, 4, 12, 31, 0, 64, 192, 511, 0, 1024, 0, 4096, 12288, 32767, 0, 65536, 196608, 524287, 1048575, 2097151]
theorem spec_l3Near.tab1 : rtab .any (opsOf Try.f86 1) = spec_l3Near.T1 := by kernel_rfl
theorem spec_l3Near.bits1 : waitsOk spec_l3Near.T1.2 spec_l3Near.B1 = true := by kernel_rfl
set_option maxHeartbeats 8000000 in
set_option maxRecDepth 100000 in
theorem spec_l3Near.calls (a0_0 : Int) (a0_1 : Int) (a0_2 : Int) (a0_3 : Int) (a1_0 : Int) (a1_1 : Int) (r1 : Int) (r2 : Int) (w : World) (h : spec_l3Near.f a0_0 a0_1 a0_2 a0_3 a1_0 a1_1 = some (r1, r2)) :
    Calls Try.prog 86 #[.agg #[.int .i64 a0_0, .int .i64 a0_1, .int .i64 a0_2, .int .i64 a0_3], .agg #[.int .i64 a1_0, .int .i64 a1_1]] w fun e w' => e = .returned (.agg #[.int .i64 r1, .int .i64 r2]) ∧ Below w.heap.size w w' := by
  have hu26 := Try.underlying26
  have hu24 := Try.underlying24
  have HB := az (Below.refl w.heap.size w)
  have H : ((spec_l3More.f a1_0 a0_0).bind fun t151 => ((spec_l3Less.f t151 a0_2).bind fun t152 => ((spec_l3More.f a1_1 a0_1).bind fun t153 => ((spec_l3Less.f t153 a0_3).bind fun t154 => (some (t152, t154)))))) = some (r1, r2) := h
  clear h
  replace H := qH H
  obtain ⟨t151, A3, H⟩ := H
  try dsimp only at H
  replace H := qH H
  obtain ⟨t152, A4, H⟩ := H
  try dsimp only at H
  replace H := qH H
  obtain ⟨t153, A5, H⟩ := H
  try dsimp only at H
  replace H := qH H
  obtain ⟨t154, A6, H⟩ := H
  try dsimp only at H
  simp only [Option.some.injEq, Prod.mk.injEq] at H
  obtain ⟨rfl, rfl⟩ := H
  go_enter Try.func86, Try.ntmps86
  try go_wp2_with (first | ((with_reducible refine gate_dst (N := 2) rfl ?_); refine bx (N := 2) (cs := #[.int .i64 a0_0, .int .i64 a0_1, .int .i64 a0_2, .int .i64 a0_3]) (t := 26) ?_; intro gb148 hg w7 hbox hb; have BK148 := az hbox; have GW148 := az ((gE hg (qL HB) : w.heap.size ≤ gb148)); have GE148 := GW148; replace HB := bS HB hb; clear hb hbox hg) | ((with_reducible refine gate_dst (N := 3) rfl ?_); refine bx (N := 3) (cs := #[.int .i64 a1_0, .int .i64 a1_1]) (t := 24) ?_; intro gb149 hg w8 hbox hb; have BK149 := az hbox; have GW149 := az ((gE hg (qL HB) : w.heap.size ≤ gb149)); have GE149 := GW149; obtain ⟨NB148_149, NB149_148⟩ := nPB BK148 hg; replace BK148 := kBB BK148 hb; replace HB := bS HB hb; clear hb hbox hg) | ((with_reducible refine gate_dst (N := 4) rfl ?_); refine bx (N := 4) (cs := #[.int .i64 0, .int .i64 0]) (t := 24) ?_; intro gb150 hg w9 hbox hb; have BK150 := az hbox; have GW150 := az ((gE hg (qL HB) : w.heap.size ≤ gb150)); have GE150 := GW150; obtain ⟨NB148_150, NB150_148⟩ := nPB BK148 hg; obtain ⟨NB149_150, NB150_149⟩ := nPB BK149 hg; replace BK148 := kBB BK148 hb; replace BK149 := kBB BK149 hb; replace HB := bS HB hb; clear hb hbox hg))
  replace BK148 := az (blk_drew BK148.out)
  replace BK149 := az (blk_drew BK149.out)
  replace BK150 := az (blk_drew BK150.out)
  replace HB := az (below_drew1 HB.out)
  refine start_ (n := 22) (S := fun w' => w'.cell? ⟨gb149, 0, none⟩ = some (.int .i64 a1_0) ∧ w'.cell? ⟨gb149, 1, none⟩ = some (.int .i64 a1_1) ∧ w'.cell? ⟨gb148, 0, none⟩ = some (.int .i64 a0_0) ∧ w'.cell? ⟨gb148, 1, none⟩ = some (.int .i64 a0_1) ∧ w'.cell? ⟨gb148, 2, none⟩ = some (.int .i64 a0_2) ∧ w'.cell? ⟨gb148, 3, none⟩ = some (.int .i64 a0_3)) (ds := []) #[false, false, false, false, false, false, false, false, false, false, false, false, false, false, false, false, false, false, false, false, false, false] (by kernel_rfl) rfl rfl ⟨bc BK149 0, bc BK149 1, bc BK148 0, bc BK148 1, bc BK148 2, bc BK148 3⟩ (fun hHeld => ?_); refine with_tabW spec_l3Near.tab1 spec_l3Near.bits1 (fun HT_ HW_ => ?_)
  generalize w9.drew = w10 at BK148 BK149 BK150 HB hHeld ⊢
  refine pu 0 (some 5) (fl 22 1) HT_ ?_
  refine pu 2 (some 7) (fl 22 5) HT_ ?_
  refine pu 3 (some 8) (fl 22 13) HT_ ?_
  refine pu 6 (some 11) (fl 22 77) HT_ ?_
  refine pu 7 (some 12) (fl 22 205) HT_ ?_
  refine pu 10 (some 15) (fl 22 1229) HT_ ?_
  refine pu 12 (some 17) (fl 22 5325) HT_ ?_
  refine pu 13 (some 18) (fl 22 13517) HT_ ?_
  refine pu 16 (some 21) (fl 22 79053) HT_ ?_
  refine pu 17 (some 22) (fl 22 210125) HT_ ?_
  refine tk6 1 (some 6) (fl 22 210127) HT_ HW_ hHeld ?_
  refine tk6 4 (some 9) (fl 22 210143) HT_ HW_ hHeld ?_
  refine tk6 8 (some 13) (fl 22 210399) HT_ HW_ hHeld ?_
  refine tk6 11 (some 16) (fl 22 212447) HT_ HW_ hHeld ?_
  refine tk6 14 (some 19) (fl 22 228831) HT_ HW_ hHeld ?_
  refine tk6 18 (some 23) (fl 22 490975) HT_ HW_ hHeld ?_
  refine on 5 (some 10) (fl 22 491007) HT_ (fun K hK => ?_)
  refine go1 Try.func45 #[.int .i64 a1_0, .int .i64 a0_0] ?_
  with_reducible refine (spec_l3More.calls a1_0 a0_0 t151 _ A3.out).mono ?_
  rintro e w' ⟨rfl, ⟨nd, rfl⟩⟩
  refine ⟨_, rfl, ?_⟩
  refine hK.out _ _ ⟨bc BK149 0, bc BK149 1, bc BK148 0, bc BK148 1, bc BK148 2, bc BK148 3⟩ (fun hHeld => ?_)
  clear hK K
  refine nm (some 10) ?_
  refine on 9 (some 14) (fl 22 491519) HT_ (fun K hK => ?_)
  refine go1 Try.func44 #[.int .i64 t151, .int .i64 a0_2] ?_
  with_reducible refine (spec_l3Less.calls t151 a0_2 t152 _ A4.out).mono ?_
  rintro e w' ⟨rfl, ⟨nd, rfl⟩⟩
  refine ⟨_, rfl, ?_⟩
  refine hK.out _ _ ⟨bc BK149 0, bc BK149 1, bc BK148 0, bc BK148 1, bc BK148 2, bc BK148 3⟩ (fun hHeld => ?_)
  clear hK K
  refine nm (some 14) ?_
  refine on 15 (some 20) (fl 22 524287) HT_ (fun K hK => ?_)
  refine go1 Try.func45 #[.int .i64 a1_1, .int .i64 a0_1] ?_
  with_reducible refine (spec_l3More.calls a1_1 a0_1 t153 _ A5.out).mono ?_
  rintro e w' ⟨rfl, ⟨nd, rfl⟩⟩
  refine ⟨_, rfl, ?_⟩
  refine hK.out _ _ ⟨bc BK149 0, bc BK149 1, bc BK148 0, bc BK148 1, bc BK148 2, bc BK148 3⟩ (fun hHeld => ?_)
  clear hK K
  refine nm (some 20) ?_
  refine on 19 (some 24) (fl 22 1048575) HT_ (fun K hK => ?_)
  refine go1 Try.func44 #[.int .i64 t153, .int .i64 a0_3] ?_
  with_reducible refine (spec_l3Less.calls t153 a0_3 t154 _ A6.out).mono ?_
  rintro e w' ⟨rfl, ⟨nd, rfl⟩⟩
  refine ⟨_, rfl, ?_⟩
  refine hK.out _ _ ⟨bc BK149 0, bc BK149 1, bc BK148 0, bc BK148 1, bc BK148 2, bc BK148 3⟩ (fun hHeld => ?_)
  clear hK K
  refine nm (some 24) ?_
  refine pu 20 (some 25) (fl 22 2097151) HT_ ?_
  refine on 21 (none) (fl 22 4194303) HT_ (fun K hK => ?_)
  have hs11 : w10.cell? ⟨gb150, 0, none⟩ = some (.int .i64 0) := bc BK150 0
  have hfs11 := blk_frozen BK150.out 0
  have hns11_0 := NB148_150.out
  have hns11_1 := NB149_150.out
  have hms11_0 := NB150_148.out
  have hms11_1 := NB150_149.out
  have hs12 : w10.cell? ⟨gb150, 1, none⟩ = some (.int .i64 0) := bc BK150 1
  have hfs12 := blk_frozen BK150.out 1
  have hns12_0 := NB148_150.out
  have hns12_1 := NB149_150.out
  have hms12_0 := NB150_148.out
  have hms12_1 := NB150_149.out
  refine skip_ (w1 := ?_) ?hw ?hn ?_ ?_; (case hw => unfold Region.wanted; rfl); (case hn => rfl)
  rotate_left
  · go_simp
    rfl
  refine hK.out _ _ ⟨(cf NB149_150 ((cf NB149_150 (hHeld.1)))), (cf NB149_150 ((cf NB149_150 (hHeld.2.1)))), (cf NB148_150 ((cf NB148_150 (hHeld.2.2.1)))), (cf NB148_150 ((cf NB148_150 (hHeld.2.2.2.1)))), (cf NB148_150 ((cf NB148_150 (hHeld.2.2.2.2.1)))), (cf NB148_150 ((cf NB148_150 (hHeld.2.2.2.2.2))))⟩ (fun hHeld => ?_)
  clear hK K
  refine done_ (done_of HT_.out (by kernel_rfl)) ?_
  try go_wp2
  refine bodyPost_ret (results_cell_row rfl _ _ gb150 24 #[.int .i64 t152, .int .i64 t154] (0, 0) _ rfl (qP BK150) Try.underlying24 rfl (by kernel_rfl)) rfl ?_
  exact ⟨qE, qL HB⟩

/-! ### spec_l1In: function 64 -/
def spec_l1In.f (a0 : Int) (a1 : Int) (a2 : Int) : Option (Bool) := if a0 ≥ a1 then (some (decide (a0 ≤ a2))) else (some false)
set_option maxHeartbeats 8000000 in
set_option maxRecDepth 100000 in
theorem spec_l1In.calls (a0 : Int) (a1 : Int) (a2 : Int) (r : Bool) (w : World) (h : spec_l1In.f a0 a1 a2 = some r) :
    Calls Try.prog 64 #[.int .i64 a0, .int .i64 a1, .int .i64 a2] w fun e w' => e = .returned (.bool r) ∧ Drawn0 w w' := by
  have H : (if a0 ≥ a1 then (some (decide (a0 ≤ a2))) else (some false)) = some r := h
  clear h
  by_cases c4 : a0 ≥ a1
  · rw [if_pos c4] at H
    have c4b0 : decide (a1 ≤ a0) = true := decide_eq_true c4
    clear c4
    obtain rfl := Option.some.inj H
    go_enter Try.func64, Try.ntmps64
    go_wp2
    go_ret
    exact ⟨by first | rfl | (simp; done) | (simp [*]; done), by repeat (first | exact Drawn0.refl _ | apply Drawn0.step)⟩
  rw [if_neg c4] at H
  have c4b0 : decide (a1 ≤ a0) = false := decide_eq_false c4
  clear c4
  obtain rfl := Option.some.inj H
  go_enter Try.func64, Try.ntmps64
  go_wp2
  go_ret
  exact ⟨by first | rfl | (simp; done) | (simp [*]; done), by repeat (first | exact Drawn0.refl _ | apply Drawn0.step)⟩

/-! ### spec_VecOk: function 46 -/
def spec_VecOk.f (a0_0 : Int) (a0_1 : Int) : Option (Bool) := (spec_l1In.f a0_0 (-1000000000) 1000000000).bind fun t200 => (if t200 = true then ((spec_l1In.f a0_1 (-1000000000) 1000000000).bind fun t201 => (some t201)) else (some false))
set_option maxHeartbeats 8000000 in
set_option maxRecDepth 100000 in
theorem spec_VecOk.calls (a0_0 : Int) (a0_1 : Int) (r : Bool) (w : World) (h : spec_VecOk.f a0_0 a0_1 = some r) :
    Calls Try.prog 46 #[.agg #[.int .i64 a0_0, .int .i64 a0_1]] w fun e w' => e = .returned (.bool r) ∧ Below w.heap.size w w' := by
  have hu24 := Try.underlying24
  have HB := az (Below.refl w.heap.size w)
  have H : ((spec_l1In.f a0_0 (-1000000000) 1000000000).bind fun t200 => (if t200 = true then ((spec_l1In.f a0_1 (-1000000000) 1000000000).bind fun t201 => (some t201)) else (some false))) = some r := h
  clear h
  replace H := qH H
  obtain ⟨t200, A2, H⟩ := H
  try dsimp only at H
  by_cases c3 : t200 = true
  · subst c3
    replace H := qT H
    replace H := qH H
    obtain ⟨t201, A4, H⟩ := H
    try dsimp only at H
    obtain rfl := Option.some.inj H
    go_enter Try.func46, Try.ntmps46
    go_wp2_with (first | ((with_reducible refine gate_dst (N := 1) rfl ?_); refine bx (N := 1) (cs := #[.int .i64 a0_0, .int .i64 a0_1]) (t := 24) ?_; intro gb199 hg w5 hbox hb; have BK199 := az hbox; have GW199 := az ((gE hg (qL HB) : w.heap.size ≤ gb199)); have GE199 := GW199; replace HB := bS HB hb; clear hb hbox hg; obtain ⟨hcz6_0, hcz6_1⟩ := cz2 BK199.out; have hfz6_0 := blk_frozen BK199.out 0; have hfz6_1 := blk_frozen BK199.out 1) | ((with_reducible refine gate_callee (f := 64) rfl ?_); refine gl (some 5) Try.func64 #[.int .i64 a0_0, .int .i64 (-1000000000), .int .i64 1000000000] ?_; (with_reducible refine (spec_l1In.calls a0_0 (-1000000000) 1000000000 true _ A2.out).mono ?_); rintro e w' ⟨rfl, ⟨nd, rfl⟩⟩; refine ⟨_, rfl, ?_⟩) | (go_at_call 64; (with_reducible refine (spec_l1In.calls a0_1 (-1000000000) 1000000000 t201 _ A4.out).mono ?_); rintro e w' ⟨rfl, ⟨nd, rfl⟩⟩))
    go_ret
    exact ⟨qE, qL HB⟩
  replace c3 := Bool.eq_false_iff.mpr c3
  subst c3
  replace H := qU H
  obtain rfl := Option.some.inj H
  go_enter Try.func46, Try.ntmps46
  go_wp2_with (first | ((with_reducible refine gate_dst (N := 1) rfl ?_); refine bx (N := 1) (cs := #[.int .i64 a0_0, .int .i64 a0_1]) (t := 24) ?_; intro gb199 hg w7 hbox hb; have BK199 := az hbox; have GW199 := az ((gE hg (qL HB) : w.heap.size ≤ gb199)); have GE199 := GW199; replace HB := bS HB hb; clear hb hbox hg; obtain ⟨hcz8_0, hcz8_1⟩ := cz2 BK199.out; have hfz8_0 := blk_frozen BK199.out 0; have hfz8_1 := blk_frozen BK199.out 1) | ((with_reducible refine gate_callee (f := 64) rfl ?_); refine gl (some 5) Try.func64 #[.int .i64 a0_0, .int .i64 (-1000000000), .int .i64 1000000000] ?_; (with_reducible refine (spec_l1In.calls a0_0 (-1000000000) 1000000000 false _ A2.out).mono ?_); rintro e w' ⟨rfl, ⟨nd, rfl⟩⟩; refine ⟨_, rfl, ?_⟩))
  go_ret
  exact ⟨qE, qL HB⟩

/-! ### spec_BoxOk: function 15 -/
def spec_BoxOk.f (a0_0 : Int) (a0_1 : Int) (a0_2 : Int) (a0_3 : Int) : Option (Bool) := (spec_VecOk.f a0_0 a0_1).bind fun t203 => (if t203 = true then ((spec_VecOk.f a0_2 a0_3).bind fun t204 => (if t204 = true then (if a0_0 ≤ a0_2 then (some (decide (a0_1 ≤ a0_3))) else (some false)) else (some false))) else (some false))
set_option maxHeartbeats 8000000 in
set_option maxRecDepth 100000 in
theorem spec_BoxOk.calls (a0_0 : Int) (a0_1 : Int) (a0_2 : Int) (a0_3 : Int) (r : Bool) (w : World) (h : spec_BoxOk.f a0_0 a0_1 a0_2 a0_3 = some r) :
    Calls Try.prog 15 #[.agg #[.int .i64 a0_0, .int .i64 a0_1, .int .i64 a0_2, .int .i64 a0_3]] w fun e w' => e = .returned (.bool r) ∧ Below w.heap.size w w' := by
  have hu26 := Try.underlying26
  have hu24 := Try.underlying24
  have HB := az (Below.refl w.heap.size w)
  have H : ((spec_VecOk.f a0_0 a0_1).bind fun t203 => (if t203 = true then ((spec_VecOk.f a0_2 a0_3).bind fun t204 => (if t204 = true then (if a0_0 ≤ a0_2 then (some (decide (a0_1 ≤ a0_3))) else (some false)) else (some false))) else (some false))) = some r := h
  clear h
  replace H := qH H
  obtain ⟨t203, A2, H⟩ := H
  try dsimp only at H
  by_cases c3 : t203 = true
  · subst c3
    replace H := qT H
    replace H := qH H
    obtain ⟨t204, A4, H⟩ := H
    try dsimp only at H
    by_cases c5 : t204 = true
    · subst c5
      replace H := qT H
      by_cases c6 : a0_0 ≤ a0_2
      · rw [if_pos c6] at H
        have c6b0 : decide (a0_0 ≤ a0_2) = true := decide_eq_true c6
        clear c6
        obtain rfl := Option.some.inj H
        go_enter Try.func15, Try.ntmps15
        go_wp2_with (first | ((with_reducible refine gate_dst (N := 1) rfl ?_); refine bx (N := 1) (cs := #[.int .i64 a0_0, .int .i64 a0_1, .int .i64 a0_2, .int .i64 a0_3]) (t := 26) ?_; intro gb202 hg w7 hbox hb; have BK202 := az hbox; have GW202 := az ((gE hg (qL HB) : w.heap.size ≤ gb202)); have GE202 := GW202; replace HB := bS HB hb; clear hb hbox hg; obtain ⟨hcz8_0, hcz8_1, hcz8_2, hcz8_3⟩ := cz4 BK202.out; obtain ⟨hfz8_0, hfz8_1, hfz8_2, hfz8_3⟩ := fz4 BK202.out) | ((with_reducible refine gate_callee (f := 46) rfl ?_); refine gl (some 5) Try.func46 #[.agg #[.int .i64 a0_0, .int .i64 a0_1]] ?_; (with_reducible refine (spec_VecOk.calls a0_0 a0_1 true _ A2.out).mono ?_); rintro e w9 ⟨rfl, hb⟩; refine ⟨_, rfl, ?_⟩; replace BK202 := kBB BK202 hb; replace HB := bS HB hb; clear hb; obtain ⟨hcz10_0, hcz10_1, hcz10_2, hcz10_3⟩ := cz4 BK202.out; obtain ⟨hfz10_0, hfz10_1, hfz10_2, hfz10_3⟩ := fz4 BK202.out) | (go_at_call 46; (with_reducible refine (spec_VecOk.calls a0_2 a0_3 true _ A4.out).mono ?_); rintro e w11 ⟨rfl, hb⟩; replace BK202 := kBB BK202 hb; replace HB := bS HB hb; clear hb; obtain ⟨hcz12_0, hcz12_1, hcz12_2, hcz12_3⟩ := cz4 BK202.out; obtain ⟨hfz12_0, hfz12_1, hfz12_2, hfz12_3⟩ := fz4 BK202.out))
        go_ret
        exact ⟨qE, qL HB⟩
      rw [if_neg c6] at H
      have c6b0 : decide (a0_0 ≤ a0_2) = false := decide_eq_false c6
      clear c6
      obtain rfl := Option.some.inj H
      go_enter Try.func15, Try.ntmps15
      go_wp2_with (first | ((with_reducible refine gate_dst (N := 1) rfl ?_); refine bx (N := 1) (cs := #[.int .i64 a0_0, .int .i64 a0_1, .int .i64 a0_2, .int .i64 a0_3]) (t := 26) ?_; intro gb202 hg w13 hbox hb; have BK202 := az hbox; have GW202 := az ((gE hg (qL HB) : w.heap.size ≤ gb202)); have GE202 := GW202; replace HB := bS HB hb; clear hb hbox hg; obtain ⟨hcz14_0, hcz14_1, hcz14_2, hcz14_3⟩ := cz4 BK202.out; obtain ⟨hfz14_0, hfz14_1, hfz14_2, hfz14_3⟩ := fz4 BK202.out) | ((with_reducible refine gate_callee (f := 46) rfl ?_); refine gl (some 5) Try.func46 #[.agg #[.int .i64 a0_0, .int .i64 a0_1]] ?_; (with_reducible refine (spec_VecOk.calls a0_0 a0_1 true _ A2.out).mono ?_); rintro e w15 ⟨rfl, hb⟩; refine ⟨_, rfl, ?_⟩; replace BK202 := kBB BK202 hb; replace HB := bS HB hb; clear hb; obtain ⟨hcz16_0, hcz16_1, hcz16_2, hcz16_3⟩ := cz4 BK202.out; obtain ⟨hfz16_0, hfz16_1, hfz16_2, hfz16_3⟩ := fz4 BK202.out) | (go_at_call 46; (with_reducible refine (spec_VecOk.calls a0_2 a0_3 true _ A4.out).mono ?_); rintro e w17 ⟨rfl, hb⟩; replace BK202 := kBB BK202 hb; replace HB := bS HB hb; clear hb; obtain ⟨hcz18_0, hcz18_1, hcz18_2, hcz18_3⟩ := cz4 BK202.out; obtain ⟨hfz18_0, hfz18_1, hfz18_2, hfz18_3⟩ := fz4 BK202.out))
      go_ret
      exact ⟨qE, qL HB⟩
    replace c5 := Bool.eq_false_iff.mpr c5
    subst c5
    replace H := qU H
    obtain rfl := Option.some.inj H
    go_enter Try.func15, Try.ntmps15
    go_wp2_with (first | ((with_reducible refine gate_dst (N := 1) rfl ?_); refine bx (N := 1) (cs := #[.int .i64 a0_0, .int .i64 a0_1, .int .i64 a0_2, .int .i64 a0_3]) (t := 26) ?_; intro gb202 hg w19 hbox hb; have BK202 := az hbox; have GW202 := az ((gE hg (qL HB) : w.heap.size ≤ gb202)); have GE202 := GW202; replace HB := bS HB hb; clear hb hbox hg; obtain ⟨hcz20_0, hcz20_1, hcz20_2, hcz20_3⟩ := cz4 BK202.out; obtain ⟨hfz20_0, hfz20_1, hfz20_2, hfz20_3⟩ := fz4 BK202.out) | ((with_reducible refine gate_callee (f := 46) rfl ?_); refine gl (some 5) Try.func46 #[.agg #[.int .i64 a0_0, .int .i64 a0_1]] ?_; (with_reducible refine (spec_VecOk.calls a0_0 a0_1 true _ A2.out).mono ?_); rintro e w21 ⟨rfl, hb⟩; refine ⟨_, rfl, ?_⟩; replace BK202 := kBB BK202 hb; replace HB := bS HB hb; clear hb; obtain ⟨hcz22_0, hcz22_1, hcz22_2, hcz22_3⟩ := cz4 BK202.out; obtain ⟨hfz22_0, hfz22_1, hfz22_2, hfz22_3⟩ := fz4 BK202.out) | (go_at_call 46; (with_reducible refine (spec_VecOk.calls a0_2 a0_3 false _ A4.out).mono ?_); rintro e w23 ⟨rfl, hb⟩; replace BK202 := kBB BK202 hb; replace HB := bS HB hb; clear hb))
    go_ret
    exact ⟨qE, qL HB⟩
  replace c3 := Bool.eq_false_iff.mpr c3
  subst c3
  replace H := qU H
  obtain rfl := Option.some.inj H
  go_enter Try.func15, Try.ntmps15
  go_wp2_with (first | ((with_reducible refine gate_dst (N := 1) rfl ?_); refine bx (N := 1) (cs := #[.int .i64 a0_0, .int .i64 a0_1, .int .i64 a0_2, .int .i64 a0_3]) (t := 26) ?_; intro gb202 hg w24 hbox hb; have BK202 := az hbox; have GW202 := az ((gE hg (qL HB) : w.heap.size ≤ gb202)); have GE202 := GW202; replace HB := bS HB hb; clear hb hbox hg; obtain ⟨hcz25_0, hcz25_1, hcz25_2, hcz25_3⟩ := cz4 BK202.out; obtain ⟨hfz25_0, hfz25_1, hfz25_2, hfz25_3⟩ := fz4 BK202.out) | ((with_reducible refine gate_callee (f := 46) rfl ?_); refine gl (some 5) Try.func46 #[.agg #[.int .i64 a0_0, .int .i64 a0_1]] ?_; (with_reducible refine (spec_VecOk.calls a0_0 a0_1 false _ A2.out).mono ?_); rintro e w26 ⟨rfl, hb⟩; refine ⟨_, rfl, ?_⟩; replace BK202 := kBB BK202 hb; replace HB := bS HB hb; clear hb))
  go_ret
  exact ⟨qE, qL HB⟩

/-! ### spec_BoxBoth: function 14 -/
def spec_BoxBoth.j0 : Nat → Bool → Int → Int → Int → Int → Int → Int → Int → Int → Option (Int × Int × Int × Int)
  | 0, _, _, _, _, _, _, _, _, _ => none
  | k + 1, x12, x206000, x206001, x206002, x206003, x207000, x207001, x207002, x207003 => if x12 = true then (some (0, 0, 0, 0)) else ((spec_l3Less.f x206000 x207000).bind fun t210 => ((spec_l3Less.f x206001 x207001).bind fun t211 => ((spec_l3More.f x206002 x207002).bind fun t212 => ((spec_l3More.f x206003 x207003).bind fun t213 => (some (t210, t211, t212, t213))))))
def spec_BoxBoth.f (k : Nat) (a0_0 : Int) (a0_1 : Int) (a0_2 : Int) (a0_3 : Int) (a1_0 : Int) (a1_1 : Int) (a1_2 : Int) (a1_3 : Int) : Option (Int × Int × Int × Int) := (spec_BoxOk.f a0_0 a0_1 a0_2 a0_3).bind fun t208 => (if t208 = true then ((spec_BoxOk.f a1_0 a1_1 a1_2 a1_3).bind fun t209 => (spec_BoxBoth.j0 k (!t209) a0_0 a0_1 a0_2 a0_3 a1_0 a1_1 a1_2 a1_3)) else (spec_BoxBoth.j0 k true a0_0 a0_1 a0_2 a0_3 a1_0 a1_1 a1_2 a1_3))
theorem spec_BoxBoth.mono_l : ∀ k, (∀ y0 y1 y2 y3 y4 y5 y6 y7 y8, LeO (spec_BoxBoth.j0 k y0 y1 y2 y3 y4 y5 y6 y7 y8) (spec_BoxBoth.j0 (k + 1) y0 y1 y2 y3 y4 y5 y6 y7 y8))
  | 0 => fun _ _ _ _ _ _ _ _ _ r h => by simp [spec_BoxBoth.j0] at h
  | k + 1 => by
    have ih0 := spec_BoxBoth.mono_l k
    · intro y0 y1 y2 y3 y4 y5 y6 y7 y8
      unfold spec_BoxBoth.j0
      repeat' first
      | (with_reducible exact ih0 _ _ _ _ _ _ _ _ _)
      | (with_reducible exact LeO.refl _)
      | (with_reducible exact LeO.none _)
      | (with_reducible refine LeO.ite ?_ ?_)
      | (with_reducible refine LeO.bind ?_ (fun _ => ?_))
theorem spec_BoxBoth.mono : ∀ a0 a1 a2 a3 a4 a5 a6 a7 k, LeO (spec_BoxBoth.f k a0 a1 a2 a3 a4 a5 a6 a7) (spec_BoxBoth.f (k + 1) a0 a1 a2 a3 a4 a5 a6 a7) := by
  intro a0 a1 a2 a3 a4 a5 a6 a7 k
  have ih0 := spec_BoxBoth.mono_l k
  unfold spec_BoxBoth.f
  repeat' first
      | (with_reducible exact ih0 _ _ _ _ _ _ _ _ _)
      | (with_reducible exact LeO.refl _)
      | (with_reducible exact LeO.none _)
      | (with_reducible refine LeO.ite ?_ ?_)
      | (with_reducible refine LeO.bind ?_ (fun _ => ?_))
def spec_BoxBoth.T3 : Bool × List (List Nat × List Nat) := (true, [([], []), ([0], [0]), ([1], [1]), ([], []), ([3], [3]), ([4], [4]), ([2, 5], [2, 5]), ([], []), ([7], [7]), ([8], [8]), ([], []), ([10], [10]), ([11], [11]), ([9, 12, 6], [9, 12]), ([6, 13], [6, 13]), ([], []), ([15], [15]), ([16], [16]), ([], []), ([18], [18]), ([19], [19]), ([17, 20, 13], [17, 20]), ([], []), ([22], [22]), ([23], [23]), ([], []), ([25], [25]), ([26], [26]), ([24, 27, 21], [24, 27]), ([21, 28], [21, 28]), ([14, 29], [14, 29]), ([30, 28, 0, 1, 2, 3, 4, 5, 6, 7, 8, 9, 10, 11, 12, 13, 14, 15, 16, 17, 18, 19, 20, 21, 22, 23, 24, 25, 26, 27, 28, 29, 30], [30])])
def spec_BoxBoth.B3 : List Nat := [0, 1, 3, 0, 8, 24, 63, 0, 128, 384, 0, 1024, 3072, 8191, 16383, 0, 32768, 98304, 0, 262144, 786432, 2080767, 0, 4194304, 12582912, 0, 33554432, 100663296, 268419071, 536854527, 1073741823, 2147483647]
theorem spec_BoxBoth.tab3 : rtab .any (opsOf Try.f14 3) = spec_BoxBoth.T3 := by kernel_rfl
theorem spec_BoxBoth.bits3 : waitsOk spec_BoxBoth.T3.2 spec_BoxBoth.B3 = true := by kernel_rfl
set_option maxHeartbeats 8000000 in
set_option maxRecDepth 100000 in
theorem spec_BoxBoth.calls (k : Nat) (a0_0 : Int) (a0_1 : Int) (a0_2 : Int) (a0_3 : Int) (a1_0 : Int) (a1_1 : Int) (a1_2 : Int) (a1_3 : Int) (r1 : Int) (r2 : Int) (r3 : Int) (r4 : Int) (w : World) (h : spec_BoxBoth.f k a0_0 a0_1 a0_2 a0_3 a1_0 a1_1 a1_2 a1_3 = some (r1, r2, r3, r4)) :
    Calls Try.prog 14 #[.agg #[.int .i64 a0_0, .int .i64 a0_1, .int .i64 a0_2, .int .i64 a0_3], .agg #[.int .i64 a1_0, .int .i64 a1_1, .int .i64 a1_2, .int .i64 a1_3]] w fun e w' => e = .returned (.agg #[.int .i64 r1, .int .i64 r2, .int .i64 r3, .int .i64 r4]) ∧ Below w.heap.size w w' := by
  have hu26 := Try.underlying26
  have hu24 := Try.underlying24
  have HB := az (Below.refl w.heap.size w)
  have H : ((spec_BoxOk.f a0_0 a0_1 a0_2 a0_3).bind fun t208 => (if t208 = true then ((spec_BoxOk.f a1_0 a1_1 a1_2 a1_3).bind fun t209 => (spec_BoxBoth.j0 k (!t209) a0_0 a0_1 a0_2 a0_3 a1_0 a1_1 a1_2 a1_3)) else (spec_BoxBoth.j0 k true a0_0 a0_1 a0_2 a0_3 a1_0 a1_1 a1_2 a1_3))) = some (r1, r2, r3, r4) := h
  clear h
  have HC3 := az H
  clear H
  go_enter Try.func14, Try.ntmps14
  go_upto_region 1 with (first | ((with_reducible refine gate_dst (N := 2) rfl ?_); refine bx (N := 2) (cs := #[.int .i64 a0_0, .int .i64 a0_1, .int .i64 a0_2, .int .i64 a0_3]) (t := 26) ?_; intro gb205 hg w4 hbox hb; have BK205 := az hbox; have GW205 := az ((gE hg (qL HB) : w.heap.size ≤ gb205)); have GE205 := GW205; replace HB := bS HB hb; clear hb hbox hg) | ((with_reducible refine gate_dst (N := 3) rfl ?_); refine bx (N := 3) (cs := #[.int .i64 a1_0, .int .i64 a1_1, .int .i64 a1_2, .int .i64 a1_3]) (t := 26) ?_; intro gb206 hg w5 hbox hb; have BK206 := az hbox; have GW206 := az ((gE hg (qL HB) : w.heap.size ≤ gb206)); have GE206 := GW206; obtain ⟨NB205_206, NB206_205⟩ := nPB BK205 hg; replace BK205 := kBB BK205 hb; replace HB := bS HB hb; clear hb hbox hg) | ((with_reducible refine gate_dst (N := 4) rfl ?_); refine bx (N := 4) (cs := #[.int .i64 0, .int .i64 0, .int .i64 0, .int .i64 0]) (t := 26) ?_; intro gb207 hg w6 hbox hb; have BK207 := az hbox; have GW207 := az ((gE hg (qL HB) : w.heap.size ≤ gb207)); have GE207 := GW207; obtain ⟨NB205_207, NB207_205⟩ := nPB BK205 hg; obtain ⟨NB206_207, NB207_206⟩ := nPB BK206 hg; replace BK205 := kBB BK205 hb; replace BK206 := kBB BK206 hb; replace HB := bS HB hb; clear hb hbox hg))
  (try simp only [Act.put, List.setIfInBounds_toArray, List.set_cons_zero, List.set_cons_succ])
  go_cut [12] (fun v12 wc => ∃ (kq : Nat) (x12_2 : Bool), v12 = .bool x12_2 ∧ Aside0 (spec_BoxBoth.j0 kq x12_2 a0_0 a0_1 a0_2 a0_3 a1_0 a1_1 a1_2 a1_3 = some (r1, r2, r3, r4)) ∧ Aside0 (kq ≤ k) ∧ Aside0 (wc.heap[gb205]? = some (.cells #[.int .i64 a0_0, .int .i64 a0_1, .int .i64 a0_2, .int .i64 a0_3] 26 (0, 0))) ∧ Aside0 (wc.heap[gb206]? = some (.cells #[.int .i64 a1_0, .int .i64 a1_1, .int .i64 a1_2, .int .i64 a1_3] 26 (0, 0))) ∧ Aside0 (wc.heap[gb207]? = some (.cells #[.int .i64 0, .int .i64 0, .int .i64 0, .int .i64 0] 26 (0, 0))) ∧ Aside0 (Below w.heap.size w wc))
  case first =>
    have H := HC3.out
    clear HC3
    replace H := qH H
    obtain ⟨t208, A7, H⟩ := H
    try dsimp only at H
    by_cases c8 : t208 = true
    · subst c8
      replace H := qT H
      replace H := qH H
      obtain ⟨t209, A9, H⟩ := H
      try dsimp only at H
      have H' := az H
      clear H
      have hnb10 := NB205_206.out
      have hnc10 := NB206_205.out
      have hnb11 := NB205_207.out
      have hnc11 := NB207_205.out
      obtain ⟨hcz12_0, hcz12_1, hcz12_2, hcz12_3⟩ := cz4 BK205.out
      obtain ⟨hfz12_0, hfz12_1, hfz12_2, hfz12_3⟩ := fz4 BK205.out
      go_wp2_with (first | ((with_reducible refine gate_callee (f := 15) rfl ?_); refine gl (some 6) Try.func15 #[.agg #[.int .i64 a0_0, .int .i64 a0_1, .int .i64 a0_2, .int .i64 a0_3]] ?_; (with_reducible refine (spec_BoxOk.calls a0_0 a0_1 a0_2 a0_3 true _ A7.out).mono ?_); rintro e w13 ⟨rfl, hb⟩; refine ⟨_, rfl, ?_⟩; replace BK205 := kBB BK205 hb; replace BK206 := kBB BK206 hb; replace BK207 := kBB BK207 hb; replace HB := bS HB hb; clear hb; have hnb14 := NB206_207.out; have hnc14 := NB207_206.out; obtain ⟨hcz15_0, hcz15_1, hcz15_2, hcz15_3⟩ := cz4 BK206.out; obtain ⟨hfz15_0, hfz15_1, hfz15_2, hfz15_3⟩ := fz4 BK206.out) | (go_at_call 15; (with_reducible refine (spec_BoxOk.calls a1_0 a1_1 a1_2 a1_3 t209 _ A9.out).mono ?_); rintro e w16 ⟨rfl, hb⟩; replace BK205 := kBB BK205 hb; replace BK206 := kBB BK206 hb; replace BK207 := kBB BK207 hb; replace HB := bS HB hb; clear hb))
      go_meet
      case rel => exact ⟨_, (!t209), (by first | rfl | (simp; done) | (simp [*]; done)), H', ⟨by first | omega | exact Nat.le_refl _⟩, ⟨qF BK205⟩, ⟨qF BK206⟩, ⟨qF BK207⟩, ⟨qL HB⟩⟩
    replace c8 := Bool.eq_false_iff.mpr c8
    subst c8
    replace H := qU H
    have H' := az H
    clear H
    have hnb17 := NB205_206.out
    have hnc17 := NB206_205.out
    have hnb18 := NB205_207.out
    have hnc18 := NB207_205.out
    obtain ⟨hcz19_0, hcz19_1, hcz19_2, hcz19_3⟩ := cz4 BK205.out
    obtain ⟨hfz19_0, hfz19_1, hfz19_2, hfz19_3⟩ := fz4 BK205.out
    go_wp2_with (first | ((with_reducible refine gate_callee (f := 15) rfl ?_); refine gl (some 6) Try.func15 #[.agg #[.int .i64 a0_0, .int .i64 a0_1, .int .i64 a0_2, .int .i64 a0_3]] ?_; (with_reducible refine (spec_BoxOk.calls a0_0 a0_1 a0_2 a0_3 false _ A7.out).mono ?_); rintro e w20 ⟨rfl, hb⟩; refine ⟨_, rfl, ?_⟩; replace BK205 := kBB BK205 hb; replace BK206 := kBB BK206 hb; replace BK207 := kBB BK207 hb; replace HB := bS HB hb; clear hb))
    go_meet
    case rel => exact ⟨_, (true), (by first | rfl | (simp; done) | (simp [*]; done)), H', ⟨by first | omega | exact Nat.le_refl _⟩, ⟨qF BK205⟩, ⟨qF BK206⟩, ⟨qF BK207⟩, ⟨qL HB⟩⟩
  case rest =>
    clear HC3
    obtain ⟨kq, x12_2, rfl, HA, HJ2, BK205, BK206, BK207, HB⟩ := hcut
    cases kq with
    | zero => exact absurd HA.out (by simp [spec_BoxBoth.j0])
    | succ kj2 => ?_
    have H := HA.out
    clear HA
    simp only [spec_BoxBoth.j0] at H
    by_cases c21 : x12_2 = true
    · subst c21
      replace H := qT H
      simp only [Option.some.injEq, Prod.mk.injEq] at H
      obtain ⟨rfl, rfl, rfl, rfl⟩ := H
      have hnb22 := NB207_205.out
      have hnc22 := NB205_207.out
      have hnb23 := NB207_206.out
      have hnc23 := NB206_207.out
      obtain ⟨hcz24_0, hcz24_1, hcz24_2, hcz24_3⟩ := cz4 BK207.out
      obtain ⟨hfz24_0, hfz24_1, hfz24_2, hfz24_3⟩ := fz4 BK207.out
      go_wp2
      refine bodyPost_ret (results_cell_row rfl _ _ gb207 26 #[.int .i64 0, .int .i64 0, .int .i64 0, .int .i64 0] (0, 0) _ rfl (qP BK207) Try.underlying26 rfl (by kernel_rfl)) rfl ?_
      exact ⟨qE, qL HB⟩
    replace c21 := Bool.eq_false_iff.mpr c21
    subst c21
    replace H := qU H
    replace H := qH H
    obtain ⟨t210, A25, H⟩ := H
    try dsimp only at H
    replace H := qH H
    obtain ⟨t211, A26, H⟩ := H
    try dsimp only at H
    replace H := qH H
    obtain ⟨t212, A27, H⟩ := H
    try dsimp only at H
    replace H := qH H
    obtain ⟨t213, A28, H⟩ := H
    try dsimp only at H
    simp only [Option.some.injEq, Prod.mk.injEq] at H
    obtain ⟨rfl, rfl, rfl, rfl⟩ := H
    try go_wp2
    replace BK205 := az (blk_drew BK205.out)
    replace BK206 := az (blk_drew BK206.out)
    replace BK207 := az (blk_drew BK207.out)
    replace HB := az (below_drew1 HB.out)
    refine start_ (n := 32) (S := fun w' => w'.cell? ⟨gb205, 0, none⟩ = some (.int .i64 a0_0) ∧ w'.cell? ⟨gb205, 1, none⟩ = some (.int .i64 a0_1) ∧ w'.cell? ⟨gb205, 2, none⟩ = some (.int .i64 a0_2) ∧ w'.cell? ⟨gb205, 3, none⟩ = some (.int .i64 a0_3) ∧ w'.cell? ⟨gb206, 0, none⟩ = some (.int .i64 a1_0) ∧ w'.cell? ⟨gb206, 1, none⟩ = some (.int .i64 a1_1) ∧ w'.cell? ⟨gb206, 2, none⟩ = some (.int .i64 a1_2) ∧ w'.cell? ⟨gb206, 3, none⟩ = some (.int .i64 a1_3)) (ds := []) #[false, false, false, false, false, false, false, false, false, false, false, false, false, false, false, false, false, false, false, false, false, false, false, false, false, false, false, false, false, false, false, false] (by kernel_rfl) rfl rfl ⟨bc BK205 0, bc BK205 1, bc BK205 2, bc BK205 3, bc BK206 0, bc BK206 1, bc BK206 2, bc BK206 3⟩ (fun hHeld => ?_); refine with_tabW spec_BoxBoth.tab3 spec_BoxBoth.bits3 (fun HT_ HW_ => ?_)
    generalize wc.drew = w29 at BK205 BK206 BK207 HB hHeld ⊢
    refine pu 0 (some 14) (fl 32 1) HT_ ?_
    refine pu 1 (some 15) (fl 32 3) HT_ ?_
    refine pu 3 (some 17) (fl 32 11) HT_ ?_
    refine pu 4 (some 18) (fl 32 27) HT_ ?_
    refine pu 7 (some 21) (fl 32 155) HT_ ?_
    refine pu 8 (some 22) (fl 32 411) HT_ ?_
    refine pu 10 (some 24) (fl 32 1435) HT_ ?_
    refine pu 11 (some 25) (fl 32 3483) HT_ ?_
    refine pu 15 (some 29) (fl 32 36251) HT_ ?_
    refine pu 16 (some 30) (fl 32 101787) HT_ ?_
    refine pu 18 (some 32) (fl 32 363931) HT_ ?_
    refine pu 19 (some 33) (fl 32 888219) HT_ ?_
    refine pu 22 (some 36) (fl 32 5082523) HT_ ?_
    refine pu 23 (some 37) (fl 32 13471131) HT_ ?_
    refine pu 25 (some 39) (fl 32 47025563) HT_ ?_
    refine pu 26 (some 40) (fl 32 114134427) HT_ ?_
    refine tk8 2 (some 16) (fl 32 114134431) HT_ HW_ hHeld ?_
    refine tk8 5 (some 19) (fl 32 114134463) HT_ HW_ hHeld ?_
    refine tk8 9 (some 23) (fl 32 114134975) HT_ HW_ hHeld ?_
    refine tk8 12 (some 26) (fl 32 114139071) HT_ HW_ hHeld ?_
    refine tk8 17 (some 31) (fl 32 114270143) HT_ HW_ hHeld ?_
    refine tk8 20 (some 34) (fl 32 115318719) HT_ HW_ hHeld ?_
    refine tk8 24 (some 38) (fl 32 132095935) HT_ HW_ hHeld ?_
    refine tk8 27 (some 41) (fl 32 266313663) HT_ HW_ hHeld ?_
    refine on 6 (some 20) (fl 32 266313727) HT_ (fun K hK => ?_)
    refine go1 Try.func44 #[.int .i64 a0_0, .int .i64 a1_0] ?_
    with_reducible refine (spec_l3Less.calls a0_0 a1_0 t210 _ A25.out).mono ?_
    rintro e w' ⟨rfl, ⟨nd, rfl⟩⟩
    refine ⟨_, rfl, ?_⟩
    refine hK.out _ _ ⟨bc BK205 0, bc BK205 1, bc BK205 2, bc BK205 3, bc BK206 0, bc BK206 1, bc BK206 2, bc BK206 3⟩ (fun hHeld => ?_)
    clear hK K
    refine nm (some 20) ?_
    refine on 13 (some 27) (fl 32 266321919) HT_ (fun K hK => ?_)
    refine go1 Try.func44 #[.int .i64 a0_1, .int .i64 a1_1] ?_
    with_reducible refine (spec_l3Less.calls a0_1 a1_1 t211 _ A26.out).mono ?_
    rintro e w' ⟨rfl, ⟨nd, rfl⟩⟩
    refine ⟨_, rfl, ?_⟩
    refine hK.out _ _ ⟨bc BK205 0, bc BK205 1, bc BK205 2, bc BK205 3, bc BK206 0, bc BK206 1, bc BK206 2, bc BK206 3⟩ (fun hHeld => ?_)
    clear hK K
    refine nm (some 27) ?_
    refine pu 14 (some 28) (fl 32 266338303) HT_ ?_
    refine on 21 (some 35) (fl 32 268435455) HT_ (fun K hK => ?_)
    refine go1 Try.func45 #[.int .i64 a0_2, .int .i64 a1_2] ?_
    with_reducible refine (spec_l3More.calls a0_2 a1_2 t212 _ A27.out).mono ?_
    rintro e w' ⟨rfl, ⟨nd, rfl⟩⟩
    refine ⟨_, rfl, ?_⟩
    refine hK.out _ _ ⟨bc BK205 0, bc BK205 1, bc BK205 2, bc BK205 3, bc BK206 0, bc BK206 1, bc BK206 2, bc BK206 3⟩ (fun hHeld => ?_)
    clear hK K
    refine nm (some 35) ?_
    refine on 28 (some 42) (fl 32 536870911) HT_ (fun K hK => ?_)
    refine go1 Try.func45 #[.int .i64 a0_3, .int .i64 a1_3] ?_
    with_reducible refine (spec_l3More.calls a0_3 a1_3 t213 _ A28.out).mono ?_
    rintro e w' ⟨rfl, ⟨nd, rfl⟩⟩
    refine ⟨_, rfl, ?_⟩
    refine hK.out _ _ ⟨bc BK205 0, bc BK205 1, bc BK205 2, bc BK205 3, bc BK206 0, bc BK206 1, bc BK206 2, bc BK206 3⟩ (fun hHeld => ?_)
    clear hK K
    refine nm (some 42) ?_
    refine pu 29 (some 43) (fl 32 1073741823) HT_ ?_
    refine pu 30 (some 44) (fl 32 2147483647) HT_ ?_
    refine on 31 (none) (fl 32 4294967295) HT_ (fun K hK => ?_)
    have hs30 : w29.cell? ⟨gb207, 0, none⟩ = some (.int .i64 0) := bc BK207 0
    have hfs30 := blk_frozen BK207.out 0
    have hns30_0 := NB205_207.out
    have hns30_1 := NB206_207.out
    have hms30_0 := NB207_205.out
    have hms30_1 := NB207_206.out
    have hs31 : w29.cell? ⟨gb207, 1, none⟩ = some (.int .i64 0) := bc BK207 1
    have hfs31 := blk_frozen BK207.out 1
    have hns31_0 := NB205_207.out
    have hns31_1 := NB206_207.out
    have hms31_0 := NB207_205.out
    have hms31_1 := NB207_206.out
    have hs32 : w29.cell? ⟨gb207, 2, none⟩ = some (.int .i64 0) := bc BK207 2
    have hfs32 := blk_frozen BK207.out 2
    have hns32_0 := NB205_207.out
    have hns32_1 := NB206_207.out
    have hms32_0 := NB207_205.out
    have hms32_1 := NB207_206.out
    have hs33 : w29.cell? ⟨gb207, 3, none⟩ = some (.int .i64 0) := bc BK207 3
    have hfs33 := blk_frozen BK207.out 3
    have hns33_0 := NB205_207.out
    have hns33_1 := NB206_207.out
    have hms33_0 := NB207_205.out
    have hms33_1 := NB207_206.out
    refine skip_ (w1 := ?_) ?hw ?hn ?_ ?_; (case hw => unfold Region.wanted; rfl); (case hn => rfl)
    rotate_left
    · go_simp
      rfl
    refine hK.out _ _ ⟨(cf NB205_207 ((cf NB205_207 ((cf NB205_207 ((cf NB205_207 (hHeld.1)))))))), (cf NB205_207 ((cf NB205_207 ((cf NB205_207 ((cf NB205_207 (hHeld.2.1)))))))), (cf NB205_207 ((cf NB205_207 ((cf NB205_207 ((cf NB205_207 (hHeld.2.2.1)))))))), (cf NB205_207 ((cf NB205_207 ((cf NB205_207 ((cf NB205_207 (hHeld.2.2.2.1)))))))), (cf NB206_207 ((cf NB206_207 ((cf NB206_207 ((cf NB206_207 (hHeld.2.2.2.2.1)))))))), (cf NB206_207 ((cf NB206_207 ((cf NB206_207 ((cf NB206_207 (hHeld.2.2.2.2.2.1)))))))), (cf NB206_207 ((cf NB206_207 ((cf NB206_207 ((cf NB206_207 (hHeld.2.2.2.2.2.2.1)))))))), (cf NB206_207 ((cf NB206_207 ((cf NB206_207 ((cf NB206_207 (hHeld.2.2.2.2.2.2.2))))))))⟩ (fun hHeld => ?_)
    clear hK K
    refine done_ (done_of HT_.out (by kernel_rfl)) ?_
    try go_wp2
    refine bodyPost_ret (results_cell_row rfl _ _ gb207 26 #[.int .i64 t210, .int .i64 t211, .int .i64 t212, .int .i64 t213] (0, 0) _ rfl (qP BK207) Try.underlying26 rfl (by kernel_rfl)) rfl ?_
    exact ⟨qE, qL HB⟩

/-! ### spec_ShapeOk: function 40 -/
def spec_ShapeOk.f (a0_0 : Int) (a0_1 : Int) (a0_2 : Int) : Option (Bool) := if a0_0 = 1 then ((spec_l1In.f a0_1 1 25600).bind fun t266 => (if t266 = true then (some (a0_2 == 0)) else (some false))) else (if a0_0 = 2 then ((spec_l1In.f a0_1 1 25600).bind fun t267 => (if t267 = true then ((spec_l1In.f a0_2 1 25600).bind fun t268 => (some t268)) else (some false))) else (some false))
set_option maxHeartbeats 8000000 in
set_option maxRecDepth 100000 in
theorem spec_ShapeOk.calls (a0_0 : Int) (a0_1 : Int) (a0_2 : Int) (r : Bool) (w : World) (h : spec_ShapeOk.f a0_0 a0_1 a0_2 = some r) :
    Calls Try.prog 40 #[.agg #[.int .i64 a0_0, .int .i64 a0_1, .int .i64 a0_2]] w fun e w' => e = .returned (.bool r) ∧ Below w.heap.size w w' := by
  have hu38 := Try.underlying38
  have HB := az (Below.refl w.heap.size w)
  have H : (if a0_0 = 1 then ((spec_l1In.f a0_1 1 25600).bind fun t266 => (if t266 = true then (some (a0_2 == 0)) else (some false))) else (if a0_0 = 2 then ((spec_l1In.f a0_1 1 25600).bind fun t267 => (if t267 = true then ((spec_l1In.f a0_2 1 25600).bind fun t268 => (some t268)) else (some false))) else (some false))) = some r := h
  clear h
  by_cases c2 : a0_0 = 1
  · rw [if_pos c2] at H
    have c2b0 : (a0_0 == 1) = true := beq_iff_eq.mpr c2
    have c2b1 : (a0_0 != 1) = false := bne_eq_false_iff_eq.mpr c2
    clear c2
    replace H := qH H
    obtain ⟨t266, A3, H⟩ := H
    try dsimp only at H
    by_cases c4 : t266 = true
    · subst c4
      replace H := qT H
      obtain rfl := Option.some.inj H
      go_enter Try.func40, Try.ntmps40
      go_wp2_with (first | ((with_reducible refine gate_dst (N := 1) rfl ?_); refine bx (N := 1) (cs := #[.int .i64 a0_0, .int .i64 a0_1, .int .i64 a0_2]) (t := 38) ?_; intro gb265 hg w5 hbox hb; have BK265 := az hbox; have GW265 := az ((gE hg (qL HB) : w.heap.size ≤ gb265)); have GE265 := GW265; replace HB := bS HB hb; clear hb hbox hg; obtain ⟨hcz6_0, hcz6_1, hcz6_2⟩ := cz3 BK265.out; obtain ⟨hfz6_0, hfz6_1, hfz6_2⟩ := fz3 BK265.out) | ((with_reducible refine gate_callee (f := 64) rfl ?_); refine gl (some 9) Try.func64 #[.int .i64 a0_1, .int .i64 1, .int .i64 25600] ?_; (with_reducible refine (spec_l1In.calls a0_1 1 25600 true _ A3.out).mono ?_); rintro e w' ⟨rfl, ⟨nd, rfl⟩⟩; refine ⟨_, rfl, ?_⟩))
      go_ret
      exact ⟨qE, qL HB⟩
    replace c4 := Bool.eq_false_iff.mpr c4
    subst c4
    replace H := qU H
    obtain rfl := Option.some.inj H
    go_enter Try.func40, Try.ntmps40
    go_wp2_with (first | ((with_reducible refine gate_dst (N := 1) rfl ?_); refine bx (N := 1) (cs := #[.int .i64 a0_0, .int .i64 a0_1, .int .i64 a0_2]) (t := 38) ?_; intro gb265 hg w7 hbox hb; have BK265 := az hbox; have GW265 := az ((gE hg (qL HB) : w.heap.size ≤ gb265)); have GE265 := GW265; replace HB := bS HB hb; clear hb hbox hg; obtain ⟨hcz8_0, hcz8_1, hcz8_2⟩ := cz3 BK265.out; obtain ⟨hfz8_0, hfz8_1, hfz8_2⟩ := fz3 BK265.out) | ((with_reducible refine gate_callee (f := 64) rfl ?_); refine gl (some 9) Try.func64 #[.int .i64 a0_1, .int .i64 1, .int .i64 25600] ?_; (with_reducible refine (spec_l1In.calls a0_1 1 25600 false _ A3.out).mono ?_); rintro e w' ⟨rfl, ⟨nd, rfl⟩⟩; refine ⟨_, rfl, ?_⟩))
    go_ret
    exact ⟨qE, qL HB⟩
  rw [if_neg c2] at H
  have c2b0 : (a0_0 == 1) = false := beq_eq_false_iff_ne.mpr c2
  have c2b1 : (a0_0 != 1) = true := bne_iff_ne.mpr c2
  by_cases c9 : a0_0 = 2
  · rw [if_pos c9] at H
    have c9b0 : (a0_0 == 2) = true := beq_iff_eq.mpr c9
    have c9b1 : (a0_0 != 2) = false := bne_eq_false_iff_eq.mpr c9
    clear c9
    replace H := qH H
    obtain ⟨t267, A10, H⟩ := H
    try dsimp only at H
    by_cases c11 : t267 = true
    · subst c11
      replace H := qT H
      replace H := qH H
      obtain ⟨t268, A12, H⟩ := H
      try dsimp only at H
      obtain rfl := Option.some.inj H
      go_enter Try.func40, Try.ntmps40
      go_wp2_with (first | ((with_reducible refine gate_dst (N := 1) rfl ?_); refine bx (N := 1) (cs := #[.int .i64 a0_0, .int .i64 a0_1, .int .i64 a0_2]) (t := 38) ?_; intro gb265 hg w13 hbox hb; have BK265 := az hbox; have GW265 := az ((gE hg (qL HB) : w.heap.size ≤ gb265)); have GE265 := GW265; replace HB := bS HB hb; clear hb hbox hg; obtain ⟨hcz14_0, hcz14_1, hcz14_2⟩ := cz3 BK265.out; obtain ⟨hfz14_0, hfz14_1, hfz14_2⟩ := fz3 BK265.out) | ((with_reducible refine gate_callee (f := 64) rfl ?_); refine gl (some 19) Try.func64 #[.int .i64 a0_1, .int .i64 1, .int .i64 25600] ?_; (with_reducible refine (spec_l1In.calls a0_1 1 25600 true _ A10.out).mono ?_); rintro e w' ⟨rfl, ⟨nd, rfl⟩⟩; refine ⟨_, rfl, ?_⟩) | (go_at_call 64; (with_reducible refine (spec_l1In.calls a0_2 1 25600 t268 _ A12.out).mono ?_); rintro e w' ⟨rfl, ⟨nd, rfl⟩⟩))
      go_ret
      exact ⟨qE, qL HB⟩
    replace c11 := Bool.eq_false_iff.mpr c11
    subst c11
    replace H := qU H
    obtain rfl := Option.some.inj H
    go_enter Try.func40, Try.ntmps40
    go_wp2_with (first | ((with_reducible refine gate_dst (N := 1) rfl ?_); refine bx (N := 1) (cs := #[.int .i64 a0_0, .int .i64 a0_1, .int .i64 a0_2]) (t := 38) ?_; intro gb265 hg w15 hbox hb; have BK265 := az hbox; have GW265 := az ((gE hg (qL HB) : w.heap.size ≤ gb265)); have GE265 := GW265; replace HB := bS HB hb; clear hb hbox hg; obtain ⟨hcz16_0, hcz16_1, hcz16_2⟩ := cz3 BK265.out; obtain ⟨hfz16_0, hfz16_1, hfz16_2⟩ := fz3 BK265.out) | ((with_reducible refine gate_callee (f := 64) rfl ?_); refine gl (some 19) Try.func64 #[.int .i64 a0_1, .int .i64 1, .int .i64 25600] ?_; (with_reducible refine (spec_l1In.calls a0_1 1 25600 false _ A10.out).mono ?_); rintro e w' ⟨rfl, ⟨nd, rfl⟩⟩; refine ⟨_, rfl, ?_⟩))
    go_ret
    exact ⟨qE, qL HB⟩
  rw [if_neg c9] at H
  have c9b0 : (a0_0 == 2) = false := beq_eq_false_iff_ne.mpr c9
  have c9b1 : (a0_0 != 2) = true := bne_iff_ne.mpr c9
  obtain rfl := Option.some.inj H
  go_enter Try.func40, Try.ntmps40
  go_wp2_with (first | ((with_reducible refine gate_dst (N := 1) rfl ?_); refine bx (N := 1) (cs := #[.int .i64 a0_0, .int .i64 a0_1, .int .i64 a0_2]) (t := 38) ?_; intro gb265 hg w17 hbox hb; have BK265 := az hbox; have GW265 := az ((gE hg (qL HB) : w.heap.size ≤ gb265)); have GE265 := GW265; replace HB := bS HB hb; clear hb hbox hg; obtain ⟨hcz18_0, hcz18_1, hcz18_2⟩ := cz3 BK265.out; obtain ⟨hfz18_0, hfz18_1, hfz18_2⟩ := fz3 BK265.out))
  go_ret
  exact ⟨qE, qL HB⟩

/-! ### spec_l6Drive: function 49 -/
def spec_l6Drive.f (a0_0 : Int) (a0_1 : Int) : Option (Bool) := (spec_l1In.f a0_0 (-20000000) 20000000).bind fun t270 => (if t270 = true then ((spec_l1In.f a0_1 (-20000000) 20000000).bind fun t271 => (some t271)) else (some false))
set_option maxHeartbeats 8000000 in
set_option maxRecDepth 100000 in
theorem spec_l6Drive.calls (a0_0 : Int) (a0_1 : Int) (r : Bool) (w : World) (h : spec_l6Drive.f a0_0 a0_1 = some r) :
    Calls Try.prog 49 #[.agg #[.int .i64 a0_0, .int .i64 a0_1]] w fun e w' => e = .returned (.bool r) ∧ Below w.heap.size w w' := by
  have hu24 := Try.underlying24
  have HB := az (Below.refl w.heap.size w)
  have H : ((spec_l1In.f a0_0 (-20000000) 20000000).bind fun t270 => (if t270 = true then ((spec_l1In.f a0_1 (-20000000) 20000000).bind fun t271 => (some t271)) else (some false))) = some r := h
  clear h
  replace H := qH H
  obtain ⟨t270, A2, H⟩ := H
  try dsimp only at H
  by_cases c3 : t270 = true
  · subst c3
    replace H := qT H
    replace H := qH H
    obtain ⟨t271, A4, H⟩ := H
    try dsimp only at H
    obtain rfl := Option.some.inj H
    go_enter Try.func49, Try.ntmps49
    go_wp2_with (first | ((with_reducible refine gate_dst (N := 1) rfl ?_); refine bx (N := 1) (cs := #[.int .i64 a0_0, .int .i64 a0_1]) (t := 24) ?_; intro gb269 hg w5 hbox hb; have BK269 := az hbox; have GW269 := az ((gE hg (qL HB) : w.heap.size ≤ gb269)); have GE269 := GW269; replace HB := bS HB hb; clear hb hbox hg; obtain ⟨hcz6_0, hcz6_1⟩ := cz2 BK269.out; have hfz6_0 := blk_frozen BK269.out 0; have hfz6_1 := blk_frozen BK269.out 1) | ((with_reducible refine gate_callee (f := 64) rfl ?_); refine gl (some 5) Try.func64 #[.int .i64 a0_0, .int .i64 (-20000000), .int .i64 20000000] ?_; (with_reducible refine (spec_l1In.calls a0_0 (-20000000) 20000000 true _ A2.out).mono ?_); rintro e w' ⟨rfl, ⟨nd, rfl⟩⟩; refine ⟨_, rfl, ?_⟩) | (go_at_call 64; (with_reducible refine (spec_l1In.calls a0_1 (-20000000) 20000000 t271 _ A4.out).mono ?_); rintro e w' ⟨rfl, ⟨nd, rfl⟩⟩))
    go_ret
    exact ⟨qE, qL HB⟩
  replace c3 := Bool.eq_false_iff.mpr c3
  subst c3
  replace H := qU H
  obtain rfl := Option.some.inj H
  go_enter Try.func49, Try.ntmps49
  go_wp2_with (first | ((with_reducible refine gate_dst (N := 1) rfl ?_); refine bx (N := 1) (cs := #[.int .i64 a0_0, .int .i64 a0_1]) (t := 24) ?_; intro gb269 hg w7 hbox hb; have BK269 := az hbox; have GW269 := az ((gE hg (qL HB) : w.heap.size ≤ gb269)); have GE269 := GW269; replace HB := bS HB hb; clear hb hbox hg; obtain ⟨hcz8_0, hcz8_1⟩ := cz2 BK269.out; have hfz8_0 := blk_frozen BK269.out 0; have hfz8_1 := blk_frozen BK269.out 1) | ((with_reducible refine gate_callee (f := 64) rfl ?_); refine gl (some 5) Try.func64 #[.int .i64 a0_0, .int .i64 (-20000000), .int .i64 20000000] ?_; (with_reducible refine (spec_l1In.calls a0_0 (-20000000) 20000000 false _ A2.out).mono ?_); rintro e w' ⟨rfl, ⟨nd, rfl⟩⟩; refine ⟨_, rfl, ?_⟩))
  go_ret
  exact ⟨qE, qL HB⟩

/-! ### spec_l3Place: function 65 -/
def spec_l3Place.f (a0_0 : Int) (a0_1 : Int) : Option (Bool) := (spec_l1In.f a0_0 (-2560000) 2560000).bind fun t273 => (if t273 = true then ((spec_l1In.f a0_1 (-2560000) 2560000).bind fun t274 => (some t274)) else (some false))
set_option maxHeartbeats 8000000 in
set_option maxRecDepth 100000 in
theorem spec_l3Place.calls (a0_0 : Int) (a0_1 : Int) (r : Bool) (w : World) (h : spec_l3Place.f a0_0 a0_1 = some r) :
    Calls Try.prog 65 #[.agg #[.int .i64 a0_0, .int .i64 a0_1]] w fun e w' => e = .returned (.bool r) ∧ Below w.heap.size w w' := by
  have hu24 := Try.underlying24
  have HB := az (Below.refl w.heap.size w)
  have H : ((spec_l1In.f a0_0 (-2560000) 2560000).bind fun t273 => (if t273 = true then ((spec_l1In.f a0_1 (-2560000) 2560000).bind fun t274 => (some t274)) else (some false))) = some r := h
  clear h
  replace H := qH H
  obtain ⟨t273, A2, H⟩ := H
  try dsimp only at H
  by_cases c3 : t273 = true
  · subst c3
    replace H := qT H
    replace H := qH H
    obtain ⟨t274, A4, H⟩ := H
    try dsimp only at H
    obtain rfl := Option.some.inj H
    go_enter Try.func65, Try.ntmps65
    go_wp2_with (first | ((with_reducible refine gate_dst (N := 1) rfl ?_); refine bx (N := 1) (cs := #[.int .i64 a0_0, .int .i64 a0_1]) (t := 24) ?_; intro gb272 hg w5 hbox hb; have BK272 := az hbox; have GW272 := az ((gE hg (qL HB) : w.heap.size ≤ gb272)); have GE272 := GW272; replace HB := bS HB hb; clear hb hbox hg; obtain ⟨hcz6_0, hcz6_1⟩ := cz2 BK272.out; have hfz6_0 := blk_frozen BK272.out 0; have hfz6_1 := blk_frozen BK272.out 1) | ((with_reducible refine gate_callee (f := 64) rfl ?_); refine gl (some 5) Try.func64 #[.int .i64 a0_0, .int .i64 (-2560000), .int .i64 2560000] ?_; (with_reducible refine (spec_l1In.calls a0_0 (-2560000) 2560000 true _ A2.out).mono ?_); rintro e w' ⟨rfl, ⟨nd, rfl⟩⟩; refine ⟨_, rfl, ?_⟩) | (go_at_call 64; (with_reducible refine (spec_l1In.calls a0_1 (-2560000) 2560000 t274 _ A4.out).mono ?_); rintro e w' ⟨rfl, ⟨nd, rfl⟩⟩))
    go_ret
    exact ⟨qE, qL HB⟩
  replace c3 := Bool.eq_false_iff.mpr c3
  subst c3
  replace H := qU H
  obtain rfl := Option.some.inj H
  go_enter Try.func65, Try.ntmps65
  go_wp2_with (first | ((with_reducible refine gate_dst (N := 1) rfl ?_); refine bx (N := 1) (cs := #[.int .i64 a0_0, .int .i64 a0_1]) (t := 24) ?_; intro gb272 hg w7 hbox hb; have BK272 := az hbox; have GW272 := az ((gE hg (qL HB) : w.heap.size ≤ gb272)); have GE272 := GW272; replace HB := bS HB hb; clear hb hbox hg; obtain ⟨hcz8_0, hcz8_1⟩ := cz2 BK272.out; have hfz8_0 := blk_frozen BK272.out 0; have hfz8_1 := blk_frozen BK272.out 1) | ((with_reducible refine gate_callee (f := 64) rfl ?_); refine gl (some 5) Try.func64 #[.int .i64 a0_0, .int .i64 (-2560000), .int .i64 2560000] ?_; (with_reducible refine (spec_l1In.calls a0_0 (-2560000) 2560000 false _ A2.out).mono ?_); rintro e w' ⟨rfl, ⟨nd, rfl⟩⟩; refine ⟨_, rfl, ?_⟩))
  go_ret
  exact ⟨qE, qL HB⟩
end Go.Proofs.Ytihajbjkjclmoaa.PBig
