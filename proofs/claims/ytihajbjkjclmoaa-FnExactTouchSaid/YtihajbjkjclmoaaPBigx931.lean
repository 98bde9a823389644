/- What these functions compute, each walked once: laws_FnExactTouch; for all arguments and worlds, under the conditions that each theorem names. -/
import Derived.Test.YtihajbjkjclmoaaSq
import Derived.Test.YtihajbjkjclmoaaPBigx910
import Derived.Test.YtihajbjkjclmoaaPBigx926
import Derived.Test.YtihajbjkjclmoaaPBigx930
namespace Go.Proofs.Ytihajbjkjclmoaa.PBig
open Go.RowKit Go.Proofs.YtihajbjkjclmoaaW.PrintWords Go.Proofs.YtihajbjkjclmoaaW.PrintLast Go.Proofs.YtihajbjkjclmoaaW.PrintMore
attribute [local go_sem] max2_int min2_int max_two min_two max_three min_three max_four min_four   -- for this text's walks alone
set_option linter.unusedVariables false
set_option linter.unusedSimpArgs false

/-! ### laws_FnExactTouch: function 8 -/
def laws_FnExactTouch.f (k : Nat) (a0_0 : Int) (a0_1 : Int) (a0_2 : Int) (a1_0 : Int) (a1_1 : Int) (a2_0 : Int) (a2_1 : Int) (a2_2 : Int) (a3_0 : Int) (a3_1 : Int) : Option (Bool) := (laws_toShape.f a0_0 a0_1 a0_2).bind fun bt1112 => ((laws_toVec.f a1_0 a1_1).bind fun bt1115 => ((laws_toShape.f a2_0 a2_1 a2_2).bind fun bt1117 => ((laws_toVec.f a3_0 a3_1).bind fun bt1120 => ((spec_Touch.f k bt1112.1 bt1112.2.1 bt1112.2.2 bt1115.1 bt1115.2 bt1117.1 bt1117.2.1 bt1117.2.2 bt1120.1 bt1120.2).bind fun bt1122 => ((laws_toShape.f a0_0 a0_1 a0_2).bind fun bt1127 => ((laws_toVec.f a1_0 a1_1).bind fun bt1130 => ((laws_toShape.f a2_0 a2_1 a2_2).bind fun bt1132 => ((laws_toVec.f a3_0 a3_1).bind fun bt1135 => ((impl_Touch.f k bt1127.1 bt1127.2.1 bt1127.2.2 bt1130.1 bt1130.2 bt1132.1 bt1132.2.1 bt1132.2.2 bt1135.1 bt1135.2).bind fun bt1137 => ((laws_eqHit.f bt1137.1 bt1137.2.1 bt1137.2.2.1 bt1122.1 bt1122.2.1 bt1122.2.2.1).bind fun t1142 => (if t1142 = true then (if (bt1137.2.2.2 != bt1122.2.2.2) = true then (some false) else (some true)) else (some false))))))))))))
theorem laws_FnExactTouch.mono : ∀ a0 a1 a2 a3 a4 a5 a6 a7 a8 a9 k, LeO (laws_FnExactTouch.f k a0 a1 a2 a3 a4 a5 a6 a7 a8 a9) (laws_FnExactTouch.f (k + 1) a0 a1 a2 a3 a4 a5 a6 a7 a8 a9) := by
  intro a0 a1 a2 a3 a4 a5 a6 a7 a8 a9 k
  unfold laws_FnExactTouch.f
  repeat' first
      | (with_reducible exact impl_Touch.mono _ _ _ _ _ _ _ _ _ _ _)
      | (with_reducible exact spec_Touch.mono _ _ _ _ _ _ _ _ _ _ _)
      | (with_reducible exact LeO.refl _)
      | (with_reducible exact LeO.none _)
      | (with_reducible refine LeO.ite ?_ ?_)
      | (with_reducible refine LeO.bind ?_ (fun _ => ?_))
def laws_FnExactTouch.T1 : Bool × List (List Nat × List Nat) := (true, [([], []), ([0], [0]), ([], []), ([2, 1], [2]), ([], []), ([4, 3], [4]), ([], []), ([6, 5], [6]), ([1, 3, 5, 7, 7], [1, 3, 5, 7]), ([8], [8]), ([9], [9]), ([9], [9]), ([], []), ([12, 10, 8, 0, 1, 2, 3, 4, 5, 6, 7, 8, 9, 10, 12], [10, 12]), ([11, 13, 0, 1, 2, 3, 4, 5, 6, 7, 8, 9, 10, 11, 12, 13], [11])])
def laws_FnExactTouch.B1 : List Nat := [0, 1, 0, 7, 0, 31, 0, 127, 255, 511, 1023, 1023, 0, 6143, 16383]
theorem laws_FnExactTouch.tab1 : rtab .any (opsOf Try.f8 1) = laws_FnExactTouch.T1 := by kernel_rfl
theorem laws_FnExactTouch.bits1 : waitsOk laws_FnExactTouch.T1.2 laws_FnExactTouch.B1 = true := by kernel_rfl
def laws_FnExactTouch.T2 : Bool × List (List Nat × List Nat) := (true, [([], []), ([0], [0]), ([], []), ([2, 1], [2]), ([], []), ([4, 3], [4]), ([], []), ([6, 5], [6]), ([1, 3, 5, 7, 7], [1, 3, 5, 7]), ([8], [8]), ([9], [9]), ([9], [9]), ([], []), ([12, 10, 8, 0, 1, 2, 3, 4, 5, 6, 7, 8, 9, 10, 12], [10, 12]), ([11, 13, 0, 1, 2, 3, 4, 5, 6, 7, 8, 9, 10, 11, 12, 13], [11])])
def laws_FnExactTouch.B2 : List Nat := [0, 1, 0, 7, 0, 31, 0, 127, 255, 511, 1023, 1023, 0, 6143, 16383]
theorem laws_FnExactTouch.tab2 : rtab .any (opsOf Try.f8 2) = laws_FnExactTouch.T2 := by kernel_rfl
theorem laws_FnExactTouch.bits2 : waitsOk laws_FnExactTouch.T2.2 laws_FnExactTouch.B2 = true := by kernel_rfl
set_option maxRecDepth 100000 in
theorem laws_FnExactTouch.lf0 {P : Prop} (h : P := by
    go_enter Try.func8, Try.ntmps8
    try go_wp2_with (first | ((with_reducible refine gate_dst (N := 4) rfl ?_); refine bx (N := 4) (cs := #[.int .i64 a0_0, .int .i64 a0_1, .int .i64 a0_2]) (t := 34) ?_; intro gb5000 hg w5001 hbox hb; have BK5000 := az hbox; have GW5000 := az ((gE hg (qL HB) : w.heap.size ≤ gb5000)); have GE5000 := GW5000; replace HB := bS HB hb; clear hb hbox hg) | ((with_reducible refine gate_dst (N := 5) rfl ?_); refine bx (N := 5) (cs := #[.int .i64 a1_0, .int .i64 a1_1]) (t := 35) ?_; intro gb5002 hg w5003 hbox hb; have BK5002 := az hbox; have GW5002 := az ((gE hg (qL HB) : w.heap.size ≤ gb5002)); have GE5002 := GW5002; obtain ⟨NB5000_5002, NB5002_5000⟩ := nPB BK5000 hg; replace BK5000 := kBB BK5000 hb; replace HB := bS HB hb; clear hb hbox hg) | ((with_reducible refine gate_dst (N := 6) rfl ?_); refine bx (N := 6) (cs := #[.int .i64 a2_0, .int .i64 a2_1, .int .i64 a2_2]) (t := 34) ?_; intro gb5004 hg w5005 hbox hb; have BK5004 := az hbox; have GW5004 := az ((gE hg (qL HB) : w.heap.size ≤ gb5004)); have GE5004 := GW5004; obtain ⟨NB5000_5004, NB5004_5000⟩ := nPB BK5000 hg; obtain ⟨NB5002_5004, NB5004_5002⟩ := nPB BK5002 hg; replace BK5000 := kBB BK5000 hb; replace BK5002 := kBB BK5002 hb; replace HB := bS HB hb; clear hb hbox hg) | ((with_reducible refine gate_dst (N := 7) rfl ?_); refine bx (N := 7) (cs := #[.int .i64 a3_0, .int .i64 a3_1]) (t := 35) ?_; intro gb5006 hg w5007 hbox hb; have BK5006 := az hbox; have GW5006 := az ((gE hg (qL HB) : w.heap.size ≤ gb5006)); have GE5006 := GW5006; obtain ⟨NB5000_5006, NB5006_5000⟩ := nPB BK5000 hg; obtain ⟨NB5002_5006, NB5006_5002⟩ := nPB BK5002 hg; obtain ⟨NB5004_5006, NB5006_5004⟩ := nPB BK5004 hg; replace BK5000 := kBB BK5000 hb; replace BK5002 := kBB BK5002 hb; replace BK5004 := kBB BK5004 hb; replace HB := bS HB hb; clear hb hbox hg))
    replace BK5000 := az (blk_drew BK5000.out)
    replace BK5002 := az (blk_drew BK5002.out)
    replace BK5004 := az (blk_drew BK5004.out)
    replace BK5006 := az (blk_drew BK5006.out)
    replace HB := az (below_drew1 HB.out)
    refine start_ (n := 15) (S := fun w' => w'.cell? ⟨gb5000, 0, none⟩ = some (.int .i64 a0_0) ∧ w'.cell? ⟨gb5000, 1, none⟩ = some (.int .i64 a0_1) ∧ w'.cell? ⟨gb5000, 2, none⟩ = some (.int .i64 a0_2) ∧ w'.cell? ⟨gb5002, 0, none⟩ = some (.int .i64 a1_0) ∧ w'.cell? ⟨gb5002, 1, none⟩ = some (.int .i64 a1_1) ∧ w'.cell? ⟨gb5004, 0, none⟩ = some (.int .i64 a2_0) ∧ w'.cell? ⟨gb5004, 1, none⟩ = some (.int .i64 a2_1) ∧ w'.cell? ⟨gb5004, 2, none⟩ = some (.int .i64 a2_2) ∧ w'.cell? ⟨gb5006, 0, none⟩ = some (.int .i64 a3_0) ∧ w'.cell? ⟨gb5006, 1, none⟩ = some (.int .i64 a3_1)) (ds := []) #[false, false, false, false, false, false, false, false, false, false, false, false, false, false, false] (by kernel_rfl) rfl rfl ⟨bc BK5000 0, bc BK5000 1, bc BK5000 2, bc BK5002 0, bc BK5002 1, bc BK5004 0, bc BK5004 1, bc BK5004 2, bc BK5006 0, bc BK5006 1⟩ (fun hHeld => ?_); refine with_tabW laws_FnExactTouch.tab1 laws_FnExactTouch.bits1 (fun HT_ HW_ => ?_)
    generalize w5007.drew = w5008 at BK5000 BK5002 BK5004 BK5006 HB hHeld ⊢
    refine tk10 0 (some 14) (fl 15 1) HT_ HW_ hHeld ?_
    refine tk10 2 (some 16) (fl 15 5) HT_ HW_ hHeld ?_
    refine tk10 4 (some 18) (fl 15 21) HT_ HW_ hHeld ?_
    refine tk10 6 (some 20) (fl 15 85) HT_ HW_ hHeld ?_
    refine join_ (σ := Nat) 2 (fl 15 8191) (fun s_ => [(15, .agg #[.int .i64 t1112, .int .i64 t1113, .int .i64 t1114]), (17, .agg #[.int .i64 t1115, .int .i64 t1116]), (19, .agg #[.int .i64 t1117, .int .i64 t1118, .int .i64 t1119]), (21, .agg #[.int .i64 t1120, .int .i64 t1121]), (22, .tuple #[.agg #[.int .i64 t1122, .int .i64 t1123, .int .i64 t1124], .bool t1125]), (9, .pointer (some ⟨s_, 0, none⟩)), (13, .tuple #[.agg #[.int .i64 t1122, .int .i64 t1123, .int .i64 t1124], .bool t1125]), (23, .agg #[.int .i64 t1122, .int .i64 t1123, .int .i64 t1124]), (24, .bool t1125)]) (fun s_ w' => (w'.cell? ⟨gb5000, 0, none⟩ = some (.int .i64 a0_0) ∧ w'.cell? ⟨gb5000, 1, none⟩ = some (.int .i64 a0_1) ∧ w'.cell? ⟨gb5000, 2, none⟩ = some (.int .i64 a0_2) ∧ w'.cell? ⟨gb5002, 0, none⟩ = some (.int .i64 a1_0) ∧ w'.cell? ⟨gb5002, 1, none⟩ = some (.int .i64 a1_1) ∧ w'.cell? ⟨gb5004, 0, none⟩ = some (.int .i64 a2_0) ∧ w'.cell? ⟨gb5004, 1, none⟩ = some (.int .i64 a2_1) ∧ w'.cell? ⟨gb5004, 2, none⟩ = some (.int .i64 a2_2) ∧ w'.cell? ⟨gb5006, 0, none⟩ = some (.int .i64 a3_0) ∧ w'.cell? ⟨gb5006, 1, none⟩ = some (.int .i64 a3_1)) ∧ (w'.heap[gb5000]? = some (.cells #[.int .i64 a0_0, .int .i64 a0_1, .int .i64 a0_2] 34 (0, 0))) ∧ (w'.heap[gb5002]? = some (.cells #[.int .i64 a1_0, .int .i64 a1_1] 35 (0, 0))) ∧ (w'.heap[gb5004]? = some (.cells #[.int .i64 a2_0, .int .i64 a2_1, .int .i64 a2_2] 34 (0, 0))) ∧ (w'.heap[gb5006]? = some (.cells #[.int .i64 a3_0, .int .i64 a3_1] 35 (0, 0))) ∧ (w'.heap[s_]? = some (.cells #[.int .i64 0, .int .i64 0, .int .i64 0] 56 (0, 0))) ∧ (w.heap.size ≤ s_) ∧ (w.heap.size ≤ s_) ∧ (gb5000 ≠ s_) ∧ (s_ ≠ gb5000) ∧ (gb5002 ≠ s_) ∧ (s_ ≠ gb5002) ∧ (gb5004 ≠ s_) ∧ (s_ ≠ gb5004) ∧ (gb5006 ≠ s_) ∧ (s_ ≠ gb5006) ∧ (Below w.heap.size w w')) ?_ ?_
    rotate_left
    · intro hJ1_3_5_7_8_12
      refine join_ (σ := Unit) 3 (fl 15 4095) (fun s_ => [(15, .agg #[.int .i64 t1112, .int .i64 t1113, .int .i64 t1114]), (17, .agg #[.int .i64 t1115, .int .i64 t1116]), (19, .agg #[.int .i64 t1117, .int .i64 t1118, .int .i64 t1119]), (21, .agg #[.int .i64 t1120, .int .i64 t1121]), (22, .tuple #[.agg #[.int .i64 t1122, .int .i64 t1123, .int .i64 t1124], .bool t1125]), (13, .tuple #[.agg #[.int .i64 t1122, .int .i64 t1123, .int .i64 t1124], .bool t1125]), (23, .agg #[.int .i64 t1122, .int .i64 t1123, .int .i64 t1124]), (24, .bool t1125)]) (fun s_ w' => (w'.cell? ⟨gb5000, 0, none⟩ = some (.int .i64 a0_0) ∧ w'.cell? ⟨gb5000, 1, none⟩ = some (.int .i64 a0_1) ∧ w'.cell? ⟨gb5000, 2, none⟩ = some (.int .i64 a0_2) ∧ w'.cell? ⟨gb5002, 0, none⟩ = some (.int .i64 a1_0) ∧ w'.cell? ⟨gb5002, 1, none⟩ = some (.int .i64 a1_1) ∧ w'.cell? ⟨gb5004, 0, none⟩ = some (.int .i64 a2_0) ∧ w'.cell? ⟨gb5004, 1, none⟩ = some (.int .i64 a2_1) ∧ w'.cell? ⟨gb5004, 2, none⟩ = some (.int .i64 a2_2) ∧ w'.cell? ⟨gb5006, 0, none⟩ = some (.int .i64 a3_0) ∧ w'.cell? ⟨gb5006, 1, none⟩ = some (.int .i64 a3_1)) ∧ (w'.heap[gb5000]? = some (.cells #[.int .i64 a0_0, .int .i64 a0_1, .int .i64 a0_2] 34 (0, 0))) ∧ (w'.heap[gb5002]? = some (.cells #[.int .i64 a1_0, .int .i64 a1_1] 35 (0, 0))) ∧ (w'.heap[gb5004]? = some (.cells #[.int .i64 a2_0, .int .i64 a2_1, .int .i64 a2_2] 34 (0, 0))) ∧ (w'.heap[gb5006]? = some (.cells #[.int .i64 a3_0, .int .i64 a3_1] 35 (0, 0))) ∧ (Below w.heap.size w w')) ?_ ?_
      rotate_left
      · intro hJ1_3_5_7_8
        refine join_ (σ := Nat) 6 (fl 15 4351) (fun s_ => [(15, .agg #[.int .i64 t1112, .int .i64 t1113, .int .i64 t1114]), (17, .agg #[.int .i64 t1115, .int .i64 t1116]), (19, .agg #[.int .i64 t1117, .int .i64 t1118, .int .i64 t1119]), (21, .agg #[.int .i64 t1120, .int .i64 t1121]), (9, .pointer (some ⟨s_, 0, none⟩))]) (fun s_ w' => (w'.cell? ⟨gb5000, 0, none⟩ = some (.int .i64 a0_0) ∧ w'.cell? ⟨gb5000, 1, none⟩ = some (.int .i64 a0_1) ∧ w'.cell? ⟨gb5000, 2, none⟩ = some (.int .i64 a0_2) ∧ w'.cell? ⟨gb5002, 0, none⟩ = some (.int .i64 a1_0) ∧ w'.cell? ⟨gb5002, 1, none⟩ = some (.int .i64 a1_1) ∧ w'.cell? ⟨gb5004, 0, none⟩ = some (.int .i64 a2_0) ∧ w'.cell? ⟨gb5004, 1, none⟩ = some (.int .i64 a2_1) ∧ w'.cell? ⟨gb5004, 2, none⟩ = some (.int .i64 a2_2) ∧ w'.cell? ⟨gb5006, 0, none⟩ = some (.int .i64 a3_0) ∧ w'.cell? ⟨gb5006, 1, none⟩ = some (.int .i64 a3_1)) ∧ (w'.heap[gb5000]? = some (.cells #[.int .i64 a0_0, .int .i64 a0_1, .int .i64 a0_2] 34 (0, 0))) ∧ (w'.heap[gb5002]? = some (.cells #[.int .i64 a1_0, .int .i64 a1_1] 35 (0, 0))) ∧ (w'.heap[gb5004]? = some (.cells #[.int .i64 a2_0, .int .i64 a2_1, .int .i64 a2_2] 34 (0, 0))) ∧ (w'.heap[gb5006]? = some (.cells #[.int .i64 a3_0, .int .i64 a3_1] 35 (0, 0))) ∧ (w'.heap[s_]? = some (.cells #[.int .i64 0, .int .i64 0, .int .i64 0] 56 (0, 0))) ∧ (w.heap.size ≤ s_) ∧ (w.heap.size ≤ s_) ∧ (gb5000 ≠ s_) ∧ (s_ ≠ gb5000) ∧ (gb5002 ≠ s_) ∧ (s_ ≠ gb5002) ∧ (gb5004 ≠ s_) ∧ (s_ ≠ gb5004) ∧ (gb5006 ≠ s_) ∧ (s_ ≠ gb5006) ∧ (Below w.heap.size w w')) ?_ ?_
        rotate_left
        · intro hJ1_3_5_7_12
          refine join_ (σ := Unit) 7 (fl 15 255) (fun s_ => [(15, .agg #[.int .i64 t1112, .int .i64 t1113, .int .i64 t1114]), (17, .agg #[.int .i64 t1115, .int .i64 t1116]), (19, .agg #[.int .i64 t1117, .int .i64 t1118, .int .i64 t1119]), (21, .agg #[.int .i64 t1120, .int .i64 t1121])]) (fun s_ w' => (w'.cell? ⟨gb5000, 0, none⟩ = some (.int .i64 a0_0) ∧ w'.cell? ⟨gb5000, 1, none⟩ = some (.int .i64 a0_1) ∧ w'.cell? ⟨gb5000, 2, none⟩ = some (.int .i64 a0_2) ∧ w'.cell? ⟨gb5002, 0, none⟩ = some (.int .i64 a1_0) ∧ w'.cell? ⟨gb5002, 1, none⟩ = some (.int .i64 a1_1) ∧ w'.cell? ⟨gb5004, 0, none⟩ = some (.int .i64 a2_0) ∧ w'.cell? ⟨gb5004, 1, none⟩ = some (.int .i64 a2_1) ∧ w'.cell? ⟨gb5004, 2, none⟩ = some (.int .i64 a2_2) ∧ w'.cell? ⟨gb5006, 0, none⟩ = some (.int .i64 a3_0) ∧ w'.cell? ⟨gb5006, 1, none⟩ = some (.int .i64 a3_1)) ∧ (w'.heap[gb5000]? = some (.cells #[.int .i64 a0_0, .int .i64 a0_1, .int .i64 a0_2] 34 (0, 0))) ∧ (w'.heap[gb5002]? = some (.cells #[.int .i64 a1_0, .int .i64 a1_1] 35 (0, 0))) ∧ (w'.heap[gb5004]? = some (.cells #[.int .i64 a2_0, .int .i64 a2_1, .int .i64 a2_2] 34 (0, 0))) ∧ (w'.heap[gb5006]? = some (.cells #[.int .i64 a3_0, .int .i64 a3_1] 35 (0, 0))) ∧ (Below w.heap.size w w')) ?_ ?_
          rotate_left
          · intro hJ1_3_5_7
            refine join_ (σ := Nat) 7 (fl 15 4223) (fun s_ => [(15, .agg #[.int .i64 t1112, .int .i64 t1113, .int .i64 t1114]), (17, .agg #[.int .i64 t1115, .int .i64 t1116]), (19, .agg #[.int .i64 t1117, .int .i64 t1118, .int .i64 t1119]), (9, .pointer (some ⟨s_, 0, none⟩))]) (fun s_ w' => (w'.cell? ⟨gb5000, 0, none⟩ = some (.int .i64 a0_0) ∧ w'.cell? ⟨gb5000, 1, none⟩ = some (.int .i64 a0_1) ∧ w'.cell? ⟨gb5000, 2, none⟩ = some (.int .i64 a0_2) ∧ w'.cell? ⟨gb5002, 0, none⟩ = some (.int .i64 a1_0) ∧ w'.cell? ⟨gb5002, 1, none⟩ = some (.int .i64 a1_1) ∧ w'.cell? ⟨gb5004, 0, none⟩ = some (.int .i64 a2_0) ∧ w'.cell? ⟨gb5004, 1, none⟩ = some (.int .i64 a2_1) ∧ w'.cell? ⟨gb5004, 2, none⟩ = some (.int .i64 a2_2) ∧ w'.cell? ⟨gb5006, 0, none⟩ = some (.int .i64 a3_0) ∧ w'.cell? ⟨gb5006, 1, none⟩ = some (.int .i64 a3_1)) ∧ (w'.heap[gb5000]? = some (.cells #[.int .i64 a0_0, .int .i64 a0_1, .int .i64 a0_2] 34 (0, 0))) ∧ (w'.heap[gb5002]? = some (.cells #[.int .i64 a1_0, .int .i64 a1_1] 35 (0, 0))) ∧ (w'.heap[gb5004]? = some (.cells #[.int .i64 a2_0, .int .i64 a2_1, .int .i64 a2_2] 34 (0, 0))) ∧ (w'.heap[gb5006]? = some (.cells #[.int .i64 a3_0, .int .i64 a3_1] 35 (0, 0))) ∧ (w'.heap[s_]? = some (.cells #[.int .i64 0, .int .i64 0, .int .i64 0] 56 (0, 0))) ∧ (w.heap.size ≤ s_) ∧ (w.heap.size ≤ s_) ∧ (gb5000 ≠ s_) ∧ (s_ ≠ gb5000) ∧ (gb5002 ≠ s_) ∧ (s_ ≠ gb5002) ∧ (gb5004 ≠ s_) ∧ (s_ ≠ gb5004) ∧ (gb5006 ≠ s_) ∧ (s_ ≠ gb5006) ∧ (Below w.heap.size w w')) ?_ ?_
            rotate_left
            · intro hJ1_3_5_12
              refine join_ (σ := Unit) 8 (fl 15 127) (fun s_ => [(15, .agg #[.int .i64 t1112, .int .i64 t1113, .int .i64 t1114]), (17, .agg #[.int .i64 t1115, .int .i64 t1116]), (19, .agg #[.int .i64 t1117, .int .i64 t1118, .int .i64 t1119])]) (fun s_ w' => (w'.cell? ⟨gb5000, 0, none⟩ = some (.int .i64 a0_0) ∧ w'.cell? ⟨gb5000, 1, none⟩ = some (.int .i64 a0_1) ∧ w'.cell? ⟨gb5000, 2, none⟩ = some (.int .i64 a0_2) ∧ w'.cell? ⟨gb5002, 0, none⟩ = some (.int .i64 a1_0) ∧ w'.cell? ⟨gb5002, 1, none⟩ = some (.int .i64 a1_1) ∧ w'.cell? ⟨gb5004, 0, none⟩ = some (.int .i64 a2_0) ∧ w'.cell? ⟨gb5004, 1, none⟩ = some (.int .i64 a2_1) ∧ w'.cell? ⟨gb5004, 2, none⟩ = some (.int .i64 a2_2) ∧ w'.cell? ⟨gb5006, 0, none⟩ = some (.int .i64 a3_0) ∧ w'.cell? ⟨gb5006, 1, none⟩ = some (.int .i64 a3_1)) ∧ (w'.heap[gb5000]? = some (.cells #[.int .i64 a0_0, .int .i64 a0_1, .int .i64 a0_2] 34 (0, 0))) ∧ (w'.heap[gb5002]? = some (.cells #[.int .i64 a1_0, .int .i64 a1_1] 35 (0, 0))) ∧ (w'.heap[gb5004]? = some (.cells #[.int .i64 a2_0, .int .i64 a2_1, .int .i64 a2_2] 34 (0, 0))) ∧ (w'.heap[gb5006]? = some (.cells #[.int .i64 a3_0, .int .i64 a3_1] 35 (0, 0))) ∧ (Below w.heap.size w w')) ?_ ?_
              rotate_left
              · intro hJ1_3_5
                refine join_ (σ := Nat) 8 (fl 15 4191) (fun s_ => [(15, .agg #[.int .i64 t1112, .int .i64 t1113, .int .i64 t1114]), (17, .agg #[.int .i64 t1115, .int .i64 t1116]), (9, .pointer (some ⟨s_, 0, none⟩))]) (fun s_ w' => (w'.cell? ⟨gb5000, 0, none⟩ = some (.int .i64 a0_0) ∧ w'.cell? ⟨gb5000, 1, none⟩ = some (.int .i64 a0_1) ∧ w'.cell? ⟨gb5000, 2, none⟩ = some (.int .i64 a0_2) ∧ w'.cell? ⟨gb5002, 0, none⟩ = some (.int .i64 a1_0) ∧ w'.cell? ⟨gb5002, 1, none⟩ = some (.int .i64 a1_1) ∧ w'.cell? ⟨gb5004, 0, none⟩ = some (.int .i64 a2_0) ∧ w'.cell? ⟨gb5004, 1, none⟩ = some (.int .i64 a2_1) ∧ w'.cell? ⟨gb5004, 2, none⟩ = some (.int .i64 a2_2) ∧ w'.cell? ⟨gb5006, 0, none⟩ = some (.int .i64 a3_0) ∧ w'.cell? ⟨gb5006, 1, none⟩ = some (.int .i64 a3_1)) ∧ (w'.heap[gb5000]? = some (.cells #[.int .i64 a0_0, .int .i64 a0_1, .int .i64 a0_2] 34 (0, 0))) ∧ (w'.heap[gb5002]? = some (.cells #[.int .i64 a1_0, .int .i64 a1_1] 35 (0, 0))) ∧ (w'.heap[gb5004]? = some (.cells #[.int .i64 a2_0, .int .i64 a2_1, .int .i64 a2_2] 34 (0, 0))) ∧ (w'.heap[gb5006]? = some (.cells #[.int .i64 a3_0, .int .i64 a3_1] 35 (0, 0))) ∧ (w'.heap[s_]? = some (.cells #[.int .i64 0, .int .i64 0, .int .i64 0] 56 (0, 0))) ∧ (w.heap.size ≤ s_) ∧ (w.heap.size ≤ s_) ∧ (gb5000 ≠ s_) ∧ (s_ ≠ gb5000) ∧ (gb5002 ≠ s_) ∧ (s_ ≠ gb5002) ∧ (gb5004 ≠ s_) ∧ (s_ ≠ gb5004) ∧ (gb5006 ≠ s_) ∧ (s_ ≠ gb5006) ∧ (Below w.heap.size w w')) ?_ ?_
                rotate_left
                · intro hJ1_3_12
                  refine join_ (σ := Unit) 9 (fl 15 95) (fun s_ => [(15, .agg #[.int .i64 t1112, .int .i64 t1113, .int .i64 t1114]), (17, .agg #[.int .i64 t1115, .int .i64 t1116])]) (fun s_ w' => (w'.cell? ⟨gb5000, 0, none⟩ = some (.int .i64 a0_0) ∧ w'.cell? ⟨gb5000, 1, none⟩ = some (.int .i64 a0_1) ∧ w'.cell? ⟨gb5000, 2, none⟩ = some (.int .i64 a0_2) ∧ w'.cell? ⟨gb5002, 0, none⟩ = some (.int .i64 a1_0) ∧ w'.cell? ⟨gb5002, 1, none⟩ = some (.int .i64 a1_1) ∧ w'.cell? ⟨gb5004, 0, none⟩ = some (.int .i64 a2_0) ∧ w'.cell? ⟨gb5004, 1, none⟩ = some (.int .i64 a2_1) ∧ w'.cell? ⟨gb5004, 2, none⟩ = some (.int .i64 a2_2) ∧ w'.cell? ⟨gb5006, 0, none⟩ = some (.int .i64 a3_0) ∧ w'.cell? ⟨gb5006, 1, none⟩ = some (.int .i64 a3_1)) ∧ (w'.heap[gb5000]? = some (.cells #[.int .i64 a0_0, .int .i64 a0_1, .int .i64 a0_2] 34 (0, 0))) ∧ (w'.heap[gb5002]? = some (.cells #[.int .i64 a1_0, .int .i64 a1_1] 35 (0, 0))) ∧ (w'.heap[gb5004]? = some (.cells #[.int .i64 a2_0, .int .i64 a2_1, .int .i64 a2_2] 34 (0, 0))) ∧ (w'.heap[gb5006]? = some (.cells #[.int .i64 a3_0, .int .i64 a3_1] 35 (0, 0))) ∧ (Below w.heap.size w w')) ?_ ?_
                  rotate_left
                  · intro hJ1_3
                    refine join_ (σ := Nat) 9 (fl 15 4183) (fun s_ => [(15, .agg #[.int .i64 t1112, .int .i64 t1113, .int .i64 t1114]), (9, .pointer (some ⟨s_, 0, none⟩))]) (fun s_ w' => (w'.cell? ⟨gb5000, 0, none⟩ = some (.int .i64 a0_0) ∧ w'.cell? ⟨gb5000, 1, none⟩ = some (.int .i64 a0_1) ∧ w'.cell? ⟨gb5000, 2, none⟩ = some (.int .i64 a0_2) ∧ w'.cell? ⟨gb5002, 0, none⟩ = some (.int .i64 a1_0) ∧ w'.cell? ⟨gb5002, 1, none⟩ = some (.int .i64 a1_1) ∧ w'.cell? ⟨gb5004, 0, none⟩ = some (.int .i64 a2_0) ∧ w'.cell? ⟨gb5004, 1, none⟩ = some (.int .i64 a2_1) ∧ w'.cell? ⟨gb5004, 2, none⟩ = some (.int .i64 a2_2) ∧ w'.cell? ⟨gb5006, 0, none⟩ = some (.int .i64 a3_0) ∧ w'.cell? ⟨gb5006, 1, none⟩ = some (.int .i64 a3_1)) ∧ (w'.heap[gb5000]? = some (.cells #[.int .i64 a0_0, .int .i64 a0_1, .int .i64 a0_2] 34 (0, 0))) ∧ (w'.heap[gb5002]? = some (.cells #[.int .i64 a1_0, .int .i64 a1_1] 35 (0, 0))) ∧ (w'.heap[gb5004]? = some (.cells #[.int .i64 a2_0, .int .i64 a2_1, .int .i64 a2_2] 34 (0, 0))) ∧ (w'.heap[gb5006]? = some (.cells #[.int .i64 a3_0, .int .i64 a3_1] 35 (0, 0))) ∧ (w'.heap[s_]? = some (.cells #[.int .i64 0, .int .i64 0, .int .i64 0] 56 (0, 0))) ∧ (w.heap.size ≤ s_) ∧ (w.heap.size ≤ s_) ∧ (gb5000 ≠ s_) ∧ (s_ ≠ gb5000) ∧ (gb5002 ≠ s_) ∧ (s_ ≠ gb5002) ∧ (gb5004 ≠ s_) ∧ (s_ ≠ gb5004) ∧ (gb5006 ≠ s_) ∧ (s_ ≠ gb5006) ∧ (Below w.heap.size w w')) ?_ ?_
                    rotate_left
                    · intro hJ1_12
                      refine join_ (σ := Unit) 10 (fl 15 87) (fun s_ => [(15, .agg #[.int .i64 t1112, .int .i64 t1113, .int .i64 t1114])]) (fun s_ w' => (w'.cell? ⟨gb5000, 0, none⟩ = some (.int .i64 a0_0) ∧ w'.cell? ⟨gb5000, 1, none⟩ = some (.int .i64 a0_1) ∧ w'.cell? ⟨gb5000, 2, none⟩ = some (.int .i64 a0_2) ∧ w'.cell? ⟨gb5002, 0, none⟩ = some (.int .i64 a1_0) ∧ w'.cell? ⟨gb5002, 1, none⟩ = some (.int .i64 a1_1) ∧ w'.cell? ⟨gb5004, 0, none⟩ = some (.int .i64 a2_0) ∧ w'.cell? ⟨gb5004, 1, none⟩ = some (.int .i64 a2_1) ∧ w'.cell? ⟨gb5004, 2, none⟩ = some (.int .i64 a2_2) ∧ w'.cell? ⟨gb5006, 0, none⟩ = some (.int .i64 a3_0) ∧ w'.cell? ⟨gb5006, 1, none⟩ = some (.int .i64 a3_1)) ∧ (w'.heap[gb5000]? = some (.cells #[.int .i64 a0_0, .int .i64 a0_1, .int .i64 a0_2] 34 (0, 0))) ∧ (w'.heap[gb5002]? = some (.cells #[.int .i64 a1_0, .int .i64 a1_1] 35 (0, 0))) ∧ (w'.heap[gb5004]? = some (.cells #[.int .i64 a2_0, .int .i64 a2_1, .int .i64 a2_2] 34 (0, 0))) ∧ (w'.heap[gb5006]? = some (.cells #[.int .i64 a3_0, .int .i64 a3_1] 35 (0, 0))) ∧ (Below w.heap.size w w')) ?_ ?_
                      rotate_left
                      · intro hJ1
                        refine join_ (σ := Nat) 10 (fl 15 4181) (fun s_ => [(9, .pointer (some ⟨s_, 0, none⟩))]) (fun s_ w' => (w'.cell? ⟨gb5000, 0, none⟩ = some (.int .i64 a0_0) ∧ w'.cell? ⟨gb5000, 1, none⟩ = some (.int .i64 a0_1) ∧ w'.cell? ⟨gb5000, 2, none⟩ = some (.int .i64 a0_2) ∧ w'.cell? ⟨gb5002, 0, none⟩ = some (.int .i64 a1_0) ∧ w'.cell? ⟨gb5002, 1, none⟩ = some (.int .i64 a1_1) ∧ w'.cell? ⟨gb5004, 0, none⟩ = some (.int .i64 a2_0) ∧ w'.cell? ⟨gb5004, 1, none⟩ = some (.int .i64 a2_1) ∧ w'.cell? ⟨gb5004, 2, none⟩ = some (.int .i64 a2_2) ∧ w'.cell? ⟨gb5006, 0, none⟩ = some (.int .i64 a3_0) ∧ w'.cell? ⟨gb5006, 1, none⟩ = some (.int .i64 a3_1)) ∧ (w'.heap[gb5000]? = some (.cells #[.int .i64 a0_0, .int .i64 a0_1, .int .i64 a0_2] 34 (0, 0))) ∧ (w'.heap[gb5002]? = some (.cells #[.int .i64 a1_0, .int .i64 a1_1] 35 (0, 0))) ∧ (w'.heap[gb5004]? = some (.cells #[.int .i64 a2_0, .int .i64 a2_1, .int .i64 a2_2] 34 (0, 0))) ∧ (w'.heap[gb5006]? = some (.cells #[.int .i64 a3_0, .int .i64 a3_1] 35 (0, 0))) ∧ (w'.heap[s_]? = some (.cells #[.int .i64 0, .int .i64 0, .int .i64 0] 56 (0, 0))) ∧ (w.heap.size ≤ s_) ∧ (w.heap.size ≤ s_) ∧ (gb5000 ≠ s_) ∧ (s_ ≠ gb5000) ∧ (gb5002 ≠ s_) ∧ (s_ ≠ gb5002) ∧ (gb5004 ≠ s_) ∧ (s_ ≠ gb5004) ∧ (gb5006 ≠ s_) ∧ (s_ ≠ gb5006) ∧ (Below w.heap.size w w')) ?_ ?_
                        rotate_left
                        · intro hJ12
                          refine two_ (i := 1) (j := 12) (Ni := some 15) (Nj := some 9) (fl 15 87) (fl 15 4181) rfl rfl rfl rfl (two_of HT_.out (by kernel_rfl)) (by decide) (by decide) (fun K hK => ?_) (fun K hK => ?_)
                          · skip
                            refine go1 Try.func34 #[.agg #[.int .i64 a0_0, .int .i64 a0_1, .int .i64 a0_2]] ?_
                            with_reducible refine (laws_toShape.calls a0_0 a0_1 a0_2 t1112 t1113 t1114 _ A5.out).mono ?_
                            rintro e w5009 ⟨rfl, hb⟩
                            refine ⟨_, rfl, ?_⟩
                            replace BK5000 := kBB BK5000 hb
                            replace BK5002 := kBB BK5002 hb
                            replace BK5004 := kBB BK5004 hb
                            replace BK5006 := kBB BK5006 hb
                            replace HB := bS HB hb
                            clear hb
                            refine hK.out _ _ ⟨bc BK5000 0, bc BK5000 1, bc BK5000 2, bc BK5002 0, bc BK5002 1, bc BK5004 0, bc BK5004 1, bc BK5004 2, bc BK5006 0, bc BK5006 1⟩ (fun hHeld => ?_)
                            clear hK K
                            refine nm (some 15) ?_
                            exact nrm (hJ1 () _ ⟨hHeld, (qB BK5000), (qB BK5002), (qB BK5004), (qB BK5006), (qL HB)⟩)
                          skip
                          refine box_step ?hg (N := 9) ?hd (cs := #[.int .i64 0, .int .i64 0, .int .i64 0]) (t := 56) ?hr ?_; (case hd => rfl); (case hg => rfl); (case hr => first | (go_simp; done) | (go_simp; rfl))
                          intro gb5010 hg w5009 hbox hb
                          have BK5010 := az hbox
                          have GW5010 := az ((gE hg (qL HB) : w.heap.size ≤ gb5010))
                          have GE5010 := GW5010
                          obtain ⟨NB5000_5010, NB5010_5000⟩ := nPB BK5000 hg
                          obtain ⟨NB5002_5010, NB5010_5002⟩ := nPB BK5002 hg
                          obtain ⟨NB5004_5010, NB5010_5004⟩ := nPB BK5004 hg
                          obtain ⟨NB5006_5010, NB5010_5006⟩ := nPB BK5006 hg
                          replace BK5000 := kBB BK5000 hb
                          replace BK5002 := kBB BK5002 hb
                          replace BK5004 := kBB BK5004 hb
                          replace BK5006 := kBB BK5006 hb
                          replace HB := bS HB hb
                          clear hb hbox hg
                          refine hK.out _ _ ⟨bc BK5000 0, bc BK5000 1, bc BK5000 2, bc BK5002 0, bc BK5002 1, bc BK5004 0, bc BK5004 1, bc BK5004 2, bc BK5006 0, bc BK5006 1⟩ (fun hHeld => ?_)
                          clear hK K
                          refine nm (some 9) ?_
                          exact nrm (hJ12 (gb5010) _ ⟨hHeld, (qB BK5000), (qB BK5002), (qB BK5004), (qB BK5006), (qB BK5010), GW5010.out, GE5010.out, NB5000_5010.out, NB5010_5000.out, NB5002_5010.out, NB5010_5002.out, NB5004_5010.out, NB5010_5004.out, NB5006_5010.out, NB5010_5006.out, (qL HB)⟩)
                        skip
                        rintro gb5010 w5011 ⟨hS_, h0_, h1_, h2_, h3_, h4_, h5_, h6_, h7_, h8_, h9_, h10_, h11_, h12_, h13_, h14_, h15_⟩
                        have BK5010 := az h4_
                        have GW5010 := az h5_
                        have GE5010 := az h6_
                        have NB5000_5010 := az h7_
                        have NB5010_5000 := az h8_
                        have NB5002_5010 := az h9_
                        have NB5010_5002 := az h10_
                        have NB5004_5010 := az h11_
                        have NB5010_5004 := az h12_
                        have NB5006_5010 := az h13_
                        have NB5010_5006 := az h14_
                        replace BK5000 := az h0_
                        replace BK5002 := az h1_
                        replace BK5004 := az h2_
                        replace BK5006 := az h3_
                        replace HB := az h15_
                        clear h0_ h1_ h2_ h3_ h4_ h5_ h6_ h7_ h8_ h9_ h10_ h11_ h12_ h13_ h14_ h15_
                        have hHeld := hS_
                        refine nmp ?_
                        refine on 1 (some 15) (fl 15 4183) HT_ (fun K hK => ?_)
                        refine go1 Try.func34 #[.agg #[.int .i64 a0_0, .int .i64 a0_1, .int .i64 a0_2]] ?_
                        with_reducible refine (laws_toShape.calls a0_0 a0_1 a0_2 t1112 t1113 t1114 _ A5.out).mono ?_
                        rintro e w5012 ⟨rfl, hb⟩
                        refine ⟨_, rfl, ?_⟩
                        replace BK5000 := kBB BK5000 hb
                        replace BK5002 := kBB BK5002 hb
                        replace BK5004 := kBB BK5004 hb
                        replace BK5006 := kBB BK5006 hb
                        replace BK5010 := kBB BK5010 hb
                        replace HB := bS HB hb
                        clear hb
                        refine hK.out _ _ ⟨bc BK5000 0, bc BK5000 1, bc BK5000 2, bc BK5002 0, bc BK5002 1, bc BK5004 0, bc BK5004 1, bc BK5004 2, bc BK5006 0, bc BK5006 1⟩ (fun hHeld => ?_)
                        clear hK K
                        refine nm (some 15) ?_
                        exact nrm (hJ1_12 (gb5010) _ ⟨hHeld, (qB BK5000), (qB BK5002), (qB BK5004), (qB BK5006), (qB BK5010), GW5010.out, GE5010.out, NB5000_5010.out, NB5010_5000.out, NB5002_5010.out, NB5010_5002.out, NB5004_5010.out, NB5010_5004.out, NB5006_5010.out, NB5010_5006.out, (qL HB)⟩)
                      skip
                      rintro _ w5011 ⟨hS_, h0_, h1_, h2_, h3_, h4_⟩
                      replace BK5000 := az h0_
                      replace BK5002 := az h1_
                      replace BK5004 := az h2_
                      replace BK5006 := az h3_
                      replace HB := az h4_
                      clear h0_ h1_ h2_ h3_ h4_
                      have hHeld := hS_
                      refine nmp ?_
                      refine two_ (i := 3) (j := 12) (Ni := some 17) (Nj := some 9) (fl 15 95) (fl 15 4183) rfl rfl rfl rfl (two_of HT_.out (by kernel_rfl)) (by decide) (by decide) (fun K hK => ?_) (fun K hK => ?_)
                      · skip
                        refine go1 Try.func20 #[.agg #[.int .i64 a1_0, .int .i64 a1_1]] ?_
                        with_reducible refine (laws_toVec.calls a1_0 a1_1 t1115 t1116 _ A6.out).mono ?_
                        rintro e w5012 ⟨rfl, hb⟩
                        refine ⟨_, rfl, ?_⟩
                        replace BK5000 := kBB BK5000 hb
                        replace BK5002 := kBB BK5002 hb
                        replace BK5004 := kBB BK5004 hb
                        replace BK5006 := kBB BK5006 hb
                        replace HB := bS HB hb
                        clear hb
                        refine hK.out _ _ ⟨bc BK5000 0, bc BK5000 1, bc BK5000 2, bc BK5002 0, bc BK5002 1, bc BK5004 0, bc BK5004 1, bc BK5004 2, bc BK5006 0, bc BK5006 1⟩ (fun hHeld => ?_)
                        clear hK K
                        refine nm (some 17) ?_
                        exact nrm (hJ1_3 () _ ⟨hHeld, (qB BK5000), (qB BK5002), (qB BK5004), (qB BK5006), (qL HB)⟩)
                      skip
                      refine box_step ?hg (N := 9) ?hd (cs := #[.int .i64 0, .int .i64 0, .int .i64 0]) (t := 56) ?hr ?_; (case hd => rfl); (case hg => rfl); (case hr => first | (go_simp; done) | (go_simp; rfl))
                      intro gb5010 hg w5012 hbox hb
                      have BK5010 := az hbox
                      have GW5010 := az ((gE hg (qL HB) : w.heap.size ≤ gb5010))
                      have GE5010 := GW5010
                      obtain ⟨NB5000_5010, NB5010_5000⟩ := nPB BK5000 hg
                      obtain ⟨NB5002_5010, NB5010_5002⟩ := nPB BK5002 hg
                      obtain ⟨NB5004_5010, NB5010_5004⟩ := nPB BK5004 hg
                      obtain ⟨NB5006_5010, NB5010_5006⟩ := nPB BK5006 hg
                      replace BK5000 := kBB BK5000 hb
                      replace BK5002 := kBB BK5002 hb
                      replace BK5004 := kBB BK5004 hb
                      replace BK5006 := kBB BK5006 hb
                      replace HB := bS HB hb
                      clear hb hbox hg
                      refine hK.out _ _ ⟨bc BK5000 0, bc BK5000 1, bc BK5000 2, bc BK5002 0, bc BK5002 1, bc BK5004 0, bc BK5004 1, bc BK5004 2, bc BK5006 0, bc BK5006 1⟩ (fun hHeld => ?_)
                      clear hK K
                      refine nm (some 9) ?_
                      exact nrm (hJ1_12 (gb5010) _ ⟨hHeld, (qB BK5000), (qB BK5002), (qB BK5004), (qB BK5006), (qB BK5010), GW5010.out, GE5010.out, NB5000_5010.out, NB5010_5000.out, NB5002_5010.out, NB5010_5002.out, NB5004_5010.out, NB5010_5004.out, NB5006_5010.out, NB5010_5006.out, (qL HB)⟩)
                    skip
                    rintro gb5010 w5012 ⟨hS_, h0_, h1_, h2_, h3_, h4_, h5_, h6_, h7_, h8_, h9_, h10_, h11_, h12_, h13_, h14_, h15_⟩
                    have BK5010 := az h4_
                    have GW5010 := az h5_
                    have GE5010 := az h6_
                    have NB5000_5010 := az h7_
                    have NB5010_5000 := az h8_
                    have NB5002_5010 := az h9_
                    have NB5010_5002 := az h10_
                    have NB5004_5010 := az h11_
                    have NB5010_5004 := az h12_
                    have NB5006_5010 := az h13_
                    have NB5010_5006 := az h14_
                    replace BK5000 := az h0_
                    replace BK5002 := az h1_
                    replace BK5004 := az h2_
                    replace BK5006 := az h3_
                    replace HB := az h15_
                    clear h0_ h1_ h2_ h3_ h4_ h5_ h6_ h7_ h8_ h9_ h10_ h11_ h12_ h13_ h14_ h15_
                    have hHeld := hS_
                    refine nmp ?_
                    refine on 3 (some 17) (fl 15 4191) HT_ (fun K hK => ?_)
                    refine go1 Try.func20 #[.agg #[.int .i64 a1_0, .int .i64 a1_1]] ?_
                    with_reducible refine (laws_toVec.calls a1_0 a1_1 t1115 t1116 _ A6.out).mono ?_
                    rintro e w5013 ⟨rfl, hb⟩
                    refine ⟨_, rfl, ?_⟩
                    replace BK5000 := kBB BK5000 hb
                    replace BK5002 := kBB BK5002 hb
                    replace BK5004 := kBB BK5004 hb
                    replace BK5006 := kBB BK5006 hb
                    replace BK5010 := kBB BK5010 hb
                    replace HB := bS HB hb
                    clear hb
                    refine hK.out _ _ ⟨bc BK5000 0, bc BK5000 1, bc BK5000 2, bc BK5002 0, bc BK5002 1, bc BK5004 0, bc BK5004 1, bc BK5004 2, bc BK5006 0, bc BK5006 1⟩ (fun hHeld => ?_)
                    clear hK K
                    refine nm (some 17) ?_
                    exact nrm (hJ1_3_12 (gb5010) _ ⟨hHeld, (qB BK5000), (qB BK5002), (qB BK5004), (qB BK5006), (qB BK5010), GW5010.out, GE5010.out, NB5000_5010.out, NB5010_5000.out, NB5002_5010.out, NB5010_5002.out, NB5004_5010.out, NB5010_5004.out, NB5006_5010.out, NB5010_5006.out, (qL HB)⟩)
                  skip
                  rintro _ w5012 ⟨hS_, h0_, h1_, h2_, h3_, h4_⟩
                  replace BK5000 := az h0_
                  replace BK5002 := az h1_
                  replace BK5004 := az h2_
                  replace BK5006 := az h3_
                  replace HB := az h4_
                  clear h0_ h1_ h2_ h3_ h4_
                  have hHeld := hS_
                  refine nmp ?_
                  refine two_ (i := 5) (j := 12) (Ni := some 19) (Nj := some 9) (fl 15 127) (fl 15 4191) rfl rfl rfl rfl (two_of HT_.out (by kernel_rfl)) (by decide) (by decide) (fun K hK => ?_) (fun K hK => ?_)
                  · skip
                    refine go1 Try.func34 #[.agg #[.int .i64 a2_0, .int .i64 a2_1, .int .i64 a2_2]] ?_
                    with_reducible refine (laws_toShape.calls a2_0 a2_1 a2_2 t1117 t1118 t1119 _ A7.out).mono ?_
                    rintro e w5013 ⟨rfl, hb⟩
                    refine ⟨_, rfl, ?_⟩
                    replace BK5000 := kBB BK5000 hb
                    replace BK5002 := kBB BK5002 hb
                    replace BK5004 := kBB BK5004 hb
                    replace BK5006 := kBB BK5006 hb
                    replace HB := bS HB hb
                    clear hb
                    refine hK.out _ _ ⟨bc BK5000 0, bc BK5000 1, bc BK5000 2, bc BK5002 0, bc BK5002 1, bc BK5004 0, bc BK5004 1, bc BK5004 2, bc BK5006 0, bc BK5006 1⟩ (fun hHeld => ?_)
                    clear hK K
                    refine nm (some 19) ?_
                    exact nrm (hJ1_3_5 () _ ⟨hHeld, (qB BK5000), (qB BK5002), (qB BK5004), (qB BK5006), (qL HB)⟩)
                  skip
                  refine box_step ?hg (N := 9) ?hd (cs := #[.int .i64 0, .int .i64 0, .int .i64 0]) (t := 56) ?hr ?_; (case hd => rfl); (case hg => rfl); (case hr => first | (go_simp; done) | (go_simp; rfl))
                  intro gb5010 hg w5013 hbox hb
                  have BK5010 := az hbox
                  have GW5010 := az ((gE hg (qL HB) : w.heap.size ≤ gb5010))
                  have GE5010 := GW5010
                  obtain ⟨NB5000_5010, NB5010_5000⟩ := nPB BK5000 hg
                  obtain ⟨NB5002_5010, NB5010_5002⟩ := nPB BK5002 hg
                  obtain ⟨NB5004_5010, NB5010_5004⟩ := nPB BK5004 hg
                  obtain ⟨NB5006_5010, NB5010_5006⟩ := nPB BK5006 hg
                  replace BK5000 := kBB BK5000 hb
                  replace BK5002 := kBB BK5002 hb
                  replace BK5004 := kBB BK5004 hb
                  replace BK5006 := kBB BK5006 hb
                  replace HB := bS HB hb
                  clear hb hbox hg
                  refine hK.out _ _ ⟨bc BK5000 0, bc BK5000 1, bc BK5000 2, bc BK5002 0, bc BK5002 1, bc BK5004 0, bc BK5004 1, bc BK5004 2, bc BK5006 0, bc BK5006 1⟩ (fun hHeld => ?_)
                  clear hK K
                  refine nm (some 9) ?_
                  exact nrm (hJ1_3_12 (gb5010) _ ⟨hHeld, (qB BK5000), (qB BK5002), (qB BK5004), (qB BK5006), (qB BK5010), GW5010.out, GE5010.out, NB5000_5010.out, NB5010_5000.out, NB5002_5010.out, NB5010_5002.out, NB5004_5010.out, NB5010_5004.out, NB5006_5010.out, NB5010_5006.out, (qL HB)⟩)
                skip
                rintro gb5010 w5013 ⟨hS_, h0_, h1_, h2_, h3_, h4_, h5_, h6_, h7_, h8_, h9_, h10_, h11_, h12_, h13_, h14_, h15_⟩
                have BK5010 := az h4_
                have GW5010 := az h5_
                have GE5010 := az h6_
                have NB5000_5010 := az h7_
                have NB5010_5000 := az h8_
                have NB5002_5010 := az h9_
                have NB5010_5002 := az h10_
                have NB5004_5010 := az h11_
                have NB5010_5004 := az h12_
                have NB5006_5010 := az h13_
                have NB5010_5006 := az h14_
                replace BK5000 := az h0_
                replace BK5002 := az h1_
                replace BK5004 := az h2_
                replace BK5006 := az h3_
                replace HB := az h15_
                clear h0_ h1_ h2_ h3_ h4_ h5_ h6_ h7_ h8_ h9_ h10_ h11_ h12_ h13_ h14_ h15_
                have hHeld := hS_
                refine nmp ?_
                refine on 5 (some 19) (fl 15 4223) HT_ (fun K hK => ?_)
                refine go1 Try.func34 #[.agg #[.int .i64 a2_0, .int .i64 a2_1, .int .i64 a2_2]] ?_
                with_reducible refine (laws_toShape.calls a2_0 a2_1 a2_2 t1117 t1118 t1119 _ A7.out).mono ?_
                rintro e w5014 ⟨rfl, hb⟩
                refine ⟨_, rfl, ?_⟩
                replace BK5000 := kBB BK5000 hb
                replace BK5002 := kBB BK5002 hb
                replace BK5004 := kBB BK5004 hb
                replace BK5006 := kBB BK5006 hb
                replace BK5010 := kBB BK5010 hb
                replace HB := bS HB hb
                clear hb
                refine hK.out _ _ ⟨bc BK5000 0, bc BK5000 1, bc BK5000 2, bc BK5002 0, bc BK5002 1, bc BK5004 0, bc BK5004 1, bc BK5004 2, bc BK5006 0, bc BK5006 1⟩ (fun hHeld => ?_)
                clear hK K
                refine nm (some 19) ?_
                exact nrm (hJ1_3_5_12 (gb5010) _ ⟨hHeld, (qB BK5000), (qB BK5002), (qB BK5004), (qB BK5006), (qB BK5010), GW5010.out, GE5010.out, NB5000_5010.out, NB5010_5000.out, NB5002_5010.out, NB5010_5002.out, NB5004_5010.out, NB5010_5004.out, NB5006_5010.out, NB5010_5006.out, (qL HB)⟩)
              skip
              rintro _ w5013 ⟨hS_, h0_, h1_, h2_, h3_, h4_⟩
              replace BK5000 := az h0_
              replace BK5002 := az h1_
              replace BK5004 := az h2_
              replace BK5006 := az h3_
              replace HB := az h4_
              clear h0_ h1_ h2_ h3_ h4_
              have hHeld := hS_
              refine nmp ?_
              refine two_ (i := 7) (j := 12) (Ni := some 21) (Nj := some 9) (fl 15 255) (fl 15 4223) rfl rfl rfl rfl (two_of HT_.out (by kernel_rfl)) (by decide) (by decide) (fun K hK => ?_) (fun K hK => ?_)
              · skip
                refine go1 Try.func20 #[.agg #[.int .i64 a3_0, .int .i64 a3_1]] ?_
                with_reducible refine (laws_toVec.calls a3_0 a3_1 t1120 t1121 _ A8.out).mono ?_
                rintro e w5014 ⟨rfl, hb⟩
                refine ⟨_, rfl, ?_⟩
                replace BK5000 := kBB BK5000 hb
                replace BK5002 := kBB BK5002 hb
                replace BK5004 := kBB BK5004 hb
                replace BK5006 := kBB BK5006 hb
                replace HB := bS HB hb
                clear hb
                refine hK.out _ _ ⟨bc BK5000 0, bc BK5000 1, bc BK5000 2, bc BK5002 0, bc BK5002 1, bc BK5004 0, bc BK5004 1, bc BK5004 2, bc BK5006 0, bc BK5006 1⟩ (fun hHeld => ?_)
                clear hK K
                refine nm (some 21) ?_
                exact nrm (hJ1_3_5_7 () _ ⟨hHeld, (qB BK5000), (qB BK5002), (qB BK5004), (qB BK5006), (qL HB)⟩)
              skip
              refine box_step ?hg (N := 9) ?hd (cs := #[.int .i64 0, .int .i64 0, .int .i64 0]) (t := 56) ?hr ?_; (case hd => rfl); (case hg => rfl); (case hr => first | (go_simp; done) | (go_simp; rfl))
              intro gb5010 hg w5014 hbox hb
              have BK5010 := az hbox
              have GW5010 := az ((gE hg (qL HB) : w.heap.size ≤ gb5010))
              have GE5010 := GW5010
              obtain ⟨NB5000_5010, NB5010_5000⟩ := nPB BK5000 hg
              obtain ⟨NB5002_5010, NB5010_5002⟩ := nPB BK5002 hg
              obtain ⟨NB5004_5010, NB5010_5004⟩ := nPB BK5004 hg
              obtain ⟨NB5006_5010, NB5010_5006⟩ := nPB BK5006 hg
              replace BK5000 := kBB BK5000 hb
              replace BK5002 := kBB BK5002 hb
              replace BK5004 := kBB BK5004 hb
              replace BK5006 := kBB BK5006 hb
              replace HB := bS HB hb
              clear hb hbox hg
              refine hK.out _ _ ⟨bc BK5000 0, bc BK5000 1, bc BK5000 2, bc BK5002 0, bc BK5002 1, bc BK5004 0, bc BK5004 1, bc BK5004 2, bc BK5006 0, bc BK5006 1⟩ (fun hHeld => ?_)
              clear hK K
              refine nm (some 9) ?_
              exact nrm (hJ1_3_5_12 (gb5010) _ ⟨hHeld, (qB BK5000), (qB BK5002), (qB BK5004), (qB BK5006), (qB BK5010), GW5010.out, GE5010.out, NB5000_5010.out, NB5010_5000.out, NB5002_5010.out, NB5010_5002.out, NB5004_5010.out, NB5010_5004.out, NB5006_5010.out, NB5010_5006.out, (qL HB)⟩)
            skip
            rintro gb5010 w5014 ⟨hS_, h0_, h1_, h2_, h3_, h4_, h5_, h6_, h7_, h8_, h9_, h10_, h11_, h12_, h13_, h14_, h15_⟩
            have BK5010 := az h4_
            have GW5010 := az h5_
            have GE5010 := az h6_
            have NB5000_5010 := az h7_
            have NB5010_5000 := az h8_
            have NB5002_5010 := az h9_
            have NB5010_5002 := az h10_
            have NB5004_5010 := az h11_
            have NB5010_5004 := az h12_
            have NB5006_5010 := az h13_
            have NB5010_5006 := az h14_
            replace BK5000 := az h0_
            replace BK5002 := az h1_
            replace BK5004 := az h2_
            replace BK5006 := az h3_
            replace HB := az h15_
            clear h0_ h1_ h2_ h3_ h4_ h5_ h6_ h7_ h8_ h9_ h10_ h11_ h12_ h13_ h14_ h15_
            have hHeld := hS_
            refine nmp ?_
            refine on 7 (some 21) (fl 15 4351) HT_ (fun K hK => ?_)
            refine go1 Try.func20 #[.agg #[.int .i64 a3_0, .int .i64 a3_1]] ?_
            with_reducible refine (laws_toVec.calls a3_0 a3_1 t1120 t1121 _ A8.out).mono ?_
            rintro e w5015 ⟨rfl, hb⟩
            refine ⟨_, rfl, ?_⟩
            replace BK5000 := kBB BK5000 hb
            replace BK5002 := kBB BK5002 hb
            replace BK5004 := kBB BK5004 hb
            replace BK5006 := kBB BK5006 hb
            replace BK5010 := kBB BK5010 hb
            replace HB := bS HB hb
            clear hb
            refine hK.out _ _ ⟨bc BK5000 0, bc BK5000 1, bc BK5000 2, bc BK5002 0, bc BK5002 1, bc BK5004 0, bc BK5004 1, bc BK5004 2, bc BK5006 0, bc BK5006 1⟩ (fun hHeld => ?_)
            clear hK K
            refine nm (some 21) ?_
            exact nrm (hJ1_3_5_7_12 (gb5010) _ ⟨hHeld, (qB BK5000), (qB BK5002), (qB BK5004), (qB BK5006), (qB BK5010), GW5010.out, GE5010.out, NB5000_5010.out, NB5010_5000.out, NB5002_5010.out, NB5010_5002.out, NB5004_5010.out, NB5010_5004.out, NB5006_5010.out, NB5010_5006.out, (qL HB)⟩)
          skip
          rintro _ w5014 ⟨hS_, h0_, h1_, h2_, h3_, h4_⟩
          replace BK5000 := az h0_
          replace BK5002 := az h1_
          replace BK5004 := az h2_
          replace BK5006 := az h3_
          replace HB := az h4_
          clear h0_ h1_ h2_ h3_ h4_
          have hHeld := hS_
          refine nmp ?_
          refine two_ (i := 8) (j := 12) (Ni := some 22) (Nj := some 9) (fl 15 511) (fl 15 4351) rfl rfl rfl rfl (two_of HT_.out (by kernel_rfl)) (by decide) (by decide) (fun K hK => ?_) (fun K hK => ?_)
          · skip
            refine go1 Try.func33 #[.agg #[.int .i64 t1112, .int .i64 t1113, .int .i64 t1114], .agg #[.int .i64 t1115, .int .i64 t1116], .agg #[.int .i64 t1117, .int .i64 t1118, .int .i64 t1119], .agg #[.int .i64 t1120, .int .i64 t1121]] ?_
            with_reducible refine (spec_Touch.calls k t1112 t1113 t1114 t1115 t1116 t1117 t1118 t1119 t1120 t1121 t1122 t1123 t1124 t1125 _ A9.out).mono ?_
            rintro e w5015 ⟨rfl, hb⟩
            refine ⟨_, rfl, ?_⟩
            replace BK5000 := kBB BK5000 hb
            replace BK5002 := kBB BK5002 hb
            replace BK5004 := kBB BK5004 hb
            replace BK5006 := kBB BK5006 hb
            replace HB := bS HB hb
            clear hb
            refine hK.out _ _ ⟨bc BK5000 0, bc BK5000 1, bc BK5000 2, bc BK5002 0, bc BK5002 1, bc BK5004 0, bc BK5004 1, bc BK5004 2, bc BK5006 0, bc BK5006 1⟩ (fun hHeld => ?_)
            clear hK K
            refine nm (some 22) ?_
            refine pu 9 (some 13) (fl 15 1023) HT_ ?_
            refine pu 10 (some 23) (fl 15 2047) HT_ ?_
            refine pu 11 (some 24) (fl 15 4095) HT_ ?_
            exact nrm (hJ1_3_5_7_8 () _ ⟨hHeld, (qB BK5000), (qB BK5002), (qB BK5004), (qB BK5006), (qL HB)⟩)
          skip
          refine box_step ?hg (N := 9) ?hd (cs := #[.int .i64 0, .int .i64 0, .int .i64 0]) (t := 56) ?hr ?_; (case hd => rfl); (case hg => rfl); (case hr => first | (go_simp; done) | (go_simp; rfl))
          intro gb5010 hg w5015 hbox hb
          have BK5010 := az hbox
          have GW5010 := az ((gE hg (qL HB) : w.heap.size ≤ gb5010))
          have GE5010 := GW5010
          obtain ⟨NB5000_5010, NB5010_5000⟩ := nPB BK5000 hg
          obtain ⟨NB5002_5010, NB5010_5002⟩ := nPB BK5002 hg
          obtain ⟨NB5004_5010, NB5010_5004⟩ := nPB BK5004 hg
          obtain ⟨NB5006_5010, NB5010_5006⟩ := nPB BK5006 hg
          replace BK5000 := kBB BK5000 hb
          replace BK5002 := kBB BK5002 hb
          replace BK5004 := kBB BK5004 hb
          replace BK5006 := kBB BK5006 hb
          replace HB := bS HB hb
          clear hb hbox hg
          refine hK.out _ _ ⟨bc BK5000 0, bc BK5000 1, bc BK5000 2, bc BK5002 0, bc BK5002 1, bc BK5004 0, bc BK5004 1, bc BK5004 2, bc BK5006 0, bc BK5006 1⟩ (fun hHeld => ?_)
          clear hK K
          refine nm (some 9) ?_
          exact nrm (hJ1_3_5_7_12 (gb5010) _ ⟨hHeld, (qB BK5000), (qB BK5002), (qB BK5004), (qB BK5006), (qB BK5010), GW5010.out, GE5010.out, NB5000_5010.out, NB5010_5000.out, NB5002_5010.out, NB5010_5002.out, NB5004_5010.out, NB5010_5004.out, NB5006_5010.out, NB5010_5006.out, (qL HB)⟩)
        skip
        rintro gb5010 w5015 ⟨hS_, h0_, h1_, h2_, h3_, h4_, h5_, h6_, h7_, h8_, h9_, h10_, h11_, h12_, h13_, h14_, h15_⟩
        have BK5010 := az h4_
        have GW5010 := az h5_
        have GE5010 := az h6_
        have NB5000_5010 := az h7_
        have NB5010_5000 := az h8_
        have NB5002_5010 := az h9_
        have NB5010_5002 := az h10_
        have NB5004_5010 := az h11_
        have NB5010_5004 := az h12_
        have NB5006_5010 := az h13_
        have NB5010_5006 := az h14_
        replace BK5000 := az h0_
        replace BK5002 := az h1_
        replace BK5004 := az h2_
        replace BK5006 := az h3_
        replace HB := az h15_
        clear h0_ h1_ h2_ h3_ h4_ h5_ h6_ h7_ h8_ h9_ h10_ h11_ h12_ h13_ h14_ h15_
        have hHeld := hS_
        refine nmp ?_
        refine on 8 (some 22) (fl 15 4607) HT_ (fun K hK => ?_)
        refine go1 Try.func33 #[.agg #[.int .i64 t1112, .int .i64 t1113, .int .i64 t1114], .agg #[.int .i64 t1115, .int .i64 t1116], .agg #[.int .i64 t1117, .int .i64 t1118, .int .i64 t1119], .agg #[.int .i64 t1120, .int .i64 t1121]] ?_
        with_reducible refine (spec_Touch.calls k t1112 t1113 t1114 t1115 t1116 t1117 t1118 t1119 t1120 t1121 t1122 t1123 t1124 t1125 _ A9.out).mono ?_
        rintro e w5016 ⟨rfl, hb⟩
        refine ⟨_, rfl, ?_⟩
        replace BK5000 := kBB BK5000 hb
        replace BK5002 := kBB BK5002 hb
        replace BK5004 := kBB BK5004 hb
        replace BK5006 := kBB BK5006 hb
        replace BK5010 := kBB BK5010 hb
        replace HB := bS HB hb
        clear hb
        refine hK.out _ _ ⟨bc BK5000 0, bc BK5000 1, bc BK5000 2, bc BK5002 0, bc BK5002 1, bc BK5004 0, bc BK5004 1, bc BK5004 2, bc BK5006 0, bc BK5006 1⟩ (fun hHeld => ?_)
        clear hK K
        refine nm (some 22) ?_
        refine pu 9 (some 13) (fl 15 5119) HT_ ?_
        refine pu 10 (some 23) (fl 15 6143) HT_ ?_
        refine pu 11 (some 24) (fl 15 8191) HT_ ?_
        exact nrm (hJ1_3_5_7_8_12 (gb5010) _ ⟨hHeld, (qB BK5000), (qB BK5002), (qB BK5004), (qB BK5006), (qB BK5010), GW5010.out, GE5010.out, NB5000_5010.out, NB5010_5000.out, NB5002_5010.out, NB5010_5002.out, NB5004_5010.out, NB5010_5004.out, NB5006_5010.out, NB5010_5006.out, (qL HB)⟩)
      skip
      rintro _ w5015 ⟨hS_, h0_, h1_, h2_, h3_, h4_⟩
      replace BK5000 := az h0_
      replace BK5002 := az h1_
      replace BK5004 := az h2_
      replace BK5006 := az h3_
      replace HB := az h4_
      clear h0_ h1_ h2_ h3_ h4_
      have hHeld := hS_
      refine nmp ?_
      refine on 12 (some 9) (fl 15 8191) HT_ (fun K hK => ?_)
      refine box_step ?hg (N := 9) ?hd (cs := #[.int .i64 0, .int .i64 0, .int .i64 0]) (t := 56) ?hr ?_; (case hd => rfl); (case hg => rfl); (case hr => first | (go_simp; done) | (go_simp; rfl))
      intro gb5010 hg w5016 hbox hb
      have BK5010 := az hbox
      have GW5010 := az ((gE hg (qL HB) : w.heap.size ≤ gb5010))
      have GE5010 := GW5010
      obtain ⟨NB5000_5010, NB5010_5000⟩ := nPB BK5000 hg
      obtain ⟨NB5002_5010, NB5010_5002⟩ := nPB BK5002 hg
      obtain ⟨NB5004_5010, NB5010_5004⟩ := nPB BK5004 hg
      obtain ⟨NB5006_5010, NB5010_5006⟩ := nPB BK5006 hg
      replace BK5000 := kBB BK5000 hb
      replace BK5002 := kBB BK5002 hb
      replace BK5004 := kBB BK5004 hb
      replace BK5006 := kBB BK5006 hb
      replace HB := bS HB hb
      clear hb hbox hg
      refine hK.out _ _ ⟨bc BK5000 0, bc BK5000 1, bc BK5000 2, bc BK5002 0, bc BK5002 1, bc BK5004 0, bc BK5004 1, bc BK5004 2, bc BK5006 0, bc BK5006 1⟩ (fun hHeld => ?_)
      clear hK K
      refine nm (some 9) ?_
      exact nrm (hJ1_3_5_7_8_12 (gb5010) _ ⟨hHeld, (qB BK5000), (qB BK5002), (qB BK5004), (qB BK5006), (qB BK5010), GW5010.out, GE5010.out, NB5000_5010.out, NB5010_5000.out, NB5002_5010.out, NB5010_5002.out, NB5004_5010.out, NB5010_5004.out, NB5006_5010.out, NB5010_5006.out, (qL HB)⟩)
    rintro gb5010 w5016 ⟨hS_, h0_, h1_, h2_, h3_, h4_, h5_, h6_, h7_, h8_, h9_, h10_, h11_, h12_, h13_, h14_, h15_⟩
    have BK5010 := az h4_
    have GW5010 := az h5_
    have GE5010 := az h6_
    have NB5000_5010 := az h7_
    have NB5010_5000 := az h8_
    have NB5002_5010 := az h9_
    have NB5010_5002 := az h10_
    have NB5004_5010 := az h11_
    have NB5010_5004 := az h12_
    have NB5006_5010 := az h13_
    have NB5010_5006 := az h14_
    replace BK5000 := az h0_
    replace BK5002 := az h1_
    replace BK5004 := az h2_
    replace BK5006 := az h3_
    replace HB := az h15_
    clear h0_ h1_ h2_ h3_ h4_ h5_ h6_ h7_ h8_ h9_ h10_ h11_ h12_ h13_ h14_ h15_
    have hHeld := hS_
    refine nmp ?_
    refine on 13 (none) (fl 15 16383) HT_ (fun K hK => ?_)
    have hs5017 : w5016.cell? ⟨gb5010, 0, none⟩ = some (.int .i64 0) := bc BK5010 0
    have hfs5017 := blk_frozen BK5010.out 0
    have hns5017_0 := NB5000_5010.out
    have hns5017_1 := NB5002_5010.out
    have hns5017_2 := NB5004_5010.out
    have hns5017_3 := NB5006_5010.out
    have hms5017_0 := NB5010_5000.out
    have hms5017_1 := NB5010_5002.out
    have hms5017_2 := NB5010_5004.out
    have hms5017_3 := NB5010_5006.out
    have hs5018 : w5016.cell? ⟨gb5010, 1, none⟩ = some (.int .i64 0) := bc BK5010 1
    have hfs5018 := blk_frozen BK5010.out 1
    have hns5018_0 := NB5000_5010.out
    have hns5018_1 := NB5002_5010.out
    have hns5018_2 := NB5004_5010.out
    have hns5018_3 := NB5006_5010.out
    have hms5018_0 := NB5010_5000.out
    have hms5018_1 := NB5010_5002.out
    have hms5018_2 := NB5010_5004.out
    have hms5018_3 := NB5010_5006.out
    have hs5019 : w5016.cell? ⟨gb5010, 2, none⟩ = some (.int .i64 0) := bc BK5010 2
    have hfs5019 := blk_frozen BK5010.out 2
    have hns5019_0 := NB5000_5010.out
    have hns5019_1 := NB5002_5010.out
    have hns5019_2 := NB5004_5010.out
    have hns5019_3 := NB5006_5010.out
    have hms5019_0 := NB5010_5000.out
    have hms5019_1 := NB5010_5002.out
    have hms5019_2 := NB5010_5004.out
    have hms5019_3 := NB5010_5006.out
    refine skip_ (w1 := ?_) ?hw ?hn ?_ ?_; (case hw => unfold Region.wanted; rfl); (case hn => rfl)
    rotate_left
    · go_simp
      rfl
    refine hK.out _ _ ⟨(cf NB5000_5010 ((cf NB5000_5010 ((cf NB5000_5010 (hHeld.1)))))), (cf NB5000_5010 ((cf NB5000_5010 ((cf NB5000_5010 (hHeld.2.1)))))), (cf NB5000_5010 ((cf NB5000_5010 ((cf NB5000_5010 (hHeld.2.2.1)))))), (cf NB5002_5010 ((cf NB5002_5010 ((cf NB5002_5010 (hHeld.2.2.2.1)))))), (cf NB5002_5010 ((cf NB5002_5010 ((cf NB5002_5010 (hHeld.2.2.2.2.1)))))), (cf NB5004_5010 ((cf NB5004_5010 ((cf NB5004_5010 (hHeld.2.2.2.2.2.1)))))), (cf NB5004_5010 ((cf NB5004_5010 ((cf NB5004_5010 (hHeld.2.2.2.2.2.2.1)))))), (cf NB5004_5010 ((cf NB5004_5010 ((cf NB5004_5010 (hHeld.2.2.2.2.2.2.2.1)))))), (cf NB5006_5010 ((cf NB5006_5010 ((cf NB5006_5010 (hHeld.2.2.2.2.2.2.2.2.1)))))), (cf NB5006_5010 ((cf NB5006_5010 ((cf NB5006_5010 (hHeld.2.2.2.2.2.2.2.2.2))))))⟩ (fun hHeld => ?_)
    clear hK K
    refine pu 14 (some 10) (fl 15 32767) HT_ ?_
    refine done_ (done_of HT_.out (by kernel_rfl)) ?_
    try go_wp2
    obtain ⟨w5020, hw_⟩ : ∃ x, x = (((w5016.setCell ⟨gb5010, 0, none⟩ (.int .i64 t1122)).setCell ⟨gb5010, 1, none⟩ (.int .i64 t1123)).setCell ⟨gb5010, 2, none⟩ (.int .i64 t1124)) := ⟨_, rfl⟩
    replace BK5000 : Aside0 (w5020.heap[gb5000]? = some (.cells #[.int .i64 a0_0, .int .i64 a0_1, .int .i64 a0_2] 34 (0, 0))) := ⟨by rw [hw_]; exact qF BK5000⟩
    replace BK5002 : Aside0 (w5020.heap[gb5002]? = some (.cells #[.int .i64 a1_0, .int .i64 a1_1] 35 (0, 0))) := ⟨by rw [hw_]; exact qF BK5002⟩
    replace BK5004 : Aside0 (w5020.heap[gb5004]? = some (.cells #[.int .i64 a2_0, .int .i64 a2_1, .int .i64 a2_2] 34 (0, 0))) := ⟨by rw [hw_]; exact qF BK5004⟩
    replace BK5006 : Aside0 (w5020.heap[gb5006]? = some (.cells #[.int .i64 a3_0, .int .i64 a3_1] 35 (0, 0))) := ⟨by rw [hw_]; exact qF BK5006⟩
    replace BK5010 : Aside0 (w5020.heap[gb5010]? = some (.cells #[.int .i64 t1122, .int .i64 t1123, .int .i64 t1124] 56 (0, 0))) := ⟨by rw [hw_]; exact qP BK5010⟩
    replace HB : Aside0 (Below w.heap.size w w5020) := ⟨by rw [hw_]; exact qL HB⟩
    rw [← hw_]
    clear hw_
    replace BK5000 := az (blk_drew BK5000.out)
    replace BK5002 := az (blk_drew BK5002.out)
    replace BK5004 := az (blk_drew BK5004.out)
    replace BK5006 := az (blk_drew BK5006.out)
    replace BK5010 := az (blk_drew BK5010.out)
    replace HB := az (below_drew1 HB.out)
    refine start_ (n := 15) (S := fun w' => w'.cell? ⟨gb5000, 0, none⟩ = some (.int .i64 a0_0) ∧ w'.cell? ⟨gb5000, 1, none⟩ = some (.int .i64 a0_1) ∧ w'.cell? ⟨gb5000, 2, none⟩ = some (.int .i64 a0_2) ∧ w'.cell? ⟨gb5002, 0, none⟩ = some (.int .i64 a1_0) ∧ w'.cell? ⟨gb5002, 1, none⟩ = some (.int .i64 a1_1) ∧ w'.cell? ⟨gb5004, 0, none⟩ = some (.int .i64 a2_0) ∧ w'.cell? ⟨gb5004, 1, none⟩ = some (.int .i64 a2_1) ∧ w'.cell? ⟨gb5004, 2, none⟩ = some (.int .i64 a2_2) ∧ w'.cell? ⟨gb5006, 0, none⟩ = some (.int .i64 a3_0) ∧ w'.cell? ⟨gb5006, 1, none⟩ = some (.int .i64 a3_1)) (ds := []) #[false, false, false, false, false, false, false, false, false, false, false, false, false, false, false] (by kernel_rfl) rfl rfl ⟨bc BK5000 0, bc BK5000 1, bc BK5000 2, bc BK5002 0, bc BK5002 1, bc BK5004 0, bc BK5004 1, bc BK5004 2, bc BK5006 0, bc BK5006 1⟩ (fun hHeld => ?_); refine with_tabW laws_FnExactTouch.tab2 laws_FnExactTouch.bits2 (fun HT_ HW_ => ?_)
    generalize w5020.drew = w5021 at BK5000 BK5002 BK5004 BK5006 BK5010 HB hHeld ⊢
    refine tk10 0 (some 26) (fl 15 1) HT_ HW_ hHeld ?_
    refine tk10 2 (some 28) (fl 15 5) HT_ HW_ hHeld ?_
    refine tk10 4 (some 30) (fl 15 21) HT_ HW_ hHeld ?_
    refine tk10 6 (some 32) (fl 15 85) HT_ HW_ hHeld ?_
    refine join_ (σ := Nat) 2 (fl 15 8191) (fun s_ => [(27, .agg #[.int .i64 t1127, .int .i64 t1128, .int .i64 t1129]), (29, .agg #[.int .i64 t1130, .int .i64 t1131]), (31, .agg #[.int .i64 t1132, .int .i64 t1133, .int .i64 t1134]), (33, .agg #[.int .i64 t1135, .int .i64 t1136]), (34, .tuple #[.agg #[.int .i64 t1137, .int .i64 t1138, .int .i64 t1139], .bool t1140]), (11, .pointer (some ⟨s_, 0, none⟩)), (25, .tuple #[.agg #[.int .i64 t1137, .int .i64 t1138, .int .i64 t1139], .bool t1140]), (35, .agg #[.int .i64 t1137, .int .i64 t1138, .int .i64 t1139]), (36, .bool t1140)]) (fun s_ w' => (w'.cell? ⟨gb5000, 0, none⟩ = some (.int .i64 a0_0) ∧ w'.cell? ⟨gb5000, 1, none⟩ = some (.int .i64 a0_1) ∧ w'.cell? ⟨gb5000, 2, none⟩ = some (.int .i64 a0_2) ∧ w'.cell? ⟨gb5002, 0, none⟩ = some (.int .i64 a1_0) ∧ w'.cell? ⟨gb5002, 1, none⟩ = some (.int .i64 a1_1) ∧ w'.cell? ⟨gb5004, 0, none⟩ = some (.int .i64 a2_0) ∧ w'.cell? ⟨gb5004, 1, none⟩ = some (.int .i64 a2_1) ∧ w'.cell? ⟨gb5004, 2, none⟩ = some (.int .i64 a2_2) ∧ w'.cell? ⟨gb5006, 0, none⟩ = some (.int .i64 a3_0) ∧ w'.cell? ⟨gb5006, 1, none⟩ = some (.int .i64 a3_1)) ∧ (w'.heap[gb5000]? = some (.cells #[.int .i64 a0_0, .int .i64 a0_1, .int .i64 a0_2] 34 (0, 0))) ∧ (w'.heap[gb5002]? = some (.cells #[.int .i64 a1_0, .int .i64 a1_1] 35 (0, 0))) ∧ (w'.heap[gb5004]? = some (.cells #[.int .i64 a2_0, .int .i64 a2_1, .int .i64 a2_2] 34 (0, 0))) ∧ (w'.heap[gb5006]? = some (.cells #[.int .i64 a3_0, .int .i64 a3_1] 35 (0, 0))) ∧ (w'.heap[gb5010]? = some (.cells #[.int .i64 t1122, .int .i64 t1123, .int .i64 t1124] 56 (0, 0))) ∧ (w'.heap[s_]? = some (.cells #[.int .i64 0, .int .i64 0, .int .i64 0] 56 (0, 0))) ∧ (w.heap.size ≤ s_) ∧ (w.heap.size ≤ s_) ∧ (gb5000 ≠ s_) ∧ (s_ ≠ gb5000) ∧ (gb5002 ≠ s_) ∧ (s_ ≠ gb5002) ∧ (gb5004 ≠ s_) ∧ (s_ ≠ gb5004) ∧ (gb5006 ≠ s_) ∧ (s_ ≠ gb5006) ∧ (gb5010 ≠ s_) ∧ (s_ ≠ gb5010) ∧ (Below w.heap.size w w')) ?_ ?_
    rotate_left
    · intro hJ1_3_5_7_8_12
      refine join_ (σ := Unit) 3 (fl 15 4095) (fun s_ => [(27, .agg #[.int .i64 t1127, .int .i64 t1128, .int .i64 t1129]), (29, .agg #[.int .i64 t1130, .int .i64 t1131]), (31, .agg #[.int .i64 t1132, .int .i64 t1133, .int .i64 t1134]), (33, .agg #[.int .i64 t1135, .int .i64 t1136]), (34, .tuple #[.agg #[.int .i64 t1137, .int .i64 t1138, .int .i64 t1139], .bool t1140]), (25, .tuple #[.agg #[.int .i64 t1137, .int .i64 t1138, .int .i64 t1139], .bool t1140]), (35, .agg #[.int .i64 t1137, .int .i64 t1138, .int .i64 t1139]), (36, .bool t1140)]) (fun s_ w' => (w'.cell? ⟨gb5000, 0, none⟩ = some (.int .i64 a0_0) ∧ w'.cell? ⟨gb5000, 1, none⟩ = some (.int .i64 a0_1) ∧ w'.cell? ⟨gb5000, 2, none⟩ = some (.int .i64 a0_2) ∧ w'.cell? ⟨gb5002, 0, none⟩ = some (.int .i64 a1_0) ∧ w'.cell? ⟨gb5002, 1, none⟩ = some (.int .i64 a1_1) ∧ w'.cell? ⟨gb5004, 0, none⟩ = some (.int .i64 a2_0) ∧ w'.cell? ⟨gb5004, 1, none⟩ = some (.int .i64 a2_1) ∧ w'.cell? ⟨gb5004, 2, none⟩ = some (.int .i64 a2_2) ∧ w'.cell? ⟨gb5006, 0, none⟩ = some (.int .i64 a3_0) ∧ w'.cell? ⟨gb5006, 1, none⟩ = some (.int .i64 a3_1)) ∧ (w'.heap[gb5000]? = some (.cells #[.int .i64 a0_0, .int .i64 a0_1, .int .i64 a0_2] 34 (0, 0))) ∧ (w'.heap[gb5002]? = some (.cells #[.int .i64 a1_0, .int .i64 a1_1] 35 (0, 0))) ∧ (w'.heap[gb5004]? = some (.cells #[.int .i64 a2_0, .int .i64 a2_1, .int .i64 a2_2] 34 (0, 0))) ∧ (w'.heap[gb5006]? = some (.cells #[.int .i64 a3_0, .int .i64 a3_1] 35 (0, 0))) ∧ (w'.heap[gb5010]? = some (.cells #[.int .i64 t1122, .int .i64 t1123, .int .i64 t1124] 56 (0, 0))) ∧ (Below w.heap.size w w')) ?_ ?_
      rotate_left
      · intro hJ1_3_5_7_8
        refine join_ (σ := Nat) 6 (fl 15 4351) (fun s_ => [(27, .agg #[.int .i64 t1127, .int .i64 t1128, .int .i64 t1129]), (29, .agg #[.int .i64 t1130, .int .i64 t1131]), (31, .agg #[.int .i64 t1132, .int .i64 t1133, .int .i64 t1134]), (33, .agg #[.int .i64 t1135, .int .i64 t1136]), (11, .pointer (some ⟨s_, 0, none⟩))]) (fun s_ w' => (w'.cell? ⟨gb5000, 0, none⟩ = some (.int .i64 a0_0) ∧ w'.cell? ⟨gb5000, 1, none⟩ = some (.int .i64 a0_1) ∧ w'.cell? ⟨gb5000, 2, none⟩ = some (.int .i64 a0_2) ∧ w'.cell? ⟨gb5002, 0, none⟩ = some (.int .i64 a1_0) ∧ w'.cell? ⟨gb5002, 1, none⟩ = some (.int .i64 a1_1) ∧ w'.cell? ⟨gb5004, 0, none⟩ = some (.int .i64 a2_0) ∧ w'.cell? ⟨gb5004, 1, none⟩ = some (.int .i64 a2_1) ∧ w'.cell? ⟨gb5004, 2, none⟩ = some (.int .i64 a2_2) ∧ w'.cell? ⟨gb5006, 0, none⟩ = some (.int .i64 a3_0) ∧ w'.cell? ⟨gb5006, 1, none⟩ = some (.int .i64 a3_1)) ∧ (w'.heap[gb5000]? = some (.cells #[.int .i64 a0_0, .int .i64 a0_1, .int .i64 a0_2] 34 (0, 0))) ∧ (w'.heap[gb5002]? = some (.cells #[.int .i64 a1_0, .int .i64 a1_1] 35 (0, 0))) ∧ (w'.heap[gb5004]? = some (.cells #[.int .i64 a2_0, .int .i64 a2_1, .int .i64 a2_2] 34 (0, 0))) ∧ (w'.heap[gb5006]? = some (.cells #[.int .i64 a3_0, .int .i64 a3_1] 35 (0, 0))) ∧ (w'.heap[gb5010]? = some (.cells #[.int .i64 t1122, .int .i64 t1123, .int .i64 t1124] 56 (0, 0))) ∧ (w'.heap[s_]? = some (.cells #[.int .i64 0, .int .i64 0, .int .i64 0] 56 (0, 0))) ∧ (w.heap.size ≤ s_) ∧ (w.heap.size ≤ s_) ∧ (gb5000 ≠ s_) ∧ (s_ ≠ gb5000) ∧ (gb5002 ≠ s_) ∧ (s_ ≠ gb5002) ∧ (gb5004 ≠ s_) ∧ (s_ ≠ gb5004) ∧ (gb5006 ≠ s_) ∧ (s_ ≠ gb5006) ∧ (gb5010 ≠ s_) ∧ (s_ ≠ gb5010) ∧ (Below w.heap.size w w')) ?_ ?_
        rotate_left
        · intro hJ1_3_5_7_12
          refine join_ (σ := Unit) 7 (fl 15 255) (fun s_ => [(27, .agg #[.int .i64 t1127, .int .i64 t1128, .int .i64 t1129]), (29, .agg #[.int .i64 t1130, .int .i64 t1131]), (31, .agg #[.int .i64 t1132, .int .i64 t1133, .int .i64 t1134]), (33, .agg #[.int .i64 t1135, .int .i64 t1136])]) (fun s_ w' => (w'.cell? ⟨gb5000, 0, none⟩ = some (.int .i64 a0_0) ∧ w'.cell? ⟨gb5000, 1, none⟩ = some (.int .i64 a0_1) ∧ w'.cell? ⟨gb5000, 2, none⟩ = some (.int .i64 a0_2) ∧ w'.cell? ⟨gb5002, 0, none⟩ = some (.int .i64 a1_0) ∧ w'.cell? ⟨gb5002, 1, none⟩ = some (.int .i64 a1_1) ∧ w'.cell? ⟨gb5004, 0, none⟩ = some (.int .i64 a2_0) ∧ w'.cell? ⟨gb5004, 1, none⟩ = some (.int .i64 a2_1) ∧ w'.cell? ⟨gb5004, 2, none⟩ = some (.int .i64 a2_2) ∧ w'.cell? ⟨gb5006, 0, none⟩ = some (.int .i64 a3_0) ∧ w'.cell? ⟨gb5006, 1, none⟩ = some (.int .i64 a3_1)) ∧ (w'.heap[gb5000]? = some (.cells #[.int .i64 a0_0, .int .i64 a0_1, .int .i64 a0_2] 34 (0, 0))) ∧ (w'.heap[gb5002]? = some (.cells #[.int .i64 a1_0, .int .i64 a1_1] 35 (0, 0))) ∧ (w'.heap[gb5004]? = some (.cells #[.int .i64 a2_0, .int .i64 a2_1, .int .i64 a2_2] 34 (0, 0))) ∧ (w'.heap[gb5006]? = some (.cells #[.int .i64 a3_0, .int .i64 a3_1] 35 (0, 0))) ∧ (w'.heap[gb5010]? = some (.cells #[.int .i64 t1122, .int .i64 t1123, .int .i64 t1124] 56 (0, 0))) ∧ (Below w.heap.size w w')) ?_ ?_
          rotate_left
          · intro hJ1_3_5_7
            refine join_ (σ := Nat) 7 (fl 15 4223) (fun s_ => [(27, .agg #[.int .i64 t1127, .int .i64 t1128, .int .i64 t1129]), (29, .agg #[.int .i64 t1130, .int .i64 t1131]), (31, .agg #[.int .i64 t1132, .int .i64 t1133, .int .i64 t1134]), (11, .pointer (some ⟨s_, 0, none⟩))]) (fun s_ w' => (w'.cell? ⟨gb5000, 0, none⟩ = some (.int .i64 a0_0) ∧ w'.cell? ⟨gb5000, 1, none⟩ = some (.int .i64 a0_1) ∧ w'.cell? ⟨gb5000, 2, none⟩ = some (.int .i64 a0_2) ∧ w'.cell? ⟨gb5002, 0, none⟩ = some (.int .i64 a1_0) ∧ w'.cell? ⟨gb5002, 1, none⟩ = some (.int .i64 a1_1) ∧ w'.cell? ⟨gb5004, 0, none⟩ = some (.int .i64 a2_0) ∧ w'.cell? ⟨gb5004, 1, none⟩ = some (.int .i64 a2_1) ∧ w'.cell? ⟨gb5004, 2, none⟩ = some (.int .i64 a2_2) ∧ w'.cell? ⟨gb5006, 0, none⟩ = some (.int .i64 a3_0) ∧ w'.cell? ⟨gb5006, 1, none⟩ = some (.int .i64 a3_1)) ∧ (w'.heap[gb5000]? = some (.cells #[.int .i64 a0_0, .int .i64 a0_1, .int .i64 a0_2] 34 (0, 0))) ∧ (w'.heap[gb5002]? = some (.cells #[.int .i64 a1_0, .int .i64 a1_1] 35 (0, 0))) ∧ (w'.heap[gb5004]? = some (.cells #[.int .i64 a2_0, .int .i64 a2_1, .int .i64 a2_2] 34 (0, 0))) ∧ (w'.heap[gb5006]? = some (.cells #[.int .i64 a3_0, .int .i64 a3_1] 35 (0, 0))) ∧ (w'.heap[gb5010]? = some (.cells #[.int .i64 t1122, .int .i64 t1123, .int .i64 t1124] 56 (0, 0))) ∧ (w'.heap[s_]? = some (.cells #[.int .i64 0, .int .i64 0, .int .i64 0] 56 (0, 0))) ∧ (w.heap.size ≤ s_) ∧ (w.heap.size ≤ s_) ∧ (gb5000 ≠ s_) ∧ (s_ ≠ gb5000) ∧ (gb5002 ≠ s_) ∧ (s_ ≠ gb5002) ∧ (gb5004 ≠ s_) ∧ (s_ ≠ gb5004) ∧ (gb5006 ≠ s_) ∧ (s_ ≠ gb5006) ∧ (gb5010 ≠ s_) ∧ (s_ ≠ gb5010) ∧ (Below w.heap.size w w')) ?_ ?_
            rotate_left
            · intro hJ1_3_5_12
              refine join_ (σ := Unit) 8 (fl 15 127) (fun s_ => [(27, .agg #[.int .i64 t1127, .int .i64 t1128, .int .i64 t1129]), (29, .agg #[.int .i64 t1130, .int .i64 t1131]), (31, .agg #[.int .i64 t1132, .int .i64 t1133, .int .i64 t1134])]) (fun s_ w' => (w'.cell? ⟨gb5000, 0, none⟩ = some (.int .i64 a0_0) ∧ w'.cell? ⟨gb5000, 1, none⟩ = some (.int .i64 a0_1) ∧ w'.cell? ⟨gb5000, 2, none⟩ = some (.int .i64 a0_2) ∧ w'.cell? ⟨gb5002, 0, none⟩ = some (.int .i64 a1_0) ∧ w'.cell? ⟨gb5002, 1, none⟩ = some (.int .i64 a1_1) ∧ w'.cell? ⟨gb5004, 0, none⟩ = some (.int .i64 a2_0) ∧ w'.cell? ⟨gb5004, 1, none⟩ = some (.int .i64 a2_1) ∧ w'.cell? ⟨gb5004, 2, none⟩ = some (.int .i64 a2_2) ∧ w'.cell? ⟨gb5006, 0, none⟩ = some (.int .i64 a3_0) ∧ w'.cell? ⟨gb5006, 1, none⟩ = some (.int .i64 a3_1)) ∧ (w'.heap[gb5000]? = some (.cells #[.int .i64 a0_0, .int .i64 a0_1, .int .i64 a0_2] 34 (0, 0))) ∧ (w'.heap[gb5002]? = some (.cells #[.int .i64 a1_0, .int .i64 a1_1] 35 (0, 0))) ∧ (w'.heap[gb5004]? = some (.cells #[.int .i64 a2_0, .int .i64 a2_1, .int .i64 a2_2] 34 (0, 0))) ∧ (w'.heap[gb5006]? = some (.cells #[.int .i64 a3_0, .int .i64 a3_1] 35 (0, 0))) ∧ (w'.heap[gb5010]? = some (.cells #[.int .i64 t1122, .int .i64 t1123, .int .i64 t1124] 56 (0, 0))) ∧ (Below w.heap.size w w')) ?_ ?_
              rotate_left
              · intro hJ1_3_5
                refine join_ (σ := Nat) 8 (fl 15 4191) (fun s_ => [(27, .agg #[.int .i64 t1127, .int .i64 t1128, .int .i64 t1129]), (29, .agg #[.int .i64 t1130, .int .i64 t1131]), (11, .pointer (some ⟨s_, 0, none⟩))]) (fun s_ w' => (w'.cell? ⟨gb5000, 0, none⟩ = some (.int .i64 a0_0) ∧ w'.cell? ⟨gb5000, 1, none⟩ = some (.int .i64 a0_1) ∧ w'.cell? ⟨gb5000, 2, none⟩ = some (.int .i64 a0_2) ∧ w'.cell? ⟨gb5002, 0, none⟩ = some (.int .i64 a1_0) ∧ w'.cell? ⟨gb5002, 1, none⟩ = some (.int .i64 a1_1) ∧ w'.cell? ⟨gb5004, 0, none⟩ = some (.int .i64 a2_0) ∧ w'.cell? ⟨gb5004, 1, none⟩ = some (.int .i64 a2_1) ∧ w'.cell? ⟨gb5004, 2, none⟩ = some (.int .i64 a2_2) ∧ w'.cell? ⟨gb5006, 0, none⟩ = some (.int .i64 a3_0) ∧ w'.cell? ⟨gb5006, 1, none⟩ = some (.int .i64 a3_1)) ∧ (w'.heap[gb5000]? = some (.cells #[.int .i64 a0_0, .int .i64 a0_1, .int .i64 a0_2] 34 (0, 0))) ∧ (w'.heap[gb5002]? = some (.cells #[.int .i64 a1_0, .int .i64 a1_1] 35 (0, 0))) ∧ (w'.heap[gb5004]? = some (.cells #[.int .i64 a2_0, .int .i64 a2_1, .int .i64 a2_2] 34 (0, 0))) ∧ (w'.heap[gb5006]? = some (.cells #[.int .i64 a3_0, .int .i64 a3_1] 35 (0, 0))) ∧ (w'.heap[gb5010]? = some (.cells #[.int .i64 t1122, .int .i64 t1123, .int .i64 t1124] 56 (0, 0))) ∧ (w'.heap[s_]? = some (.cells #[.int .i64 0, .int .i64 0, .int .i64 0] 56 (0, 0))) ∧ (w.heap.size ≤ s_) ∧ (w.heap.size ≤ s_) ∧ (gb5000 ≠ s_) ∧ (s_ ≠ gb5000) ∧ (gb5002 ≠ s_) ∧ (s_ ≠ gb5002) ∧ (gb5004 ≠ s_) ∧ (s_ ≠ gb5004) ∧ (gb5006 ≠ s_) ∧ (s_ ≠ gb5006) ∧ (gb5010 ≠ s_) ∧ (s_ ≠ gb5010) ∧ (Below w.heap.size w w')) ?_ ?_
                rotate_left
                · intro hJ1_3_12
                  refine join_ (σ := Unit) 9 (fl 15 95) (fun s_ => [(27, .agg #[.int .i64 t1127, .int .i64 t1128, .int .i64 t1129]), (29, .agg #[.int .i64 t1130, .int .i64 t1131])]) (fun s_ w' => (w'.cell? ⟨gb5000, 0, none⟩ = some (.int .i64 a0_0) ∧ w'.cell? ⟨gb5000, 1, none⟩ = some (.int .i64 a0_1) ∧ w'.cell? ⟨gb5000, 2, none⟩ = some (.int .i64 a0_2) ∧ w'.cell? ⟨gb5002, 0, none⟩ = some (.int .i64 a1_0) ∧ w'.cell? ⟨gb5002, 1, none⟩ = some (.int .i64 a1_1) ∧ w'.cell? ⟨gb5004, 0, none⟩ = some (.int .i64 a2_0) ∧ w'.cell? ⟨gb5004, 1, none⟩ = some (.int .i64 a2_1) ∧ w'.cell? ⟨gb5004, 2, none⟩ = some (.int .i64 a2_2) ∧ w'.cell? ⟨gb5006, 0, none⟩ = some (.int .i64 a3_0) ∧ w'.cell? ⟨gb5006, 1, none⟩ = some (.int .i64 a3_1)) ∧ (w'.heap[gb5000]? = some (.cells #[.int .i64 a0_0, .int .i64 a0_1, .int .i64 a0_2] 34 (0, 0))) ∧ (w'.heap[gb5002]? = some (.cells #[.int .i64 a1_0, .int .i64 a1_1] 35 (0, 0))) ∧ (w'.heap[gb5004]? = some (.cells #[.int .i64 a2_0, .int .i64 a2_1, .int .i64 a2_2] 34 (0, 0))) ∧ (w'.heap[gb5006]? = some (.cells #[.int .i64 a3_0, .int .i64 a3_1] 35 (0, 0))) ∧ (w'.heap[gb5010]? = some (.cells #[.int .i64 t1122, .int .i64 t1123, .int .i64 t1124] 56 (0, 0))) ∧ (Below w.heap.size w w')) ?_ ?_
                  rotate_left
                  · intro hJ1_3
                    refine join_ (σ := Nat) 9 (fl 15 4183) (fun s_ => [(27, .agg #[.int .i64 t1127, .int .i64 t1128, .int .i64 t1129]), (11, .pointer (some ⟨s_, 0, none⟩))]) (fun s_ w' => (w'.cell? ⟨gb5000, 0, none⟩ = some (.int .i64 a0_0) ∧ w'.cell? ⟨gb5000, 1, none⟩ = some (.int .i64 a0_1) ∧ w'.cell? ⟨gb5000, 2, none⟩ = some (.int .i64 a0_2) ∧ w'.cell? ⟨gb5002, 0, none⟩ = some (.int .i64 a1_0) ∧ w'.cell? ⟨gb5002, 1, none⟩ = some (.int .i64 a1_1) ∧ w'.cell? ⟨gb5004, 0, none⟩ = some (.int .i64 a2_0) ∧ w'.cell? ⟨gb5004, 1, none⟩ = some (.int .i64 a2_1) ∧ w'.cell? ⟨gb5004, 2, none⟩ = some (.int .i64 a2_2) ∧ w'.cell? ⟨gb5006, 0, none⟩ = some (.int .i64 a3_0) ∧ w'.cell? ⟨gb5006, 1, none⟩ = some (.int .i64 a3_1)) ∧ (w'.heap[gb5000]? = some (.cells #[.int .i64 a0_0, .int .i64 a0_1, .int .i64 a0_2] 34 (0, 0))) ∧ (w'.heap[gb5002]? = some (.cells #[.int .i64 a1_0, .int .i64 a1_1] 35 (0, 0))) ∧ (w'.heap[gb5004]? = some (.cells #[.int .i64 a2_0, .int .i64 a2_1, .int .i64 a2_2] 34 (0, 0))) ∧ (w'.heap[gb5006]? = some (.cells #[.int .i64 a3_0, .int .i64 a3_1] 35 (0, 0))) ∧ (w'.heap[gb5010]? = some (.cells #[.int .i64 t1122, .int .i64 t1123, .int .i64 t1124] 56 (0, 0))) ∧ (w'.heap[s_]? = some (.cells #[.int .i64 0, .int .i64 0, .int .i64 0] 56 (0, 0))) ∧ (w.heap.size ≤ s_) ∧ (w.heap.size ≤ s_) ∧ (gb5000 ≠ s_) ∧ (s_ ≠ gb5000) ∧ (gb5002 ≠ s_) ∧ (s_ ≠ gb5002) ∧ (gb5004 ≠ s_) ∧ (s_ ≠ gb5004) ∧ (gb5006 ≠ s_) ∧ (s_ ≠ gb5006) ∧ (gb5010 ≠ s_) ∧ (s_ ≠ gb5010) ∧ (Below w.heap.size w w')) ?_ ?_
                    rotate_left
                    · intro hJ1_12
                      refine join_ (σ := Unit) 10 (fl 15 87) (fun s_ => [(27, .agg #[.int .i64 t1127, .int .i64 t1128, .int .i64 t1129])]) (fun s_ w' => (w'.cell? ⟨gb5000, 0, none⟩ = some (.int .i64 a0_0) ∧ w'.cell? ⟨gb5000, 1, none⟩ = some (.int .i64 a0_1) ∧ w'.cell? ⟨gb5000, 2, none⟩ = some (.int .i64 a0_2) ∧ w'.cell? ⟨gb5002, 0, none⟩ = some (.int .i64 a1_0) ∧ w'.cell? ⟨gb5002, 1, none⟩ = some (.int .i64 a1_1) ∧ w'.cell? ⟨gb5004, 0, none⟩ = some (.int .i64 a2_0) ∧ w'.cell? ⟨gb5004, 1, none⟩ = some (.int .i64 a2_1) ∧ w'.cell? ⟨gb5004, 2, none⟩ = some (.int .i64 a2_2) ∧ w'.cell? ⟨gb5006, 0, none⟩ = some (.int .i64 a3_0) ∧ w'.cell? ⟨gb5006, 1, none⟩ = some (.int .i64 a3_1)) ∧ (w'.heap[gb5000]? = some (.cells #[.int .i64 a0_0, .int .i64 a0_1, .int .i64 a0_2] 34 (0, 0))) ∧ (w'.heap[gb5002]? = some (.cells #[.int .i64 a1_0, .int .i64 a1_1] 35 (0, 0))) ∧ (w'.heap[gb5004]? = some (.cells #[.int .i64 a2_0, .int .i64 a2_1, .int .i64 a2_2] 34 (0, 0))) ∧ (w'.heap[gb5006]? = some (.cells #[.int .i64 a3_0, .int .i64 a3_1] 35 (0, 0))) ∧ (w'.heap[gb5010]? = some (.cells #[.int .i64 t1122, .int .i64 t1123, .int .i64 t1124] 56 (0, 0))) ∧ (Below w.heap.size w w')) ?_ ?_
                      rotate_left
                      · intro hJ1
                        refine join_ (σ := Nat) 10 (fl 15 4181) (fun s_ => [(11, .pointer (some ⟨s_, 0, none⟩))]) (fun s_ w' => (w'.cell? ⟨gb5000, 0, none⟩ = some (.int .i64 a0_0) ∧ w'.cell? ⟨gb5000, 1, none⟩ = some (.int .i64 a0_1) ∧ w'.cell? ⟨gb5000, 2, none⟩ = some (.int .i64 a0_2) ∧ w'.cell? ⟨gb5002, 0, none⟩ = some (.int .i64 a1_0) ∧ w'.cell? ⟨gb5002, 1, none⟩ = some (.int .i64 a1_1) ∧ w'.cell? ⟨gb5004, 0, none⟩ = some (.int .i64 a2_0) ∧ w'.cell? ⟨gb5004, 1, none⟩ = some (.int .i64 a2_1) ∧ w'.cell? ⟨gb5004, 2, none⟩ = some (.int .i64 a2_2) ∧ w'.cell? ⟨gb5006, 0, none⟩ = some (.int .i64 a3_0) ∧ w'.cell? ⟨gb5006, 1, none⟩ = some (.int .i64 a3_1)) ∧ (w'.heap[gb5000]? = some (.cells #[.int .i64 a0_0, .int .i64 a0_1, .int .i64 a0_2] 34 (0, 0))) ∧ (w'.heap[gb5002]? = some (.cells #[.int .i64 a1_0, .int .i64 a1_1] 35 (0, 0))) ∧ (w'.heap[gb5004]? = some (.cells #[.int .i64 a2_0, .int .i64 a2_1, .int .i64 a2_2] 34 (0, 0))) ∧ (w'.heap[gb5006]? = some (.cells #[.int .i64 a3_0, .int .i64 a3_1] 35 (0, 0))) ∧ (w'.heap[gb5010]? = some (.cells #[.int .i64 t1122, .int .i64 t1123, .int .i64 t1124] 56 (0, 0))) ∧ (w'.heap[s_]? = some (.cells #[.int .i64 0, .int .i64 0, .int .i64 0] 56 (0, 0))) ∧ (w.heap.size ≤ s_) ∧ (w.heap.size ≤ s_) ∧ (gb5000 ≠ s_) ∧ (s_ ≠ gb5000) ∧ (gb5002 ≠ s_) ∧ (s_ ≠ gb5002) ∧ (gb5004 ≠ s_) ∧ (s_ ≠ gb5004) ∧ (gb5006 ≠ s_) ∧ (s_ ≠ gb5006) ∧ (gb5010 ≠ s_) ∧ (s_ ≠ gb5010) ∧ (Below w.heap.size w w')) ?_ ?_
                        rotate_left
                        · intro hJ12
                          refine two_ (i := 1) (j := 12) (Ni := some 27) (Nj := some 11) (fl 15 87) (fl 15 4181) rfl rfl rfl rfl (two_of HT_.out (by kernel_rfl)) (by decide) (by decide) (fun K hK => ?_) (fun K hK => ?_)
                          · skip
                            refine go1 Try.func34 #[.agg #[.int .i64 a0_0, .int .i64 a0_1, .int .i64 a0_2]] ?_
                            with_reducible refine (laws_toShape.calls a0_0 a0_1 a0_2 t1127 t1128 t1129 _ A10.out).mono ?_
                            rintro e w5022 ⟨rfl, hb⟩
                            refine ⟨_, rfl, ?_⟩
                            replace BK5000 := kBB BK5000 hb
                            replace BK5002 := kBB BK5002 hb
                            replace BK5004 := kBB BK5004 hb
                            replace BK5006 := kBB BK5006 hb
                            replace BK5010 := kBB BK5010 hb
                            replace HB := bS HB hb
                            clear hb
                            refine hK.out _ _ ⟨bc BK5000 0, bc BK5000 1, bc BK5000 2, bc BK5002 0, bc BK5002 1, bc BK5004 0, bc BK5004 1, bc BK5004 2, bc BK5006 0, bc BK5006 1⟩ (fun hHeld => ?_)
                            clear hK K
                            refine nm (some 27) ?_
                            exact nrm (hJ1 () _ ⟨hHeld, (qB BK5000), (qB BK5002), (qB BK5004), (qB BK5006), (qB BK5010), (qL HB)⟩)
                          skip
                          refine box_step ?hg (N := 11) ?hd (cs := #[.int .i64 0, .int .i64 0, .int .i64 0]) (t := 56) ?hr ?_; (case hd => rfl); (case hg => rfl); (case hr => first | (go_simp; done) | (go_simp; rfl))
                          intro gb5023 hg w5022 hbox hb
                          have BK5023 := az hbox
                          have GW5023 := az ((gE hg (qL HB) : w.heap.size ≤ gb5023))
                          have GE5023 := GW5023
                          obtain ⟨NB5000_5023, NB5023_5000⟩ := nPB BK5000 hg
                          obtain ⟨NB5002_5023, NB5023_5002⟩ := nPB BK5002 hg
                          obtain ⟨NB5004_5023, NB5023_5004⟩ := nPB BK5004 hg
                          obtain ⟨NB5006_5023, NB5023_5006⟩ := nPB BK5006 hg
                          obtain ⟨NB5010_5023, NB5023_5010⟩ := nPB BK5010 hg
                          replace BK5000 := kBB BK5000 hb
                          replace BK5002 := kBB BK5002 hb
                          replace BK5004 := kBB BK5004 hb
                          replace BK5006 := kBB BK5006 hb
                          replace BK5010 := kBB BK5010 hb
                          replace HB := bS HB hb
                          clear hb hbox hg
                          refine hK.out _ _ ⟨bc BK5000 0, bc BK5000 1, bc BK5000 2, bc BK5002 0, bc BK5002 1, bc BK5004 0, bc BK5004 1, bc BK5004 2, bc BK5006 0, bc BK5006 1⟩ (fun hHeld => ?_)
                          clear hK K
                          refine nm (some 11) ?_
                          exact nrm (hJ12 (gb5023) _ ⟨hHeld, (qB BK5000), (qB BK5002), (qB BK5004), (qB BK5006), (qB BK5010), (qB BK5023), GW5023.out, GE5023.out, NB5000_5023.out, NB5023_5000.out, NB5002_5023.out, NB5023_5002.out, NB5004_5023.out, NB5023_5004.out, NB5006_5023.out, NB5023_5006.out, NB5010_5023.out, NB5023_5010.out, (qL HB)⟩)
                        skip
                        rintro gb5023 w5024 ⟨hS_, h0_, h1_, h2_, h3_, h4_, h5_, h6_, h7_, h8_, h9_, h10_, h11_, h12_, h13_, h14_, h15_, h16_, h17_, h18_⟩
                        have BK5023 := az h5_
                        have GW5023 := az h6_
                        have GE5023 := az h7_
                        have NB5000_5023 := az h8_
                        have NB5023_5000 := az h9_
                        have NB5002_5023 := az h10_
                        have NB5023_5002 := az h11_
                        have NB5004_5023 := az h12_
                        have NB5023_5004 := az h13_
                        have NB5006_5023 := az h14_
                        have NB5023_5006 := az h15_
                        have NB5010_5023 := az h16_
                        have NB5023_5010 := az h17_
                        replace BK5000 := az h0_
                        replace BK5002 := az h1_
                        replace BK5004 := az h2_
                        replace BK5006 := az h3_
                        replace BK5010 := az h4_
                        replace HB := az h18_
                        clear h0_ h1_ h2_ h3_ h4_ h5_ h6_ h7_ h8_ h9_ h10_ h11_ h12_ h13_ h14_ h15_ h16_ h17_ h18_
                        have hHeld := hS_
                        refine nmp ?_
                        refine on 1 (some 27) (fl 15 4183) HT_ (fun K hK => ?_)
                        refine go1 Try.func34 #[.agg #[.int .i64 a0_0, .int .i64 a0_1, .int .i64 a0_2]] ?_
                        with_reducible refine (laws_toShape.calls a0_0 a0_1 a0_2 t1127 t1128 t1129 _ A10.out).mono ?_
                        rintro e w5025 ⟨rfl, hb⟩
                        refine ⟨_, rfl, ?_⟩
                        replace BK5000 := kBB BK5000 hb
                        replace BK5002 := kBB BK5002 hb
                        replace BK5004 := kBB BK5004 hb
                        replace BK5006 := kBB BK5006 hb
                        replace BK5010 := kBB BK5010 hb
                        replace BK5023 := kBB BK5023 hb
                        replace HB := bS HB hb
                        clear hb
                        refine hK.out _ _ ⟨bc BK5000 0, bc BK5000 1, bc BK5000 2, bc BK5002 0, bc BK5002 1, bc BK5004 0, bc BK5004 1, bc BK5004 2, bc BK5006 0, bc BK5006 1⟩ (fun hHeld => ?_)
                        clear hK K
                        refine nm (some 27) ?_
                        exact nrm (hJ1_12 (gb5023) _ ⟨hHeld, (qB BK5000), (qB BK5002), (qB BK5004), (qB BK5006), (qB BK5010), (qB BK5023), GW5023.out, GE5023.out, NB5000_5023.out, NB5023_5000.out, NB5002_5023.out, NB5023_5002.out, NB5004_5023.out, NB5023_5004.out, NB5006_5023.out, NB5023_5006.out, NB5010_5023.out, NB5023_5010.out, (qL HB)⟩)
                      skip
                      rintro _ w5024 ⟨hS_, h0_, h1_, h2_, h3_, h4_, h5_⟩
                      replace BK5000 := az h0_
                      replace BK5002 := az h1_
                      replace BK5004 := az h2_
                      replace BK5006 := az h3_
                      replace BK5010 := az h4_
                      replace HB := az h5_
                      clear h0_ h1_ h2_ h3_ h4_ h5_
                      have hHeld := hS_
                      refine nmp ?_
                      refine two_ (i := 3) (j := 12) (Ni := some 29) (Nj := some 11) (fl 15 95) (fl 15 4183) rfl rfl rfl rfl (two_of HT_.out (by kernel_rfl)) (by decide) (by decide) (fun K hK => ?_) (fun K hK => ?_)
                      · skip
                        refine go1 Try.func20 #[.agg #[.int .i64 a1_0, .int .i64 a1_1]] ?_
                        with_reducible refine (laws_toVec.calls a1_0 a1_1 t1130 t1131 _ A11.out).mono ?_
                        rintro e w5025 ⟨rfl, hb⟩
                        refine ⟨_, rfl, ?_⟩
                        replace BK5000 := kBB BK5000 hb
                        replace BK5002 := kBB BK5002 hb
                        replace BK5004 := kBB BK5004 hb
                        replace BK5006 := kBB BK5006 hb
                        replace BK5010 := kBB BK5010 hb
                        replace HB := bS HB hb
                        clear hb
                        refine hK.out _ _ ⟨bc BK5000 0, bc BK5000 1, bc BK5000 2, bc BK5002 0, bc BK5002 1, bc BK5004 0, bc BK5004 1, bc BK5004 2, bc BK5006 0, bc BK5006 1⟩ (fun hHeld => ?_)
                        clear hK K
                        refine nm (some 29) ?_
                        exact nrm (hJ1_3 () _ ⟨hHeld, (qB BK5000), (qB BK5002), (qB BK5004), (qB BK5006), (qB BK5010), (qL HB)⟩)
                      skip
                      refine box_step ?hg (N := 11) ?hd (cs := #[.int .i64 0, .int .i64 0, .int .i64 0]) (t := 56) ?hr ?_; (case hd => rfl); (case hg => rfl); (case hr => first | (go_simp; done) | (go_simp; rfl))
                      intro gb5023 hg w5025 hbox hb
                      have BK5023 := az hbox
                      have GW5023 := az ((gE hg (qL HB) : w.heap.size ≤ gb5023))
                      have GE5023 := GW5023
                      obtain ⟨NB5000_5023, NB5023_5000⟩ := nPB BK5000 hg
                      obtain ⟨NB5002_5023, NB5023_5002⟩ := nPB BK5002 hg
                      obtain ⟨NB5004_5023, NB5023_5004⟩ := nPB BK5004 hg
                      obtain ⟨NB5006_5023, NB5023_5006⟩ := nPB BK5006 hg
                      obtain ⟨NB5010_5023, NB5023_5010⟩ := nPB BK5010 hg
                      replace BK5000 := kBB BK5000 hb
                      replace BK5002 := kBB BK5002 hb
                      replace BK5004 := kBB BK5004 hb
                      replace BK5006 := kBB BK5006 hb
                      replace BK5010 := kBB BK5010 hb
                      replace HB := bS HB hb
                      clear hb hbox hg
                      refine hK.out _ _ ⟨bc BK5000 0, bc BK5000 1, bc BK5000 2, bc BK5002 0, bc BK5002 1, bc BK5004 0, bc BK5004 1, bc BK5004 2, bc BK5006 0, bc BK5006 1⟩ (fun hHeld => ?_)
                      clear hK K
                      refine nm (some 11) ?_
                      exact nrm (hJ1_12 (gb5023) _ ⟨hHeld, (qB BK5000), (qB BK5002), (qB BK5004), (qB BK5006), (qB BK5010), (qB BK5023), GW5023.out, GE5023.out, NB5000_5023.out, NB5023_5000.out, NB5002_5023.out, NB5023_5002.out, NB5004_5023.out, NB5023_5004.out, NB5006_5023.out, NB5023_5006.out, NB5010_5023.out, NB5023_5010.out, (qL HB)⟩)
                    skip
                    rintro gb5023 w5025 ⟨hS_, h0_, h1_, h2_, h3_, h4_, h5_, h6_, h7_, h8_, h9_, h10_, h11_, h12_, h13_, h14_, h15_, h16_, h17_, h18_⟩
                    have BK5023 := az h5_
                    have GW5023 := az h6_
                    have GE5023 := az h7_
                    have NB5000_5023 := az h8_
                    have NB5023_5000 := az h9_
                    have NB5002_5023 := az h10_
                    have NB5023_5002 := az h11_
                    have NB5004_5023 := az h12_
                    have NB5023_5004 := az h13_
                    have NB5006_5023 := az h14_
                    have NB5023_5006 := az h15_
                    have NB5010_5023 := az h16_
                    have NB5023_5010 := az h17_
                    replace BK5000 := az h0_
                    replace BK5002 := az h1_
                    replace BK5004 := az h2_
                    replace BK5006 := az h3_
                    replace BK5010 := az h4_
                    replace HB := az h18_
                    clear h0_ h1_ h2_ h3_ h4_ h5_ h6_ h7_ h8_ h9_ h10_ h11_ h12_ h13_ h14_ h15_ h16_ h17_ h18_
                    have hHeld := hS_
                    refine nmp ?_
                    refine on 3 (some 29) (fl 15 4191) HT_ (fun K hK => ?_)
                    refine go1 Try.func20 #[.agg #[.int .i64 a1_0, .int .i64 a1_1]] ?_
                    with_reducible refine (laws_toVec.calls a1_0 a1_1 t1130 t1131 _ A11.out).mono ?_
                    rintro e w5026 ⟨rfl, hb⟩
                    refine ⟨_, rfl, ?_⟩
                    replace BK5000 := kBB BK5000 hb
                    replace BK5002 := kBB BK5002 hb
                    replace BK5004 := kBB BK5004 hb
                    replace BK5006 := kBB BK5006 hb
                    replace BK5010 := kBB BK5010 hb
                    replace BK5023 := kBB BK5023 hb
                    replace HB := bS HB hb
                    clear hb
                    refine hK.out _ _ ⟨bc BK5000 0, bc BK5000 1, bc BK5000 2, bc BK5002 0, bc BK5002 1, bc BK5004 0, bc BK5004 1, bc BK5004 2, bc BK5006 0, bc BK5006 1⟩ (fun hHeld => ?_)
                    clear hK K
                    refine nm (some 29) ?_
                    exact nrm (hJ1_3_12 (gb5023) _ ⟨hHeld, (qB BK5000), (qB BK5002), (qB BK5004), (qB BK5006), (qB BK5010), (qB BK5023), GW5023.out, GE5023.out, NB5000_5023.out, NB5023_5000.out, NB5002_5023.out, NB5023_5002.out, NB5004_5023.out, NB5023_5004.out, NB5006_5023.out, NB5023_5006.out, NB5010_5023.out, NB5023_5010.out, (qL HB)⟩)
                  skip
                  rintro _ w5025 ⟨hS_, h0_, h1_, h2_, h3_, h4_, h5_⟩
                  replace BK5000 := az h0_
                  replace BK5002 := az h1_
                  replace BK5004 := az h2_
                  replace BK5006 := az h3_
                  replace BK5010 := az h4_
                  replace HB := az h5_
                  clear h0_ h1_ h2_ h3_ h4_ h5_
                  have hHeld := hS_
                  refine nmp ?_
                  refine two_ (i := 5) (j := 12) (Ni := some 31) (Nj := some 11) (fl 15 127) (fl 15 4191) rfl rfl rfl rfl (two_of HT_.out (by kernel_rfl)) (by decide) (by decide) (fun K hK => ?_) (fun K hK => ?_)
                  · skip
                    refine go1 Try.func34 #[.agg #[.int .i64 a2_0, .int .i64 a2_1, .int .i64 a2_2]] ?_
                    with_reducible refine (laws_toShape.calls a2_0 a2_1 a2_2 t1132 t1133 t1134 _ A12.out).mono ?_
                    rintro e w5026 ⟨rfl, hb⟩
                    refine ⟨_, rfl, ?_⟩
                    replace BK5000 := kBB BK5000 hb
                    replace BK5002 := kBB BK5002 hb
                    replace BK5004 := kBB BK5004 hb
                    replace BK5006 := kBB BK5006 hb
                    replace BK5010 := kBB BK5010 hb
                    replace HB := bS HB hb
                    clear hb
                    refine hK.out _ _ ⟨bc BK5000 0, bc BK5000 1, bc BK5000 2, bc BK5002 0, bc BK5002 1, bc BK5004 0, bc BK5004 1, bc BK5004 2, bc BK5006 0, bc BK5006 1⟩ (fun hHeld => ?_)
                    clear hK K
                    refine nm (some 31) ?_
                    exact nrm (hJ1_3_5 () _ ⟨hHeld, (qB BK5000), (qB BK5002), (qB BK5004), (qB BK5006), (qB BK5010), (qL HB)⟩)
                  skip
                  refine box_step ?hg (N := 11) ?hd (cs := #[.int .i64 0, .int .i64 0, .int .i64 0]) (t := 56) ?hr ?_; (case hd => rfl); (case hg => rfl); (case hr => first | (go_simp; done) | (go_simp; rfl))
                  intro gb5023 hg w5026 hbox hb
                  have BK5023 := az hbox
                  have GW5023 := az ((gE hg (qL HB) : w.heap.size ≤ gb5023))
                  have GE5023 := GW5023
                  obtain ⟨NB5000_5023, NB5023_5000⟩ := nPB BK5000 hg
                  obtain ⟨NB5002_5023, NB5023_5002⟩ := nPB BK5002 hg
                  obtain ⟨NB5004_5023, NB5023_5004⟩ := nPB BK5004 hg
                  obtain ⟨NB5006_5023, NB5023_5006⟩ := nPB BK5006 hg
                  obtain ⟨NB5010_5023, NB5023_5010⟩ := nPB BK5010 hg
                  replace BK5000 := kBB BK5000 hb
                  replace BK5002 := kBB BK5002 hb
                  replace BK5004 := kBB BK5004 hb
                  replace BK5006 := kBB BK5006 hb
                  replace BK5010 := kBB BK5010 hb
                  replace HB := bS HB hb
                  clear hb hbox hg
                  refine hK.out _ _ ⟨bc BK5000 0, bc BK5000 1, bc BK5000 2, bc BK5002 0, bc BK5002 1, bc BK5004 0, bc BK5004 1, bc BK5004 2, bc BK5006 0, bc BK5006 1⟩ (fun hHeld => ?_)
                  clear hK K
                  refine nm (some 11) ?_
                  exact nrm (hJ1_3_12 (gb5023) _ ⟨hHeld, (qB BK5000), (qB BK5002), (qB BK5004), (qB BK5006), (qB BK5010), (qB BK5023), GW5023.out, GE5023.out, NB5000_5023.out, NB5023_5000.out, NB5002_5023.out, NB5023_5002.out, NB5004_5023.out, NB5023_5004.out, NB5006_5023.out, NB5023_5006.out, NB5010_5023.out, NB5023_5010.out, (qL HB)⟩)
                skip
                rintro gb5023 w5026 ⟨hS_, h0_, h1_, h2_, h3_, h4_, h5_, h6_, h7_, h8_, h9_, h10_, h11_, h12_, h13_, h14_, h15_, h16_, h17_, h18_⟩
                have BK5023 := az h5_
                have GW5023 := az h6_
                have GE5023 := az h7_
                have NB5000_5023 := az h8_
                have NB5023_5000 := az h9_
                have NB5002_5023 := az h10_
                have NB5023_5002 := az h11_
                have NB5004_5023 := az h12_
                have NB5023_5004 := az h13_
                have NB5006_5023 := az h14_
                have NB5023_5006 := az h15_
                have NB5010_5023 := az h16_
                have NB5023_5010 := az h17_
                replace BK5000 := az h0_
                replace BK5002 := az h1_
                replace BK5004 := az h2_
                replace BK5006 := az h3_
                replace BK5010 := az h4_
                replace HB := az h18_
                clear h0_ h1_ h2_ h3_ h4_ h5_ h6_ h7_ h8_ h9_ h10_ h11_ h12_ h13_ h14_ h15_ h16_ h17_ h18_
                have hHeld := hS_
                refine nmp ?_
                refine on 5 (some 31) (fl 15 4223) HT_ (fun K hK => ?_)
                refine go1 Try.func34 #[.agg #[.int .i64 a2_0, .int .i64 a2_1, .int .i64 a2_2]] ?_
                with_reducible refine (laws_toShape.calls a2_0 a2_1 a2_2 t1132 t1133 t1134 _ A12.out).mono ?_
                rintro e w5027 ⟨rfl, hb⟩
                refine ⟨_, rfl, ?_⟩
                replace BK5000 := kBB BK5000 hb
                replace BK5002 := kBB BK5002 hb
                replace BK5004 := kBB BK5004 hb
                replace BK5006 := kBB BK5006 hb
                replace BK5010 := kBB BK5010 hb
                replace BK5023 := kBB BK5023 hb
                replace HB := bS HB hb
                clear hb
                refine hK.out _ _ ⟨bc BK5000 0, bc BK5000 1, bc BK5000 2, bc BK5002 0, bc BK5002 1, bc BK5004 0, bc BK5004 1, bc BK5004 2, bc BK5006 0, bc BK5006 1⟩ (fun hHeld => ?_)
                clear hK K
                refine nm (some 31) ?_
                exact nrm (hJ1_3_5_12 (gb5023) _ ⟨hHeld, (qB BK5000), (qB BK5002), (qB BK5004), (qB BK5006), (qB BK5010), (qB BK5023), GW5023.out, GE5023.out, NB5000_5023.out, NB5023_5000.out, NB5002_5023.out, NB5023_5002.out, NB5004_5023.out, NB5023_5004.out, NB5006_5023.out, NB5023_5006.out, NB5010_5023.out, NB5023_5010.out, (qL HB)⟩)
              skip
              rintro _ w5026 ⟨hS_, h0_, h1_, h2_, h3_, h4_, h5_⟩
              replace BK5000 := az h0_
              replace BK5002 := az h1_
              replace BK5004 := az h2_
              replace BK5006 := az h3_
              replace BK5010 := az h4_
              replace HB := az h5_
              clear h0_ h1_ h2_ h3_ h4_ h5_
              have hHeld := hS_
              refine nmp ?_
              refine two_ (i := 7) (j := 12) (Ni := some 33) (Nj := some 11) (fl 15 255) (fl 15 4223) rfl rfl rfl rfl (two_of HT_.out (by kernel_rfl)) (by decide) (by decide) (fun K hK => ?_) (fun K hK => ?_)
              · skip
                refine go1 Try.func20 #[.agg #[.int .i64 a3_0, .int .i64 a3_1]] ?_
                with_reducible refine (laws_toVec.calls a3_0 a3_1 t1135 t1136 _ A13.out).mono ?_
                rintro e w5027 ⟨rfl, hb⟩
                refine ⟨_, rfl, ?_⟩
                replace BK5000 := kBB BK5000 hb
                replace BK5002 := kBB BK5002 hb
                replace BK5004 := kBB BK5004 hb
                replace BK5006 := kBB BK5006 hb
                replace BK5010 := kBB BK5010 hb
                replace HB := bS HB hb
                clear hb
                refine hK.out _ _ ⟨bc BK5000 0, bc BK5000 1, bc BK5000 2, bc BK5002 0, bc BK5002 1, bc BK5004 0, bc BK5004 1, bc BK5004 2, bc BK5006 0, bc BK5006 1⟩ (fun hHeld => ?_)
                clear hK K
                refine nm (some 33) ?_
                exact nrm (hJ1_3_5_7 () _ ⟨hHeld, (qB BK5000), (qB BK5002), (qB BK5004), (qB BK5006), (qB BK5010), (qL HB)⟩)
              skip
              refine box_step ?hg (N := 11) ?hd (cs := #[.int .i64 0, .int .i64 0, .int .i64 0]) (t := 56) ?hr ?_; (case hd => rfl); (case hg => rfl); (case hr => first | (go_simp; done) | (go_simp; rfl))
              intro gb5023 hg w5027 hbox hb
              have BK5023 := az hbox
              have GW5023 := az ((gE hg (qL HB) : w.heap.size ≤ gb5023))
              have GE5023 := GW5023
              obtain ⟨NB5000_5023, NB5023_5000⟩ := nPB BK5000 hg
              obtain ⟨NB5002_5023, NB5023_5002⟩ := nPB BK5002 hg
              obtain ⟨NB5004_5023, NB5023_5004⟩ := nPB BK5004 hg
              obtain ⟨NB5006_5023, NB5023_5006⟩ := nPB BK5006 hg
              obtain ⟨NB5010_5023, NB5023_5010⟩ := nPB BK5010 hg
              replace BK5000 := kBB BK5000 hb
              replace BK5002 := kBB BK5002 hb
              replace BK5004 := kBB BK5004 hb
              replace BK5006 := kBB BK5006 hb
              replace BK5010 := kBB BK5010 hb
              replace HB := bS HB hb
              clear hb hbox hg
              refine hK.out _ _ ⟨bc BK5000 0, bc BK5000 1, bc BK5000 2, bc BK5002 0, bc BK5002 1, bc BK5004 0, bc BK5004 1, bc BK5004 2, bc BK5006 0, bc BK5006 1⟩ (fun hHeld => ?_)
              clear hK K
              refine nm (some 11) ?_
              exact nrm (hJ1_3_5_12 (gb5023) _ ⟨hHeld, (qB BK5000), (qB BK5002), (qB BK5004), (qB BK5006), (qB BK5010), (qB BK5023), GW5023.out, GE5023.out, NB5000_5023.out, NB5023_5000.out, NB5002_5023.out, NB5023_5002.out, NB5004_5023.out, NB5023_5004.out, NB5006_5023.out, NB5023_5006.out, NB5010_5023.out, NB5023_5010.out, (qL HB)⟩)
            skip
            rintro gb5023 w5027 ⟨hS_, h0_, h1_, h2_, h3_, h4_, h5_, h6_, h7_, h8_, h9_, h10_, h11_, h12_, h13_, h14_, h15_, h16_, h17_, h18_⟩
            have BK5023 := az h5_
            have GW5023 := az h6_
            have GE5023 := az h7_
            have NB5000_5023 := az h8_
            have NB5023_5000 := az h9_
            have NB5002_5023 := az h10_
            have NB5023_5002 := az h11_
            have NB5004_5023 := az h12_
            have NB5023_5004 := az h13_
            have NB5006_5023 := az h14_
            have NB5023_5006 := az h15_
            have NB5010_5023 := az h16_
            have NB5023_5010 := az h17_
            replace BK5000 := az h0_
            replace BK5002 := az h1_
            replace BK5004 := az h2_
            replace BK5006 := az h3_
            replace BK5010 := az h4_
            replace HB := az h18_
            clear h0_ h1_ h2_ h3_ h4_ h5_ h6_ h7_ h8_ h9_ h10_ h11_ h12_ h13_ h14_ h15_ h16_ h17_ h18_
            have hHeld := hS_
            refine nmp ?_
            refine on 7 (some 33) (fl 15 4351) HT_ (fun K hK => ?_)
            refine go1 Try.func20 #[.agg #[.int .i64 a3_0, .int .i64 a3_1]] ?_
            with_reducible refine (laws_toVec.calls a3_0 a3_1 t1135 t1136 _ A13.out).mono ?_
            rintro e w5028 ⟨rfl, hb⟩
            refine ⟨_, rfl, ?_⟩
            replace BK5000 := kBB BK5000 hb
            replace BK5002 := kBB BK5002 hb
            replace BK5004 := kBB BK5004 hb
            replace BK5006 := kBB BK5006 hb
            replace BK5010 := kBB BK5010 hb
            replace BK5023 := kBB BK5023 hb
            replace HB := bS HB hb
            clear hb
            refine hK.out _ _ ⟨bc BK5000 0, bc BK5000 1, bc BK5000 2, bc BK5002 0, bc BK5002 1, bc BK5004 0, bc BK5004 1, bc BK5004 2, bc BK5006 0, bc BK5006 1⟩ (fun hHeld => ?_)
            clear hK K
            refine nm (some 33) ?_
            exact nrm (hJ1_3_5_7_12 (gb5023) _ ⟨hHeld, (qB BK5000), (qB BK5002), (qB BK5004), (qB BK5006), (qB BK5010), (qB BK5023), GW5023.out, GE5023.out, NB5000_5023.out, NB5023_5000.out, NB5002_5023.out, NB5023_5002.out, NB5004_5023.out, NB5023_5004.out, NB5006_5023.out, NB5023_5006.out, NB5010_5023.out, NB5023_5010.out, (qL HB)⟩)
          skip
          rintro _ w5027 ⟨hS_, h0_, h1_, h2_, h3_, h4_, h5_⟩
          replace BK5000 := az h0_
          replace BK5002 := az h1_
          replace BK5004 := az h2_
          replace BK5006 := az h3_
          replace BK5010 := az h4_
          replace HB := az h5_
          clear h0_ h1_ h2_ h3_ h4_ h5_
          have hHeld := hS_
          refine nmp ?_
          refine two_ (i := 8) (j := 12) (Ni := some 34) (Nj := some 11) (fl 15 511) (fl 15 4351) rfl rfl rfl rfl (two_of HT_.out (by kernel_rfl)) (by decide) (by decide) (fun K hK => ?_) (fun K hK => ?_)
          · skip
            refine go1 Try.func35 #[.agg #[.int .i64 t1127, .int .i64 t1128, .int .i64 t1129], .agg #[.int .i64 t1130, .int .i64 t1131], .agg #[.int .i64 t1132, .int .i64 t1133, .int .i64 t1134], .agg #[.int .i64 t1135, .int .i64 t1136]] ?_
            with_reducible refine (impl_Touch.calls k t1127 t1128 t1129 t1130 t1131 t1132 t1133 t1134 t1135 t1136 t1137 t1138 t1139 t1140 _ A14.out).mono ?_
            rintro e w5028 ⟨rfl, hb⟩
            refine ⟨_, rfl, ?_⟩
            replace BK5000 := kBB BK5000 hb
            replace BK5002 := kBB BK5002 hb
            replace BK5004 := kBB BK5004 hb
            replace BK5006 := kBB BK5006 hb
            replace BK5010 := kBB BK5010 hb
            replace HB := bS HB hb
            clear hb
            refine hK.out _ _ ⟨bc BK5000 0, bc BK5000 1, bc BK5000 2, bc BK5002 0, bc BK5002 1, bc BK5004 0, bc BK5004 1, bc BK5004 2, bc BK5006 0, bc BK5006 1⟩ (fun hHeld => ?_)
            clear hK K
            refine nm (some 34) ?_
            refine pu 9 (some 25) (fl 15 1023) HT_ ?_
            refine pu 10 (some 35) (fl 15 2047) HT_ ?_
            refine pu 11 (some 36) (fl 15 4095) HT_ ?_
            exact nrm (hJ1_3_5_7_8 () _ ⟨hHeld, (qB BK5000), (qB BK5002), (qB BK5004), (qB BK5006), (qB BK5010), (qL HB)⟩)
          skip
          refine box_step ?hg (N := 11) ?hd (cs := #[.int .i64 0, .int .i64 0, .int .i64 0]) (t := 56) ?hr ?_; (case hd => rfl); (case hg => rfl); (case hr => first | (go_simp; done) | (go_simp; rfl))
          intro gb5023 hg w5028 hbox hb
          have BK5023 := az hbox
          have GW5023 := az ((gE hg (qL HB) : w.heap.size ≤ gb5023))
          have GE5023 := GW5023
          obtain ⟨NB5000_5023, NB5023_5000⟩ := nPB BK5000 hg
          obtain ⟨NB5002_5023, NB5023_5002⟩ := nPB BK5002 hg
          obtain ⟨NB5004_5023, NB5023_5004⟩ := nPB BK5004 hg
          obtain ⟨NB5006_5023, NB5023_5006⟩ := nPB BK5006 hg
          obtain ⟨NB5010_5023, NB5023_5010⟩ := nPB BK5010 hg
          replace BK5000 := kBB BK5000 hb
          replace BK5002 := kBB BK5002 hb
          replace BK5004 := kBB BK5004 hb
          replace BK5006 := kBB BK5006 hb
          replace BK5010 := kBB BK5010 hb
          replace HB := bS HB hb
          clear hb hbox hg
          refine hK.out _ _ ⟨bc BK5000 0, bc BK5000 1, bc BK5000 2, bc BK5002 0, bc BK5002 1, bc BK5004 0, bc BK5004 1, bc BK5004 2, bc BK5006 0, bc BK5006 1⟩ (fun hHeld => ?_)
          clear hK K
          refine nm (some 11) ?_
          exact nrm (hJ1_3_5_7_12 (gb5023) _ ⟨hHeld, (qB BK5000), (qB BK5002), (qB BK5004), (qB BK5006), (qB BK5010), (qB BK5023), GW5023.out, GE5023.out, NB5000_5023.out, NB5023_5000.out, NB5002_5023.out, NB5023_5002.out, NB5004_5023.out, NB5023_5004.out, NB5006_5023.out, NB5023_5006.out, NB5010_5023.out, NB5023_5010.out, (qL HB)⟩)
        skip
        rintro gb5023 w5028 ⟨hS_, h0_, h1_, h2_, h3_, h4_, h5_, h6_, h7_, h8_, h9_, h10_, h11_, h12_, h13_, h14_, h15_, h16_, h17_, h18_⟩
        have BK5023 := az h5_
        have GW5023 := az h6_
        have GE5023 := az h7_
        have NB5000_5023 := az h8_
        have NB5023_5000 := az h9_
        have NB5002_5023 := az h10_
        have NB5023_5002 := az h11_
        have NB5004_5023 := az h12_
        have NB5023_5004 := az h13_
        have NB5006_5023 := az h14_
        have NB5023_5006 := az h15_
        have NB5010_5023 := az h16_
        have NB5023_5010 := az h17_
        replace BK5000 := az h0_
        replace BK5002 := az h1_
        replace BK5004 := az h2_
        replace BK5006 := az h3_
        replace BK5010 := az h4_
        replace HB := az h18_
        clear h0_ h1_ h2_ h3_ h4_ h5_ h6_ h7_ h8_ h9_ h10_ h11_ h12_ h13_ h14_ h15_ h16_ h17_ h18_
        have hHeld := hS_
        refine nmp ?_
        refine on 8 (some 34) (fl 15 4607) HT_ (fun K hK => ?_)
        refine go1 Try.func35 #[.agg #[.int .i64 t1127, .int .i64 t1128, .int .i64 t1129], .agg #[.int .i64 t1130, .int .i64 t1131], .agg #[.int .i64 t1132, .int .i64 t1133, .int .i64 t1134], .agg #[.int .i64 t1135, .int .i64 t1136]] ?_
        with_reducible refine (impl_Touch.calls k t1127 t1128 t1129 t1130 t1131 t1132 t1133 t1134 t1135 t1136 t1137 t1138 t1139 t1140 _ A14.out).mono ?_
        rintro e w5029 ⟨rfl, hb⟩
        refine ⟨_, rfl, ?_⟩
        replace BK5000 := kBB BK5000 hb
        replace BK5002 := kBB BK5002 hb
        replace BK5004 := kBB BK5004 hb
        replace BK5006 := kBB BK5006 hb
        replace BK5010 := kBB BK5010 hb
        replace BK5023 := kBB BK5023 hb
        replace HB := bS HB hb
        clear hb
        refine hK.out _ _ ⟨bc BK5000 0, bc BK5000 1, bc BK5000 2, bc BK5002 0, bc BK5002 1, bc BK5004 0, bc BK5004 1, bc BK5004 2, bc BK5006 0, bc BK5006 1⟩ (fun hHeld => ?_)
        clear hK K
        refine nm (some 34) ?_
        refine pu 9 (some 25) (fl 15 5119) HT_ ?_
        refine pu 10 (some 35) (fl 15 6143) HT_ ?_
        refine pu 11 (some 36) (fl 15 8191) HT_ ?_
        exact nrm (hJ1_3_5_7_8_12 (gb5023) _ ⟨hHeld, (qB BK5000), (qB BK5002), (qB BK5004), (qB BK5006), (qB BK5010), (qB BK5023), GW5023.out, GE5023.out, NB5000_5023.out, NB5023_5000.out, NB5002_5023.out, NB5023_5002.out, NB5004_5023.out, NB5023_5004.out, NB5006_5023.out, NB5023_5006.out, NB5010_5023.out, NB5023_5010.out, (qL HB)⟩)
      skip
      rintro _ w5028 ⟨hS_, h0_, h1_, h2_, h3_, h4_, h5_⟩
      replace BK5000 := az h0_
      replace BK5002 := az h1_
      replace BK5004 := az h2_
      replace BK5006 := az h3_
      replace BK5010 := az h4_
      replace HB := az h5_
      clear h0_ h1_ h2_ h3_ h4_ h5_
      have hHeld := hS_
      refine nmp ?_
      refine on 12 (some 11) (fl 15 8191) HT_ (fun K hK => ?_)
      refine box_step ?hg (N := 11) ?hd (cs := #[.int .i64 0, .int .i64 0, .int .i64 0]) (t := 56) ?hr ?_; (case hd => rfl); (case hg => rfl); (case hr => first | (go_simp; done) | (go_simp; rfl))
      intro gb5023 hg w5029 hbox hb
      have BK5023 := az hbox
      have GW5023 := az ((gE hg (qL HB) : w.heap.size ≤ gb5023))
      have GE5023 := GW5023
      obtain ⟨NB5000_5023, NB5023_5000⟩ := nPB BK5000 hg
      obtain ⟨NB5002_5023, NB5023_5002⟩ := nPB BK5002 hg
      obtain ⟨NB5004_5023, NB5023_5004⟩ := nPB BK5004 hg
      obtain ⟨NB5006_5023, NB5023_5006⟩ := nPB BK5006 hg
      obtain ⟨NB5010_5023, NB5023_5010⟩ := nPB BK5010 hg
      replace BK5000 := kBB BK5000 hb
      replace BK5002 := kBB BK5002 hb
      replace BK5004 := kBB BK5004 hb
      replace BK5006 := kBB BK5006 hb
      replace BK5010 := kBB BK5010 hb
      replace HB := bS HB hb
      clear hb hbox hg
      refine hK.out _ _ ⟨bc BK5000 0, bc BK5000 1, bc BK5000 2, bc BK5002 0, bc BK5002 1, bc BK5004 0, bc BK5004 1, bc BK5004 2, bc BK5006 0, bc BK5006 1⟩ (fun hHeld => ?_)
      clear hK K
      refine nm (some 11) ?_
      exact nrm (hJ1_3_5_7_8_12 (gb5023) _ ⟨hHeld, (qB BK5000), (qB BK5002), (qB BK5004), (qB BK5006), (qB BK5010), (qB BK5023), GW5023.out, GE5023.out, NB5000_5023.out, NB5023_5000.out, NB5002_5023.out, NB5023_5002.out, NB5004_5023.out, NB5023_5004.out, NB5006_5023.out, NB5023_5006.out, NB5010_5023.out, NB5023_5010.out, (qL HB)⟩)
    rintro gb5023 w5029 ⟨hS_, h0_, h1_, h2_, h3_, h4_, h5_, h6_, h7_, h8_, h9_, h10_, h11_, h12_, h13_, h14_, h15_, h16_, h17_, h18_⟩
    have BK5023 := az h5_
    have GW5023 := az h6_
    have GE5023 := az h7_
    have NB5000_5023 := az h8_
    have NB5023_5000 := az h9_
    have NB5002_5023 := az h10_
    have NB5023_5002 := az h11_
    have NB5004_5023 := az h12_
    have NB5023_5004 := az h13_
    have NB5006_5023 := az h14_
    have NB5023_5006 := az h15_
    have NB5010_5023 := az h16_
    have NB5023_5010 := az h17_
    replace BK5000 := az h0_
    replace BK5002 := az h1_
    replace BK5004 := az h2_
    replace BK5006 := az h3_
    replace BK5010 := az h4_
    replace HB := az h18_
    clear h0_ h1_ h2_ h3_ h4_ h5_ h6_ h7_ h8_ h9_ h10_ h11_ h12_ h13_ h14_ h15_ h16_ h17_ h18_
    have hHeld := hS_
    refine nmp ?_
    refine on 13 (none) (fl 15 16383) HT_ (fun K hK => ?_)
    have hs5030 : w5029.cell? ⟨gb5023, 0, none⟩ = some (.int .i64 0) := bc BK5023 0
    have hfs5030 := blk_frozen BK5023.out 0
    have hns5030_0 := NB5000_5023.out
    have hns5030_1 := NB5002_5023.out
    have hns5030_2 := NB5004_5023.out
    have hns5030_3 := NB5006_5023.out
    have hns5030_4 := NB5010_5023.out
    have hms5030_0 := NB5023_5000.out
    have hms5030_1 := NB5023_5002.out
    have hms5030_2 := NB5023_5004.out
    have hms5030_3 := NB5023_5006.out
    have hms5030_4 := NB5023_5010.out
    have hs5031 : w5029.cell? ⟨gb5023, 1, none⟩ = some (.int .i64 0) := bc BK5023 1
    have hfs5031 := blk_frozen BK5023.out 1
    have hns5031_0 := NB5000_5023.out
    have hns5031_1 := NB5002_5023.out
    have hns5031_2 := NB5004_5023.out
    have hns5031_3 := NB5006_5023.out
    have hns5031_4 := NB5010_5023.out
    have hms5031_0 := NB5023_5000.out
    have hms5031_1 := NB5023_5002.out
    have hms5031_2 := NB5023_5004.out
    have hms5031_3 := NB5023_5006.out
    have hms5031_4 := NB5023_5010.out
    have hs5032 : w5029.cell? ⟨gb5023, 2, none⟩ = some (.int .i64 0) := bc BK5023 2
    have hfs5032 := blk_frozen BK5023.out 2
    have hns5032_0 := NB5000_5023.out
    have hns5032_1 := NB5002_5023.out
    have hns5032_2 := NB5004_5023.out
    have hns5032_3 := NB5006_5023.out
    have hns5032_4 := NB5010_5023.out
    have hms5032_0 := NB5023_5000.out
    have hms5032_1 := NB5023_5002.out
    have hms5032_2 := NB5023_5004.out
    have hms5032_3 := NB5023_5006.out
    have hms5032_4 := NB5023_5010.out
    refine skip_ (w1 := ?_) ?hw ?hn ?_ ?_; (case hw => unfold Region.wanted; rfl); (case hn => rfl)
    rotate_left
    · go_simp
      rfl
    refine hK.out _ _ ⟨(cf NB5000_5023 ((cf NB5000_5023 ((cf NB5000_5023 (hHeld.1)))))), (cf NB5000_5023 ((cf NB5000_5023 ((cf NB5000_5023 (hHeld.2.1)))))), (cf NB5000_5023 ((cf NB5000_5023 ((cf NB5000_5023 (hHeld.2.2.1)))))), (cf NB5002_5023 ((cf NB5002_5023 ((cf NB5002_5023 (hHeld.2.2.2.1)))))), (cf NB5002_5023 ((cf NB5002_5023 ((cf NB5002_5023 (hHeld.2.2.2.2.1)))))), (cf NB5004_5023 ((cf NB5004_5023 ((cf NB5004_5023 (hHeld.2.2.2.2.2.1)))))), (cf NB5004_5023 ((cf NB5004_5023 ((cf NB5004_5023 (hHeld.2.2.2.2.2.2.1)))))), (cf NB5004_5023 ((cf NB5004_5023 ((cf NB5004_5023 (hHeld.2.2.2.2.2.2.2.1)))))), (cf NB5006_5023 ((cf NB5006_5023 ((cf NB5006_5023 (hHeld.2.2.2.2.2.2.2.2.1)))))), (cf NB5006_5023 ((cf NB5006_5023 ((cf NB5006_5023 (hHeld.2.2.2.2.2.2.2.2.2))))))⟩ (fun hHeld => ?_)
    clear hK K
    refine pu 14 (some 12) (fl 15 32767) HT_ ?_
    refine done_ (done_of HT_.out (by kernel_rfl)) ?_
    have hnb5033 := NB5023_5000.out
    have hnc5033 := NB5000_5023.out
    have hnb5034 := NB5023_5002.out
    have hnc5034 := NB5002_5023.out
    have hnb5035 := NB5023_5004.out
    have hnc5035 := NB5004_5023.out
    have hnb5036 := NB5023_5006.out
    have hnc5036 := NB5006_5023.out
    have hnb5037 := NB5023_5010.out
    have hnc5037 := NB5010_5023.out
    obtain ⟨hcz5038_0, hcz5038_1, hcz5038_2⟩ := cz3 BK5023.out
    obtain ⟨hfz5038_0, hfz5038_1, hfz5038_2⟩ := fz3 BK5023.out
    have hnb5039 := NB5010_5000.out
    have hnc5039 := NB5000_5010.out
    have hnb5040 := NB5010_5002.out
    have hnc5040 := NB5002_5010.out
    have hnb5041 := NB5010_5004.out
    have hnc5041 := NB5004_5010.out
    have hnb5042 := NB5010_5006.out
    have hnc5042 := NB5006_5010.out
    obtain ⟨hcz5043_0, hcz5043_1, hcz5043_2⟩ := cz3 BK5010.out
    obtain ⟨hfz5043_0, hfz5043_1, hfz5043_2⟩ := fz3 BK5010.out
    try go_wp2_with (first | ((with_reducible refine gate_callee (f := 36) rfl ?_); refine gl (some 39) Try.func36 #[.agg #[.int .i64 t1137, .int .i64 t1138, .int .i64 t1139], .agg #[.int .i64 t1122, .int .i64 t1123, .int .i64 t1124]] ?_; (with_reducible refine (laws_eqHit.calls t1137 t1138 t1139 t1122 t1123 t1124 true _ A15.out).mono ?_); rintro e w5044 ⟨rfl, hb⟩; refine ⟨_, rfl, ?_⟩; replace BK5000 := kBF BK5000 hb; replace BK5002 := kBF BK5002 hb; replace BK5004 := kBF BK5004 hb; replace BK5006 := kBF BK5006 hb; replace BK5010 := kBF BK5010 hb; replace BK5023 := kBP (o' := .cells #[.int .i64 t1137, .int .i64 t1138, .int .i64 t1139] 56 (0, 0)) BK5023 hb; replace HB := bS HB hb; clear hb))
    go_ret
    exact ⟨qE, qL HB⟩) : P := h
set_option maxHeartbeats 8000000 in
set_option maxRecDepth 100000 in
theorem laws_FnExactTouch.calls (k : Nat) (a0_0 : Int) (a0_1 : Int) (a0_2 : Int) (a1_0 : Int) (a1_1 : Int) (a2_0 : Int) (a2_1 : Int) (a2_2 : Int) (a3_0 : Int) (a3_1 : Int) (r : Bool) (w : World) (h : laws_FnExactTouch.f k a0_0 a0_1 a0_2 a1_0 a1_1 a2_0 a2_1 a2_2 a3_0 a3_1 = some r) :
    Calls Try.prog 8 #[.agg #[.int .i64 a0_0, .int .i64 a0_1, .int .i64 a0_2], .agg #[.int .i64 a1_0, .int .i64 a1_1], .agg #[.int .i64 a2_0, .int .i64 a2_1, .int .i64 a2_2], .agg #[.int .i64 a3_0, .int .i64 a3_1]] w fun e w' => e = .returned (.bool r) ∧ Below w.heap.size w w' := by
  have hu34 := Try.underlying34
  have hu35 := Try.underlying35
  have hu56 := Try.underlying56
  have HB := az (Below.refl w.heap.size w)
  have H : ((laws_toShape.f a0_0 a0_1 a0_2).bind fun bt1112 => ((laws_toVec.f a1_0 a1_1).bind fun bt1115 => ((laws_toShape.f a2_0 a2_1 a2_2).bind fun bt1117 => ((laws_toVec.f a3_0 a3_1).bind fun bt1120 => ((spec_Touch.f k bt1112.1 bt1112.2.1 bt1112.2.2 bt1115.1 bt1115.2 bt1117.1 bt1117.2.1 bt1117.2.2 bt1120.1 bt1120.2).bind fun bt1122 => ((laws_toShape.f a0_0 a0_1 a0_2).bind fun bt1127 => ((laws_toVec.f a1_0 a1_1).bind fun bt1130 => ((laws_toShape.f a2_0 a2_1 a2_2).bind fun bt1132 => ((laws_toVec.f a3_0 a3_1).bind fun bt1135 => ((impl_Touch.f k bt1127.1 bt1127.2.1 bt1127.2.2 bt1130.1 bt1130.2 bt1132.1 bt1132.2.1 bt1132.2.2 bt1135.1 bt1135.2).bind fun bt1137 => ((laws_eqHit.f bt1137.1 bt1137.2.1 bt1137.2.2.1 bt1122.1 bt1122.2.1 bt1122.2.2.1).bind fun t1142 => (if t1142 = true then (if (bt1137.2.2.2 != bt1122.2.2.2) = true then (some false) else (some true)) else (some false))))))))))))) = some r := h
  clear h
  replace H := qH H
  obtain ⟨⟨t1112, t1113, t1114⟩, A5, H⟩ := H
  try dsimp only at H
  replace H := qH H
  obtain ⟨⟨t1115, t1116⟩, A6, H⟩ := H
  try dsimp only at H
  replace H := qH H
  obtain ⟨⟨t1117, t1118, t1119⟩, A7, H⟩ := H
  try dsimp only at H
  replace H := qH H
  obtain ⟨⟨t1120, t1121⟩, A8, H⟩ := H
  try dsimp only at H
  replace H := qH H
  obtain ⟨⟨t1122, t1123, t1124, t1125⟩, A9, H⟩ := H
  try dsimp only at H
  replace H := qH H
  obtain ⟨⟨t1127, t1128, t1129⟩, A10, H⟩ := H
  try dsimp only at H
  replace H := qH H
  obtain ⟨⟨t1130, t1131⟩, A11, H⟩ := H
  try dsimp only at H
  replace H := qH H
  obtain ⟨⟨t1132, t1133, t1134⟩, A12, H⟩ := H
  try dsimp only at H
  replace H := qH H
  obtain ⟨⟨t1135, t1136⟩, A13, H⟩ := H
  try dsimp only at H
  replace H := qH H
  obtain ⟨⟨t1137, t1138, t1139, t1140⟩, A14, H⟩ := H
  try dsimp only at H
  replace H := qH H
  obtain ⟨t1142, A15, H⟩ := H
  try dsimp only at H
  by_cases c16 : t1142 = true
  · subst c16
    replace H := qT H
    by_cases c17 : (t1140 != t1125) = true
    · rw [if_pos c17] at H
      have c17b0 : (t1140 != t1125) = true := c17
      (try (have c17b1 : decide (t1140 = t1125) = false := by simpa using c17))
      (try (have c17b2 : (t1140 == t1125) = false := by simpa using c17))
      (try (have c17b3 : ¬ (t1140 = t1125) := by simpa using c17))
      clear c17
      obtain rfl := Option.some.inj H
      exact laws_FnExactTouch.lf0
    rw [if_neg c17] at H
    have c17b0 : (t1140 != t1125) = false := by simpa using c17
    (try (have c17b1 : decide (t1140 = t1125) = true := by simpa using c17))
    (try (have c17b2 : (t1140 == t1125) = true := by simpa using c17))
    clear c17
    obtain rfl := Option.some.inj H
    exact laws_FnExactTouch.lf0
  replace c16 := Bool.eq_false_iff.mpr c16
  subst c16
  replace H := qU H
  obtain rfl := Option.some.inj H
  go_enter Try.func8, Try.ntmps8
  try go_wp2_with (first | ((with_reducible refine gate_dst (N := 4) rfl ?_); refine bx (N := 4) (cs := #[.int .i64 a0_0, .int .i64 a0_1, .int .i64 a0_2]) (t := 34) ?_; intro gb1108 hg w96 hbox hb; have BK1108 := az hbox; have GW1108 := az ((gE hg (qL HB) : w.heap.size ≤ gb1108)); have GE1108 := GW1108; replace HB := bS HB hb; clear hb hbox hg) | ((with_reducible refine gate_dst (N := 5) rfl ?_); refine bx (N := 5) (cs := #[.int .i64 a1_0, .int .i64 a1_1]) (t := 35) ?_; intro gb1109 hg w97 hbox hb; have BK1109 := az hbox; have GW1109 := az ((gE hg (qL HB) : w.heap.size ≤ gb1109)); have GE1109 := GW1109; obtain ⟨NB1108_1109, NB1109_1108⟩ := nPB BK1108 hg; replace BK1108 := kBB BK1108 hb; replace HB := bS HB hb; clear hb hbox hg) | ((with_reducible refine gate_dst (N := 6) rfl ?_); refine bx (N := 6) (cs := #[.int .i64 a2_0, .int .i64 a2_1, .int .i64 a2_2]) (t := 34) ?_; intro gb1110 hg w98 hbox hb; have BK1110 := az hbox; have GW1110 := az ((gE hg (qL HB) : w.heap.size ≤ gb1110)); have GE1110 := GW1110; obtain ⟨NB1108_1110, NB1110_1108⟩ := nPB BK1108 hg; obtain ⟨NB1109_1110, NB1110_1109⟩ := nPB BK1109 hg; replace BK1108 := kBB BK1108 hb; replace BK1109 := kBB BK1109 hb; replace HB := bS HB hb; clear hb hbox hg) | ((with_reducible refine gate_dst (N := 7) rfl ?_); refine bx (N := 7) (cs := #[.int .i64 a3_0, .int .i64 a3_1]) (t := 35) ?_; intro gb1111 hg w99 hbox hb; have BK1111 := az hbox; have GW1111 := az ((gE hg (qL HB) : w.heap.size ≤ gb1111)); have GE1111 := GW1111; obtain ⟨NB1108_1111, NB1111_1108⟩ := nPB BK1108 hg; obtain ⟨NB1109_1111, NB1111_1109⟩ := nPB BK1109 hg; obtain ⟨NB1110_1111, NB1111_1110⟩ := nPB BK1110 hg; replace BK1108 := kBB BK1108 hb; replace BK1109 := kBB BK1109 hb; replace BK1110 := kBB BK1110 hb; replace HB := bS HB hb; clear hb hbox hg))
  replace BK1108 := az (blk_drew BK1108.out)
  replace BK1109 := az (blk_drew BK1109.out)
  replace BK1110 := az (blk_drew BK1110.out)
  replace BK1111 := az (blk_drew BK1111.out)
  replace HB := az (below_drew1 HB.out)
  refine start_ (n := 15) (S := fun w' => w'.cell? ⟨gb1108, 0, none⟩ = some (.int .i64 a0_0) ∧ w'.cell? ⟨gb1108, 1, none⟩ = some (.int .i64 a0_1) ∧ w'.cell? ⟨gb1108, 2, none⟩ = some (.int .i64 a0_2) ∧ w'.cell? ⟨gb1109, 0, none⟩ = some (.int .i64 a1_0) ∧ w'.cell? ⟨gb1109, 1, none⟩ = some (.int .i64 a1_1) ∧ w'.cell? ⟨gb1110, 0, none⟩ = some (.int .i64 a2_0) ∧ w'.cell? ⟨gb1110, 1, none⟩ = some (.int .i64 a2_1) ∧ w'.cell? ⟨gb1110, 2, none⟩ = some (.int .i64 a2_2) ∧ w'.cell? ⟨gb1111, 0, none⟩ = some (.int .i64 a3_0) ∧ w'.cell? ⟨gb1111, 1, none⟩ = some (.int .i64 a3_1)) (ds := []) #[false, false, false, false, false, false, false, false, false, false, false, false, false, false, false] (by kernel_rfl) rfl rfl ⟨bc BK1108 0, bc BK1108 1, bc BK1108 2, bc BK1109 0, bc BK1109 1, bc BK1110 0, bc BK1110 1, bc BK1110 2, bc BK1111 0, bc BK1111 1⟩ (fun hHeld => ?_); refine with_tabW laws_FnExactTouch.tab1 laws_FnExactTouch.bits1 (fun HT_ HW_ => ?_)
  generalize w99.drew = w100 at BK1108 BK1109 BK1110 BK1111 HB hHeld ⊢
  refine tk10 0 (some 14) (fl 15 1) HT_ HW_ hHeld ?_
  refine tk10 2 (some 16) (fl 15 5) HT_ HW_ hHeld ?_
  refine tk10 4 (some 18) (fl 15 21) HT_ HW_ hHeld ?_
  refine tk10 6 (some 20) (fl 15 85) HT_ HW_ hHeld ?_
  refine join_ (σ := Nat) 2 (fl 15 8191) (fun s_ => [(15, .agg #[.int .i64 t1112, .int .i64 t1113, .int .i64 t1114]), (17, .agg #[.int .i64 t1115, .int .i64 t1116]), (19, .agg #[.int .i64 t1117, .int .i64 t1118, .int .i64 t1119]), (21, .agg #[.int .i64 t1120, .int .i64 t1121]), (22, .tuple #[.agg #[.int .i64 t1122, .int .i64 t1123, .int .i64 t1124], .bool t1125]), (9, .pointer (some ⟨s_, 0, none⟩)), (13, .tuple #[.agg #[.int .i64 t1122, .int .i64 t1123, .int .i64 t1124], .bool t1125]), (23, .agg #[.int .i64 t1122, .int .i64 t1123, .int .i64 t1124]), (24, .bool t1125)]) (fun s_ w' => (w'.cell? ⟨gb1108, 0, none⟩ = some (.int .i64 a0_0) ∧ w'.cell? ⟨gb1108, 1, none⟩ = some (.int .i64 a0_1) ∧ w'.cell? ⟨gb1108, 2, none⟩ = some (.int .i64 a0_2) ∧ w'.cell? ⟨gb1109, 0, none⟩ = some (.int .i64 a1_0) ∧ w'.cell? ⟨gb1109, 1, none⟩ = some (.int .i64 a1_1) ∧ w'.cell? ⟨gb1110, 0, none⟩ = some (.int .i64 a2_0) ∧ w'.cell? ⟨gb1110, 1, none⟩ = some (.int .i64 a2_1) ∧ w'.cell? ⟨gb1110, 2, none⟩ = some (.int .i64 a2_2) ∧ w'.cell? ⟨gb1111, 0, none⟩ = some (.int .i64 a3_0) ∧ w'.cell? ⟨gb1111, 1, none⟩ = some (.int .i64 a3_1)) ∧ (w'.heap[gb1108]? = some (.cells #[.int .i64 a0_0, .int .i64 a0_1, .int .i64 a0_2] 34 (0, 0))) ∧ (w'.heap[gb1109]? = some (.cells #[.int .i64 a1_0, .int .i64 a1_1] 35 (0, 0))) ∧ (w'.heap[gb1110]? = some (.cells #[.int .i64 a2_0, .int .i64 a2_1, .int .i64 a2_2] 34 (0, 0))) ∧ (w'.heap[gb1111]? = some (.cells #[.int .i64 a3_0, .int .i64 a3_1] 35 (0, 0))) ∧ (w'.heap[s_]? = some (.cells #[.int .i64 0, .int .i64 0, .int .i64 0] 56 (0, 0))) ∧ (w.heap.size ≤ s_) ∧ (w.heap.size ≤ s_) ∧ (gb1108 ≠ s_) ∧ (s_ ≠ gb1108) ∧ (gb1109 ≠ s_) ∧ (s_ ≠ gb1109) ∧ (gb1110 ≠ s_) ∧ (s_ ≠ gb1110) ∧ (gb1111 ≠ s_) ∧ (s_ ≠ gb1111) ∧ (Below w.heap.size w w')) ?_ ?_
  rotate_left
  · intro hJ1_3_5_7_8_12
    refine join_ (σ := Unit) 3 (fl 15 4095) (fun s_ => [(15, .agg #[.int .i64 t1112, .int .i64 t1113, .int .i64 t1114]), (17, .agg #[.int .i64 t1115, .int .i64 t1116]), (19, .agg #[.int .i64 t1117, .int .i64 t1118, .int .i64 t1119]), (21, .agg #[.int .i64 t1120, .int .i64 t1121]), (22, .tuple #[.agg #[.int .i64 t1122, .int .i64 t1123, .int .i64 t1124], .bool t1125]), (13, .tuple #[.agg #[.int .i64 t1122, .int .i64 t1123, .int .i64 t1124], .bool t1125]), (23, .agg #[.int .i64 t1122, .int .i64 t1123, .int .i64 t1124]), (24, .bool t1125)]) (fun s_ w' => (w'.cell? ⟨gb1108, 0, none⟩ = some (.int .i64 a0_0) ∧ w'.cell? ⟨gb1108, 1, none⟩ = some (.int .i64 a0_1) ∧ w'.cell? ⟨gb1108, 2, none⟩ = some (.int .i64 a0_2) ∧ w'.cell? ⟨gb1109, 0, none⟩ = some (.int .i64 a1_0) ∧ w'.cell? ⟨gb1109, 1, none⟩ = some (.int .i64 a1_1) ∧ w'.cell? ⟨gb1110, 0, none⟩ = some (.int .i64 a2_0) ∧ w'.cell? ⟨gb1110, 1, none⟩ = some (.int .i64 a2_1) ∧ w'.cell? ⟨gb1110, 2, none⟩ = some (.int .i64 a2_2) ∧ w'.cell? ⟨gb1111, 0, none⟩ = some (.int .i64 a3_0) ∧ w'.cell? ⟨gb1111, 1, none⟩ = some (.int .i64 a3_1)) ∧ (w'.heap[gb1108]? = some (.cells #[.int .i64 a0_0, .int .i64 a0_1, .int .i64 a0_2] 34 (0, 0))) ∧ (w'.heap[gb1109]? = some (.cells #[.int .i64 a1_0, .int .i64 a1_1] 35 (0, 0))) ∧ (w'.heap[gb1110]? = some (.cells #[.int .i64 a2_0, .int .i64 a2_1, .int .i64 a2_2] 34 (0, 0))) ∧ (w'.heap[gb1111]? = some (.cells #[.int .i64 a3_0, .int .i64 a3_1] 35 (0, 0))) ∧ (Below w.heap.size w w')) ?_ ?_
    rotate_left
    · intro hJ1_3_5_7_8
      refine join_ (σ := Nat) 6 (fl 15 4351) (fun s_ => [(15, .agg #[.int .i64 t1112, .int .i64 t1113, .int .i64 t1114]), (17, .agg #[.int .i64 t1115, .int .i64 t1116]), (19, .agg #[.int .i64 t1117, .int .i64 t1118, .int .i64 t1119]), (21, .agg #[.int .i64 t1120, .int .i64 t1121]), (9, .pointer (some ⟨s_, 0, none⟩))]) (fun s_ w' => (w'.cell? ⟨gb1108, 0, none⟩ = some (.int .i64 a0_0) ∧ w'.cell? ⟨gb1108, 1, none⟩ = some (.int .i64 a0_1) ∧ w'.cell? ⟨gb1108, 2, none⟩ = some (.int .i64 a0_2) ∧ w'.cell? ⟨gb1109, 0, none⟩ = some (.int .i64 a1_0) ∧ w'.cell? ⟨gb1109, 1, none⟩ = some (.int .i64 a1_1) ∧ w'.cell? ⟨gb1110, 0, none⟩ = some (.int .i64 a2_0) ∧ w'.cell? ⟨gb1110, 1, none⟩ = some (.int .i64 a2_1) ∧ w'.cell? ⟨gb1110, 2, none⟩ = some (.int .i64 a2_2) ∧ w'.cell? ⟨gb1111, 0, none⟩ = some (.int .i64 a3_0) ∧ w'.cell? ⟨gb1111, 1, none⟩ = some (.int .i64 a3_1)) ∧ (w'.heap[gb1108]? = some (.cells #[.int .i64 a0_0, .int .i64 a0_1, .int .i64 a0_2] 34 (0, 0))) ∧ (w'.heap[gb1109]? = some (.cells #[.int .i64 a1_0, .int .i64 a1_1] 35 (0, 0))) ∧ (w'.heap[gb1110]? = some (.cells #[.int .i64 a2_0, .int .i64 a2_1, .int .i64 a2_2] 34 (0, 0))) ∧ (w'.heap[gb1111]? = some (.cells #[.int .i64 a3_0, .int .i64 a3_1] 35 (0, 0))) ∧ (w'.heap[s_]? = some (.cells #[.int .i64 0, .int .i64 0, .int .i64 0] 56 (0, 0))) ∧ (w.heap.size ≤ s_) ∧ (w.heap.size ≤ s_) ∧ (gb1108 ≠ s_) ∧ (s_ ≠ gb1108) ∧ (gb1109 ≠ s_) ∧ (s_ ≠ gb1109) ∧ (gb1110 ≠ s_) ∧ (s_ ≠ gb1110) ∧ (gb1111 ≠ s_) ∧ (s_ ≠ gb1111) ∧ (Below w.heap.size w w')) ?_ ?_
      rotate_left
      · intro hJ1_3_5_7_12
        refine join_ (σ := Unit) 7 (fl 15 255) (fun s_ => [(15, .agg #[.int .i64 t1112, .int .i64 t1113, .int .i64 t1114]), (17, .agg #[.int .i64 t1115, .int .i64 t1116]), (19, .agg #[.int .i64 t1117, .int .i64 t1118, .int .i64 t1119]), (21, .agg #[.int .i64 t1120, .int .i64 t1121])]) (fun s_ w' => (w'.cell? ⟨gb1108, 0, none⟩ = some (.int .i64 a0_0) ∧ w'.cell? ⟨gb1108, 1, none⟩ = some (.int .i64 a0_1) ∧ w'.cell? ⟨gb1108, 2, none⟩ = some (.int .i64 a0_2) ∧ w'.cell? ⟨gb1109, 0, none⟩ = some (.int .i64 a1_0) ∧ w'.cell? ⟨gb1109, 1, none⟩ = some (.int .i64 a1_1) ∧ w'.cell? ⟨gb1110, 0, none⟩ = some (.int .i64 a2_0) ∧ w'.cell? ⟨gb1110, 1, none⟩ = some (.int .i64 a2_1) ∧ w'.cell? ⟨gb1110, 2, none⟩ = some (.int .i64 a2_2) ∧ w'.cell? ⟨gb1111, 0, none⟩ = some (.int .i64 a3_0) ∧ w'.cell? ⟨gb1111, 1, none⟩ = some (.int .i64 a3_1)) ∧ (w'.heap[gb1108]? = some (.cells #[.int .i64 a0_0, .int .i64 a0_1, .int .i64 a0_2] 34 (0, 0))) ∧ (w'.heap[gb1109]? = some (.cells #[.int .i64 a1_0, .int .i64 a1_1] 35 (0, 0))) ∧ (w'.heap[gb1110]? = some (.cells #[.int .i64 a2_0, .int .i64 a2_1, .int .i64 a2_2] 34 (0, 0))) ∧ (w'.heap[gb1111]? = some (.cells #[.int .i64 a3_0, .int .i64 a3_1] 35 (0, 0))) ∧ (Below w.heap.size w w')) ?_ ?_
        rotate_left
        · intro hJ1_3_5_7
          refine join_ (σ := Nat) 7 (fl 15 4223) (fun s_ => [(15, .agg #[.int .i64 t1112, .int .i64 t1113, .int .i64 t1114]), (17, .agg #[.int .i64 t1115, .int .i64 t1116]), (19, .agg #[.int .i64 t1117, .int .i64 t1118, .int .i64 t1119]), (9, .pointer (some ⟨s_, 0, none⟩))]) (fun s_ w' => (w'.cell? ⟨gb1108, 0, none⟩ = some (.int .i64 a0_0) ∧ w'.cell? ⟨gb1108, 1, none⟩ = some (.int .i64 a0_1) ∧ w'.cell? ⟨gb1108, 2, none⟩ = some (.int .i64 a0_2) ∧ w'.cell? ⟨gb1109, 0, none⟩ = some (.int .i64 a1_0) ∧ w'.cell? ⟨gb1109, 1, none⟩ = some (.int .i64 a1_1) ∧ w'.cell? ⟨gb1110, 0, none⟩ = some (.int .i64 a2_0) ∧ w'.cell? ⟨gb1110, 1, none⟩ = some (.int .i64 a2_1) ∧ w'.cell? ⟨gb1110, 2, none⟩ = some (.int .i64 a2_2) ∧ w'.cell? ⟨gb1111, 0, none⟩ = some (.int .i64 a3_0) ∧ w'.cell? ⟨gb1111, 1, none⟩ = some (.int .i64 a3_1)) ∧ (w'.heap[gb1108]? = some (.cells #[.int .i64 a0_0, .int .i64 a0_1, .int .i64 a0_2] 34 (0, 0))) ∧ (w'.heap[gb1109]? = some (.cells #[.int .i64 a1_0, .int .i64 a1_1] 35 (0, 0))) ∧ (w'.heap[gb1110]? = some (.cells #[.int .i64 a2_0, .int .i64 a2_1, .int .i64 a2_2] 34 (0, 0))) ∧ (w'.heap[gb1111]? = some (.cells #[.int .i64 a3_0, .int .i64 a3_1] 35 (0, 0))) ∧ (w'.heap[s_]? = some (.cells #[.int .i64 0, .int .i64 0, .int .i64 0] 56 (0, 0))) ∧ (w.heap.size ≤ s_) ∧ (w.heap.size ≤ s_) ∧ (gb1108 ≠ s_) ∧ (s_ ≠ gb1108) ∧ (gb1109 ≠ s_) ∧ (s_ ≠ gb1109) ∧ (gb1110 ≠ s_) ∧ (s_ ≠ gb1110) ∧ (gb1111 ≠ s_) ∧ (s_ ≠ gb1111) ∧ (Below w.heap.size w w')) ?_ ?_
          rotate_left
          · intro hJ1_3_5_12
            refine join_ (σ := Unit) 8 (fl 15 127) (fun s_ => [(15, .agg #[.int .i64 t1112, .int .i64 t1113, .int .i64 t1114]), (17, .agg #[.int .i64 t1115, .int .i64 t1116]), (19, .agg #[.int .i64 t1117, .int .i64 t1118, .int .i64 t1119])]) (fun s_ w' => (w'.cell? ⟨gb1108, 0, none⟩ = some (.int .i64 a0_0) ∧ w'.cell? ⟨gb1108, 1, none⟩ = some (.int .i64 a0_1) ∧ w'.cell? ⟨gb1108, 2, none⟩ = some (.int .i64 a0_2) ∧ w'.cell? ⟨gb1109, 0, none⟩ = some (.int .i64 a1_0) ∧ w'.cell? ⟨gb1109, 1, none⟩ = some (.int .i64 a1_1) ∧ w'.cell? ⟨gb1110, 0, none⟩ = some (.int .i64 a2_0) ∧ w'.cell? ⟨gb1110, 1, none⟩ = some (.int .i64 a2_1) ∧ w'.cell? ⟨gb1110, 2, none⟩ = some (.int .i64 a2_2) ∧ w'.cell? ⟨gb1111, 0, none⟩ = some (.int .i64 a3_0) ∧ w'.cell? ⟨gb1111, 1, none⟩ = some (.int .i64 a3_1)) ∧ (w'.heap[gb1108]? = some (.cells #[.int .i64 a0_0, .int .i64 a0_1, .int .i64 a0_2] 34 (0, 0))) ∧ (w'.heap[gb1109]? = some (.cells #[.int .i64 a1_0, .int .i64 a1_1] 35 (0, 0))) ∧ (w'.heap[gb1110]? = some (.cells #[.int .i64 a2_0, .int .i64 a2_1, .int .i64 a2_2] 34 (0, 0))) ∧ (w'.heap[gb1111]? = some (.cells #[.int .i64 a3_0, .int .i64 a3_1] 35 (0, 0))) ∧ (Below w.heap.size w w')) ?_ ?_
            rotate_left
            · intro hJ1_3_5
              refine join_ (σ := Nat) 8 (fl 15 4191) (fun s_ => [(15, .agg #[.int .i64 t1112, .int .i64 t1113, .int .i64 t1114]), (17, .agg #[.int .i64 t1115, .int .i64 t1116]), (9, .pointer (some ⟨s_, 0, none⟩))]) (fun s_ w' => (w'.cell? ⟨gb1108, 0, none⟩ = some (.int .i64 a0_0) ∧ w'.cell? ⟨gb1108, 1, none⟩ = some (.int .i64 a0_1) ∧ w'.cell? ⟨gb1108, 2, none⟩ = some (.int .i64 a0_2) ∧ w'.cell? ⟨gb1109, 0, none⟩ = some (.int .i64 a1_0) ∧ w'.cell? ⟨gb1109, 1, none⟩ = some (.int .i64 a1_1) ∧ w'.cell? ⟨gb1110, 0, none⟩ = some (.int .i64 a2_0) ∧ w'.cell? ⟨gb1110, 1, none⟩ = some (.int .i64 a2_1) ∧ w'.cell? ⟨gb1110, 2, none⟩ = some (.int .i64 a2_2) ∧ w'.cell? ⟨gb1111, 0, none⟩ = some (.int .i64 a3_0) ∧ w'.cell? ⟨gb1111, 1, none⟩ = some (.int .i64 a3_1)) ∧ (w'.heap[gb1108]? = some (.cells #[.int .i64 a0_0, .int .i64 a0_1, .int .i64 a0_2] 34 (0, 0))) ∧ (w'.heap[gb1109]? = some (.cells #[.int .i64 a1_0, .int .i64 a1_1] 35 (0, 0))) ∧ (w'.heap[gb1110]? = some (.cells #[.int .i64 a2_0, .int .i64 a2_1, .int .i64 a2_2] 34 (0, 0))) ∧ (w'.heap[gb1111]? = some (.cells #[.int .i64 a3_0, .int .i64 a3_1] 35 (0, 0))) ∧ (w'.heap[s_]? = some (.cells #[.int .i64 0, .int .i64 0, .int .i64 0] 56 (0, 0))) ∧ (w.heap.size ≤ s_) ∧ (w.heap.size ≤ s_) ∧ (gb1108 ≠ s_) ∧ (s_ ≠ gb1108) ∧ (gb1109 ≠ s_) ∧ (s_ ≠ gb1109) ∧ (gb1110 ≠ s_) ∧ (s_ ≠ gb1110) ∧ (gb1111 ≠ s_) ∧ (s_ ≠ gb1111) ∧ (Below w.heap.size w w')) ?_ ?_
              rotate_left
              · intro hJ1_3_12
                refine join_ (σ := Unit) 9 (fl 15 95) (fun s_ => [(15, .agg #[.int .i64 t1112, .int .i64 t1113, .int .i64 t1114]), (17, .agg #[.int .i64 t1115, .int .i64 t1116])]) (fun s_ w' => (w'.cell? ⟨gb1108, 0, none⟩ = some (.int .i64 a0_0) ∧ w'.cell? ⟨gb1108, 1, none⟩ = some (.int .i64 a0_1) ∧ w'.cell? ⟨gb1108, 2, none⟩ = some (.int .i64 a0_2) ∧ w'.cell? ⟨gb1109, 0, none⟩ = some (.int .i64 a1_0) ∧ w'.cell? ⟨gb1109, 1, none⟩ = some (.int .i64 a1_1) ∧ w'.cell? ⟨gb1110, 0, none⟩ = some (.int .i64 a2_0) ∧ w'.cell? ⟨gb1110, 1, none⟩ = some (.int .i64 a2_1) ∧ w'.cell? ⟨gb1110, 2, none⟩ = some (.int .i64 a2_2) ∧ w'.cell? ⟨gb1111, 0, none⟩ = some (.int .i64 a3_0) ∧ w'.cell? ⟨gb1111, 1, none⟩ = some (.int .i64 a3_1)) ∧ (w'.heap[gb1108]? = some (.cells #[.int .i64 a0_0, .int .i64 a0_1, .int .i64 a0_2] 34 (0, 0))) ∧ (w'.heap[gb1109]? = some (.cells #[.int .i64 a1_0, .int .i64 a1_1] 35 (0, 0))) ∧ (w'.heap[gb1110]? = some (.cells #[.int .i64 a2_0, .int .i64 a2_1, .int .i64 a2_2] 34 (0, 0))) ∧ (w'.heap[gb1111]? = some (.cells #[.int .i64 a3_0, .int .i64 a3_1] 35 (0, 0))) ∧ (Below w.heap.size w w')) ?_ ?_
                rotate_left
                · intro hJ1_3
                  refine join_ (σ := Nat) 9 (fl 15 4183) (fun s_ => [(15, .agg #[.int .i64 t1112, .int .i64 t1113, .int .i64 t1114]), (9, .pointer (some ⟨s_, 0, none⟩))]) (fun s_ w' => (w'.cell? ⟨gb1108, 0, none⟩ = some (.int .i64 a0_0) ∧ w'.cell? ⟨gb1108, 1, none⟩ = some (.int .i64 a0_1) ∧ w'.cell? ⟨gb1108, 2, none⟩ = some (.int .i64 a0_2) ∧ w'.cell? ⟨gb1109, 0, none⟩ = some (.int .i64 a1_0) ∧ w'.cell? ⟨gb1109, 1, none⟩ = some (.int .i64 a1_1) ∧ w'.cell? ⟨gb1110, 0, none⟩ = some (.int .i64 a2_0) ∧ w'.cell? ⟨gb1110, 1, none⟩ = some (.int .i64 a2_1) ∧ w'.cell? ⟨gb1110, 2, none⟩ = some (.int .i64 a2_2) ∧ w'.cell? ⟨gb1111, 0, none⟩ = some (.int .i64 a3_0) ∧ w'.cell? ⟨gb1111, 1, none⟩ = some (.int .i64 a3_1)) ∧ (w'.heap[gb1108]? = some (.cells #[.int .i64 a0_0, .int .i64 a0_1, .int .i64 a0_2] 34 (0, 0))) ∧ (w'.heap[gb1109]? = some (.cells #[.int .i64 a1_0, .int .i64 a1_1] 35 (0, 0))) ∧ (w'.heap[gb1110]? = some (.cells #[.int .i64 a2_0, .int .i64 a2_1, .int .i64 a2_2] 34 (0, 0))) ∧ (w'.heap[gb1111]? = some (.cells #[.int .i64 a3_0, .int .i64 a3_1] 35 (0, 0))) ∧ (w'.heap[s_]? = some (.cells #[.int .i64 0, .int .i64 0, .int .i64 0] 56 (0, 0))) ∧ (w.heap.size ≤ s_) ∧ (w.heap.size ≤ s_) ∧ (gb1108 ≠ s_) ∧ (s_ ≠ gb1108) ∧ (gb1109 ≠ s_) ∧ (s_ ≠ gb1109) ∧ (gb1110 ≠ s_) ∧ (s_ ≠ gb1110) ∧ (gb1111 ≠ s_) ∧ (s_ ≠ gb1111) ∧ (Below w.heap.size w w')) ?_ ?_
                  rotate_left
                  · intro hJ1_12
                    refine join_ (σ := Unit) 10 (fl 15 87) (fun s_ => [(15, .agg #[.int .i64 t1112, .int .i64 t1113, .int .i64 t1114])]) (fun s_ w' => (w'.cell? ⟨gb1108, 0, none⟩ = some (.int .i64 a0_0) ∧ w'.cell? ⟨gb1108, 1, none⟩ = some (.int .i64 a0_1) ∧ w'.cell? ⟨gb1108, 2, none⟩ = some (.int .i64 a0_2) ∧ w'.cell? ⟨gb1109, 0, none⟩ = some (.int .i64 a1_0) ∧ w'.cell? ⟨gb1109, 1, none⟩ = some (.int .i64 a1_1) ∧ w'.cell? ⟨gb1110, 0, none⟩ = some (.int .i64 a2_0) ∧ w'.cell? ⟨gb1110, 1, none⟩ = some (.int .i64 a2_1) ∧ w'.cell? ⟨gb1110, 2, none⟩ = some (.int .i64 a2_2) ∧ w'.cell? ⟨gb1111, 0, none⟩ = some (.int .i64 a3_0) ∧ w'.cell? ⟨gb1111, 1, none⟩ = some (.int .i64 a3_1)) ∧ (w'.heap[gb1108]? = some (.cells #[.int .i64 a0_0, .int .i64 a0_1, .int .i64 a0_2] 34 (0, 0))) ∧ (w'.heap[gb1109]? = some (.cells #[.int .i64 a1_0, .int .i64 a1_1] 35 (0, 0))) ∧ (w'.heap[gb1110]? = some (.cells #[.int .i64 a2_0, .int .i64 a2_1, .int .i64 a2_2] 34 (0, 0))) ∧ (w'.heap[gb1111]? = some (.cells #[.int .i64 a3_0, .int .i64 a3_1] 35 (0, 0))) ∧ (Below w.heap.size w w')) ?_ ?_
                    rotate_left
                    · intro hJ1
                      refine join_ (σ := Nat) 10 (fl 15 4181) (fun s_ => [(9, .pointer (some ⟨s_, 0, none⟩))]) (fun s_ w' => (w'.cell? ⟨gb1108, 0, none⟩ = some (.int .i64 a0_0) ∧ w'.cell? ⟨gb1108, 1, none⟩ = some (.int .i64 a0_1) ∧ w'.cell? ⟨gb1108, 2, none⟩ = some (.int .i64 a0_2) ∧ w'.cell? ⟨gb1109, 0, none⟩ = some (.int .i64 a1_0) ∧ w'.cell? ⟨gb1109, 1, none⟩ = some (.int .i64 a1_1) ∧ w'.cell? ⟨gb1110, 0, none⟩ = some (.int .i64 a2_0) ∧ w'.cell? ⟨gb1110, 1, none⟩ = some (.int .i64 a2_1) ∧ w'.cell? ⟨gb1110, 2, none⟩ = some (.int .i64 a2_2) ∧ w'.cell? ⟨gb1111, 0, none⟩ = some (.int .i64 a3_0) ∧ w'.cell? ⟨gb1111, 1, none⟩ = some (.int .i64 a3_1)) ∧ (w'.heap[gb1108]? = some (.cells #[.int .i64 a0_0, .int .i64 a0_1, .int .i64 a0_2] 34 (0, 0))) ∧ (w'.heap[gb1109]? = some (.cells #[.int .i64 a1_0, .int .i64 a1_1] 35 (0, 0))) ∧ (w'.heap[gb1110]? = some (.cells #[.int .i64 a2_0, .int .i64 a2_1, .int .i64 a2_2] 34 (0, 0))) ∧ (w'.heap[gb1111]? = some (.cells #[.int .i64 a3_0, .int .i64 a3_1] 35 (0, 0))) ∧ (w'.heap[s_]? = some (.cells #[.int .i64 0, .int .i64 0, .int .i64 0] 56 (0, 0))) ∧ (w.heap.size ≤ s_) ∧ (w.heap.size ≤ s_) ∧ (gb1108 ≠ s_) ∧ (s_ ≠ gb1108) ∧ (gb1109 ≠ s_) ∧ (s_ ≠ gb1109) ∧ (gb1110 ≠ s_) ∧ (s_ ≠ gb1110) ∧ (gb1111 ≠ s_) ∧ (s_ ≠ gb1111) ∧ (Below w.heap.size w w')) ?_ ?_
                      rotate_left
                      · intro hJ12
                        refine two_ (i := 1) (j := 12) (Ni := some 15) (Nj := some 9) (fl 15 87) (fl 15 4181) rfl rfl rfl rfl (two_of HT_.out (by kernel_rfl)) (by decide) (by decide) (fun K hK => ?_) (fun K hK => ?_)
                        · skip
                          refine go1 Try.func34 #[.agg #[.int .i64 a0_0, .int .i64 a0_1, .int .i64 a0_2]] ?_
                          with_reducible refine (laws_toShape.calls a0_0 a0_1 a0_2 t1112 t1113 t1114 _ A5.out).mono ?_
                          rintro e w101 ⟨rfl, hb⟩
                          refine ⟨_, rfl, ?_⟩
                          replace BK1108 := kBB BK1108 hb
                          replace BK1109 := kBB BK1109 hb
                          replace BK1110 := kBB BK1110 hb
                          replace BK1111 := kBB BK1111 hb
                          replace HB := bS HB hb
                          clear hb
                          refine hK.out _ _ ⟨bc BK1108 0, bc BK1108 1, bc BK1108 2, bc BK1109 0, bc BK1109 1, bc BK1110 0, bc BK1110 1, bc BK1110 2, bc BK1111 0, bc BK1111 1⟩ (fun hHeld => ?_)
                          clear hK K
                          refine nm (some 15) ?_
                          exact nrm (hJ1 () _ ⟨hHeld, (qB BK1108), (qB BK1109), (qB BK1110), (qB BK1111), (qL HB)⟩)
                        skip
                        refine box_step ?hg (N := 9) ?hd (cs := #[.int .i64 0, .int .i64 0, .int .i64 0]) (t := 56) ?hr ?_; (case hd => rfl); (case hg => rfl); (case hr => first | (go_simp; done) | (go_simp; rfl))
                        intro gb1126 hg w101 hbox hb
                        have BK1126 := az hbox
                        have GW1126 := az ((gE hg (qL HB) : w.heap.size ≤ gb1126))
                        have GE1126 := GW1126
                        obtain ⟨NB1108_1126, NB1126_1108⟩ := nPB BK1108 hg
                        obtain ⟨NB1109_1126, NB1126_1109⟩ := nPB BK1109 hg
                        obtain ⟨NB1110_1126, NB1126_1110⟩ := nPB BK1110 hg
                        obtain ⟨NB1111_1126, NB1126_1111⟩ := nPB BK1111 hg
                        replace BK1108 := kBB BK1108 hb
                        replace BK1109 := kBB BK1109 hb
                        replace BK1110 := kBB BK1110 hb
                        replace BK1111 := kBB BK1111 hb
                        replace HB := bS HB hb
                        clear hb hbox hg
                        refine hK.out _ _ ⟨bc BK1108 0, bc BK1108 1, bc BK1108 2, bc BK1109 0, bc BK1109 1, bc BK1110 0, bc BK1110 1, bc BK1110 2, bc BK1111 0, bc BK1111 1⟩ (fun hHeld => ?_)
                        clear hK K
                        refine nm (some 9) ?_
                        exact nrm (hJ12 (gb1126) _ ⟨hHeld, (qB BK1108), (qB BK1109), (qB BK1110), (qB BK1111), (qB BK1126), GW1126.out, GE1126.out, NB1108_1126.out, NB1126_1108.out, NB1109_1126.out, NB1126_1109.out, NB1110_1126.out, NB1126_1110.out, NB1111_1126.out, NB1126_1111.out, (qL HB)⟩)
                      skip
                      rintro gb1126 w102 ⟨hS_, h0_, h1_, h2_, h3_, h4_, h5_, h6_, h7_, h8_, h9_, h10_, h11_, h12_, h13_, h14_, h15_⟩
                      have BK1126 := az h4_
                      have GW1126 := az h5_
                      have GE1126 := az h6_
                      have NB1108_1126 := az h7_
                      have NB1126_1108 := az h8_
                      have NB1109_1126 := az h9_
                      have NB1126_1109 := az h10_
                      have NB1110_1126 := az h11_
                      have NB1126_1110 := az h12_
                      have NB1111_1126 := az h13_
                      have NB1126_1111 := az h14_
                      replace BK1108 := az h0_
                      replace BK1109 := az h1_
                      replace BK1110 := az h2_
                      replace BK1111 := az h3_
                      replace HB := az h15_
                      clear h0_ h1_ h2_ h3_ h4_ h5_ h6_ h7_ h8_ h9_ h10_ h11_ h12_ h13_ h14_ h15_
                      have hHeld := hS_
                      refine nmp ?_
                      refine on 1 (some 15) (fl 15 4183) HT_ (fun K hK => ?_)
                      refine go1 Try.func34 #[.agg #[.int .i64 a0_0, .int .i64 a0_1, .int .i64 a0_2]] ?_
                      with_reducible refine (laws_toShape.calls a0_0 a0_1 a0_2 t1112 t1113 t1114 _ A5.out).mono ?_
                      rintro e w103 ⟨rfl, hb⟩
                      refine ⟨_, rfl, ?_⟩
                      replace BK1108 := kBB BK1108 hb
                      replace BK1109 := kBB BK1109 hb
                      replace BK1110 := kBB BK1110 hb
                      replace BK1111 := kBB BK1111 hb
                      replace BK1126 := kBB BK1126 hb
                      replace HB := bS HB hb
                      clear hb
                      refine hK.out _ _ ⟨bc BK1108 0, bc BK1108 1, bc BK1108 2, bc BK1109 0, bc BK1109 1, bc BK1110 0, bc BK1110 1, bc BK1110 2, bc BK1111 0, bc BK1111 1⟩ (fun hHeld => ?_)
                      clear hK K
                      refine nm (some 15) ?_
                      exact nrm (hJ1_12 (gb1126) _ ⟨hHeld, (qB BK1108), (qB BK1109), (qB BK1110), (qB BK1111), (qB BK1126), GW1126.out, GE1126.out, NB1108_1126.out, NB1126_1108.out, NB1109_1126.out, NB1126_1109.out, NB1110_1126.out, NB1126_1110.out, NB1111_1126.out, NB1126_1111.out, (qL HB)⟩)
                    skip
                    rintro _ w102 ⟨hS_, h0_, h1_, h2_, h3_, h4_⟩
                    replace BK1108 := az h0_
                    replace BK1109 := az h1_
                    replace BK1110 := az h2_
                    replace BK1111 := az h3_
                    replace HB := az h4_
                    clear h0_ h1_ h2_ h3_ h4_
                    have hHeld := hS_
                    refine nmp ?_
                    refine two_ (i := 3) (j := 12) (Ni := some 17) (Nj := some 9) (fl 15 95) (fl 15 4183) rfl rfl rfl rfl (two_of HT_.out (by kernel_rfl)) (by decide) (by decide) (fun K hK => ?_) (fun K hK => ?_)
                    · skip
                      refine go1 Try.func20 #[.agg #[.int .i64 a1_0, .int .i64 a1_1]] ?_
                      with_reducible refine (laws_toVec.calls a1_0 a1_1 t1115 t1116 _ A6.out).mono ?_
                      rintro e w103 ⟨rfl, hb⟩
                      refine ⟨_, rfl, ?_⟩
                      replace BK1108 := kBB BK1108 hb
                      replace BK1109 := kBB BK1109 hb
                      replace BK1110 := kBB BK1110 hb
                      replace BK1111 := kBB BK1111 hb
                      replace HB := bS HB hb
                      clear hb
                      refine hK.out _ _ ⟨bc BK1108 0, bc BK1108 1, bc BK1108 2, bc BK1109 0, bc BK1109 1, bc BK1110 0, bc BK1110 1, bc BK1110 2, bc BK1111 0, bc BK1111 1⟩ (fun hHeld => ?_)
                      clear hK K
                      refine nm (some 17) ?_
                      exact nrm (hJ1_3 () _ ⟨hHeld, (qB BK1108), (qB BK1109), (qB BK1110), (qB BK1111), (qL HB)⟩)
                    skip
                    refine box_step ?hg (N := 9) ?hd (cs := #[.int .i64 0, .int .i64 0, .int .i64 0]) (t := 56) ?hr ?_; (case hd => rfl); (case hg => rfl); (case hr => first | (go_simp; done) | (go_simp; rfl))
                    intro gb1126 hg w103 hbox hb
                    have BK1126 := az hbox
                    have GW1126 := az ((gE hg (qL HB) : w.heap.size ≤ gb1126))
                    have GE1126 := GW1126
                    obtain ⟨NB1108_1126, NB1126_1108⟩ := nPB BK1108 hg
                    obtain ⟨NB1109_1126, NB1126_1109⟩ := nPB BK1109 hg
                    obtain ⟨NB1110_1126, NB1126_1110⟩ := nPB BK1110 hg
                    obtain ⟨NB1111_1126, NB1126_1111⟩ := nPB BK1111 hg
                    replace BK1108 := kBB BK1108 hb
                    replace BK1109 := kBB BK1109 hb
                    replace BK1110 := kBB BK1110 hb
                    replace BK1111 := kBB BK1111 hb
                    replace HB := bS HB hb
                    clear hb hbox hg
                    refine hK.out _ _ ⟨bc BK1108 0, bc BK1108 1, bc BK1108 2, bc BK1109 0, bc BK1109 1, bc BK1110 0, bc BK1110 1, bc BK1110 2, bc BK1111 0, bc BK1111 1⟩ (fun hHeld => ?_)
                    clear hK K
                    refine nm (some 9) ?_
                    exact nrm (hJ1_12 (gb1126) _ ⟨hHeld, (qB BK1108), (qB BK1109), (qB BK1110), (qB BK1111), (qB BK1126), GW1126.out, GE1126.out, NB1108_1126.out, NB1126_1108.out, NB1109_1126.out, NB1126_1109.out, NB1110_1126.out, NB1126_1110.out, NB1111_1126.out, NB1126_1111.out, (qL HB)⟩)
                  skip
                  rintro gb1126 w103 ⟨hS_, h0_, h1_, h2_, h3_, h4_, h5_, h6_, h7_, h8_, h9_, h10_, h11_, h12_, h13_, h14_, h15_⟩
                  have BK1126 := az h4_
                  have GW1126 := az h5_
                  have GE1126 := az h6_
                  have NB1108_1126 := az h7_
                  have NB1126_1108 := az h8_
                  have NB1109_1126 := az h9_
                  have NB1126_1109 := az h10_
                  have NB1110_1126 := az h11_
                  have NB1126_1110 := az h12_
                  have NB1111_1126 := az h13_
                  have NB1126_1111 := az h14_
                  replace BK1108 := az h0_
                  replace BK1109 := az h1_
                  replace BK1110 := az h2_
                  replace BK1111 := az h3_
                  replace HB := az h15_
                  clear h0_ h1_ h2_ h3_ h4_ h5_ h6_ h7_ h8_ h9_ h10_ h11_ h12_ h13_ h14_ h15_
                  have hHeld := hS_
                  refine nmp ?_
                  refine on 3 (some 17) (fl 15 4191) HT_ (fun K hK => ?_)
                  refine go1 Try.func20 #[.agg #[.int .i64 a1_0, .int .i64 a1_1]] ?_
                  with_reducible refine (laws_toVec.calls a1_0 a1_1 t1115 t1116 _ A6.out).mono ?_
                  rintro e w104 ⟨rfl, hb⟩
                  refine ⟨_, rfl, ?_⟩
                  replace BK1108 := kBB BK1108 hb
                  replace BK1109 := kBB BK1109 hb
                  replace BK1110 := kBB BK1110 hb
                  replace BK1111 := kBB BK1111 hb
                  replace BK1126 := kBB BK1126 hb
                  replace HB := bS HB hb
                  clear hb
                  refine hK.out _ _ ⟨bc BK1108 0, bc BK1108 1, bc BK1108 2, bc BK1109 0, bc BK1109 1, bc BK1110 0, bc BK1110 1, bc BK1110 2, bc BK1111 0, bc BK1111 1⟩ (fun hHeld => ?_)
                  clear hK K
                  refine nm (some 17) ?_
                  exact nrm (hJ1_3_12 (gb1126) _ ⟨hHeld, (qB BK1108), (qB BK1109), (qB BK1110), (qB BK1111), (qB BK1126), GW1126.out, GE1126.out, NB1108_1126.out, NB1126_1108.out, NB1109_1126.out, NB1126_1109.out, NB1110_1126.out, NB1126_1110.out, NB1111_1126.out, NB1126_1111.out, (qL HB)⟩)
                skip
                rintro _ w103 ⟨hS_, h0_, h1_, h2_, h3_, h4_⟩
                replace BK1108 := az h0_
                replace BK1109 := az h1_
                replace BK1110 := az h2_
                replace BK1111 := az h3_
                replace HB := az h4_
                clear h0_ h1_ h2_ h3_ h4_
                have hHeld := hS_
                refine nmp ?_
                refine two_ (i := 5) (j := 12) (Ni := some 19) (Nj := some 9) (fl 15 127) (fl 15 4191) rfl rfl rfl rfl (two_of HT_.out (by kernel_rfl)) (by decide) (by decide) (fun K hK => ?_) (fun K hK => ?_)
                · skip
                  refine go1 Try.func34 #[.agg #[.int .i64 a2_0, .int .i64 a2_1, .int .i64 a2_2]] ?_
                  with_reducible refine (laws_toShape.calls a2_0 a2_1 a2_2 t1117 t1118 t1119 _ A7.out).mono ?_
                  rintro e w104 ⟨rfl, hb⟩
                  refine ⟨_, rfl, ?_⟩
                  replace BK1108 := kBB BK1108 hb
                  replace BK1109 := kBB BK1109 hb
                  replace BK1110 := kBB BK1110 hb
                  replace BK1111 := kBB BK1111 hb
                  replace HB := bS HB hb
                  clear hb
                  refine hK.out _ _ ⟨bc BK1108 0, bc BK1108 1, bc BK1108 2, bc BK1109 0, bc BK1109 1, bc BK1110 0, bc BK1110 1, bc BK1110 2, bc BK1111 0, bc BK1111 1⟩ (fun hHeld => ?_)
                  clear hK K
                  refine nm (some 19) ?_
                  exact nrm (hJ1_3_5 () _ ⟨hHeld, (qB BK1108), (qB BK1109), (qB BK1110), (qB BK1111), (qL HB)⟩)
                skip
                refine box_step ?hg (N := 9) ?hd (cs := #[.int .i64 0, .int .i64 0, .int .i64 0]) (t := 56) ?hr ?_; (case hd => rfl); (case hg => rfl); (case hr => first | (go_simp; done) | (go_simp; rfl))
                intro gb1126 hg w104 hbox hb
                have BK1126 := az hbox
                have GW1126 := az ((gE hg (qL HB) : w.heap.size ≤ gb1126))
                have GE1126 := GW1126
                obtain ⟨NB1108_1126, NB1126_1108⟩ := nPB BK1108 hg
                obtain ⟨NB1109_1126, NB1126_1109⟩ := nPB BK1109 hg
                obtain ⟨NB1110_1126, NB1126_1110⟩ := nPB BK1110 hg
                obtain ⟨NB1111_1126, NB1126_1111⟩ := nPB BK1111 hg
                replace BK1108 := kBB BK1108 hb
                replace BK1109 := kBB BK1109 hb
                replace BK1110 := kBB BK1110 hb
                replace BK1111 := kBB BK1111 hb
                replace HB := bS HB hb
                clear hb hbox hg
                refine hK.out _ _ ⟨bc BK1108 0, bc BK1108 1, bc BK1108 2, bc BK1109 0, bc BK1109 1, bc BK1110 0, bc BK1110 1, bc BK1110 2, bc BK1111 0, bc BK1111 1⟩ (fun hHeld => ?_)
                clear hK K
                refine nm (some 9) ?_
                exact nrm (hJ1_3_12 (gb1126) _ ⟨hHeld, (qB BK1108), (qB BK1109), (qB BK1110), (qB BK1111), (qB BK1126), GW1126.out, GE1126.out, NB1108_1126.out, NB1126_1108.out, NB1109_1126.out, NB1126_1109.out, NB1110_1126.out, NB1126_1110.out, NB1111_1126.out, NB1126_1111.out, (qL HB)⟩)
              skip
              rintro gb1126 w104 ⟨hS_, h0_, h1_, h2_, h3_, h4_, h5_, h6_, h7_, h8_, h9_, h10_, h11_, h12_, h13_, h14_, h15_⟩
              have BK1126 := az h4_
              have GW1126 := az h5_
              have GE1126 := az h6_
              have NB1108_1126 := az h7_
              have NB1126_1108 := az h8_
              have NB1109_1126 := az h9_
              have NB1126_1109 := az h10_
              have NB1110_1126 := az h11_
              have NB1126_1110 := az h12_
              have NB1111_1126 := az h13_
              have NB1126_1111 := az h14_
              replace BK1108 := az h0_
              replace BK1109 := az h1_
              replace BK1110 := az h2_
              replace BK1111 := az h3_
              replace HB := az h15_
              clear h0_ h1_ h2_ h3_ h4_ h5_ h6_ h7_ h8_ h9_ h10_ h11_ h12_ h13_ h14_ h15_
              have hHeld := hS_
              refine nmp ?_
              refine on 5 (some 19) (fl 15 4223) HT_ (fun K hK => ?_)
              refine go1 Try.func34 #[.agg #[.int .i64 a2_0, .int .i64 a2_1, .int .i64 a2_2]] ?_
              with_reducible refine (laws_toShape.calls a2_0 a2_1 a2_2 t1117 t1118 t1119 _ A7.out).mono ?_
              rintro e w105 ⟨rfl, hb⟩
              refine ⟨_, rfl, ?_⟩
              replace BK1108 := kBB BK1108 hb
              replace BK1109 := kBB BK1109 hb
              replace BK1110 := kBB BK1110 hb
              replace BK1111 := kBB BK1111 hb
              replace BK1126 := kBB BK1126 hb
              replace HB := bS HB hb
              clear hb
              refine hK.out _ _ ⟨bc BK1108 0, bc BK1108 1, bc BK1108 2, bc BK1109 0, bc BK1109 1, bc BK1110 0, bc BK1110 1, bc BK1110 2, bc BK1111 0, bc BK1111 1⟩ (fun hHeld => ?_)
              clear hK K
              refine nm (some 19) ?_
              exact nrm (hJ1_3_5_12 (gb1126) _ ⟨hHeld, (qB BK1108), (qB BK1109), (qB BK1110), (qB BK1111), (qB BK1126), GW1126.out, GE1126.out, NB1108_1126.out, NB1126_1108.out, NB1109_1126.out, NB1126_1109.out, NB1110_1126.out, NB1126_1110.out, NB1111_1126.out, NB1126_1111.out, (qL HB)⟩)
            skip
            rintro _ w104 ⟨hS_, h0_, h1_, h2_, h3_, h4_⟩
            replace BK1108 := az h0_
            replace BK1109 := az h1_
            replace BK1110 := az h2_
            replace BK1111 := az h3_
            replace HB := az h4_
            clear h0_ h1_ h2_ h3_ h4_
            have hHeld := hS_
            refine nmp ?_
            refine two_ (i := 7) (j := 12) (Ni := some 21) (Nj := some 9) (fl 15 255) (fl 15 4223) rfl rfl rfl rfl (two_of HT_.out (by kernel_rfl)) (by decide) (by decide) (fun K hK => ?_) (fun K hK => ?_)
            · skip
              refine go1 Try.func20 #[.agg #[.int .i64 a3_0, .int .i64 a3_1]] ?_
              with_reducible refine (laws_toVec.calls a3_0 a3_1 t1120 t1121 _ A8.out).mono ?_
              rintro e w105 ⟨rfl, hb⟩
              refine ⟨_, rfl, ?_⟩
              replace BK1108 := kBB BK1108 hb
              replace BK1109 := kBB BK1109 hb
              replace BK1110 := kBB BK1110 hb
              replace BK1111 := kBB BK1111 hb
              replace HB := bS HB hb
              clear hb
              refine hK.out _ _ ⟨bc BK1108 0, bc BK1108 1, bc BK1108 2, bc BK1109 0, bc BK1109 1, bc BK1110 0, bc BK1110 1, bc BK1110 2, bc BK1111 0, bc BK1111 1⟩ (fun hHeld => ?_)
              clear hK K
              refine nm (some 21) ?_
              exact nrm (hJ1_3_5_7 () _ ⟨hHeld, (qB BK1108), (qB BK1109), (qB BK1110), (qB BK1111), (qL HB)⟩)
            skip
            refine box_step ?hg (N := 9) ?hd (cs := #[.int .i64 0, .int .i64 0, .int .i64 0]) (t := 56) ?hr ?_; (case hd => rfl); (case hg => rfl); (case hr => first | (go_simp; done) | (go_simp; rfl))
            intro gb1126 hg w105 hbox hb
            have BK1126 := az hbox
            have GW1126 := az ((gE hg (qL HB) : w.heap.size ≤ gb1126))
            have GE1126 := GW1126
            obtain ⟨NB1108_1126, NB1126_1108⟩ := nPB BK1108 hg
            obtain ⟨NB1109_1126, NB1126_1109⟩ := nPB BK1109 hg
            obtain ⟨NB1110_1126, NB1126_1110⟩ := nPB BK1110 hg
            obtain ⟨NB1111_1126, NB1126_1111⟩ := nPB BK1111 hg
            replace BK1108 := kBB BK1108 hb
            replace BK1109 := kBB BK1109 hb
            replace BK1110 := kBB BK1110 hb
            replace BK1111 := kBB BK1111 hb
            replace HB := bS HB hb
            clear hb hbox hg
            refine hK.out _ _ ⟨bc BK1108 0, bc BK1108 1, bc BK1108 2, bc BK1109 0, bc BK1109 1, bc BK1110 0, bc BK1110 1, bc BK1110 2, bc BK1111 0, bc BK1111 1⟩ (fun hHeld => ?_)
            clear hK K
            refine nm (some 9) ?_
            exact nrm (hJ1_3_5_12 (gb1126) _ ⟨hHeld, (qB BK1108), (qB BK1109), (qB BK1110), (qB BK1111), (qB BK1126), GW1126.out, GE1126.out, NB1108_1126.out, NB1126_1108.out, NB1109_1126.out, NB1126_1109.out, NB1110_1126.out, NB1126_1110.out, NB1111_1126.out, NB1126_1111.out, (qL HB)⟩)
          skip
          rintro gb1126 w105 ⟨hS_, h0_, h1_, h2_, h3_, h4_, h5_, h6_, h7_, h8_, h9_, h10_, h11_, h12_, h13_, h14_, h15_⟩
          have BK1126 := az h4_
          have GW1126 := az h5_
          have GE1126 := az h6_
          have NB1108_1126 := az h7_
          have NB1126_1108 := az h8_
          have NB1109_1126 := az h9_
          have NB1126_1109 := az h10_
          have NB1110_1126 := az h11_
          have NB1126_1110 := az h12_
          have NB1111_1126 := az h13_
          have NB1126_1111 := az h14_
          replace BK1108 := az h0_
          replace BK1109 := az h1_
          replace BK1110 := az h2_
          replace BK1111 := az h3_
          replace HB := az h15_
          clear h0_ h1_ h2_ h3_ h4_ h5_ h6_ h7_ h8_ h9_ h10_ h11_ h12_ h13_ h14_ h15_
          have hHeld := hS_
          refine nmp ?_
          refine on 7 (some 21) (fl 15 4351) HT_ (fun K hK => ?_)
          refine go1 Try.func20 #[.agg #[.int .i64 a3_0, .int .i64 a3_1]] ?_
          with_reducible refine (laws_toVec.calls a3_0 a3_1 t1120 t1121 _ A8.out).mono ?_
          rintro e w106 ⟨rfl, hb⟩
          refine ⟨_, rfl, ?_⟩
          replace BK1108 := kBB BK1108 hb
          replace BK1109 := kBB BK1109 hb
          replace BK1110 := kBB BK1110 hb
          replace BK1111 := kBB BK1111 hb
          replace BK1126 := kBB BK1126 hb
          replace HB := bS HB hb
          clear hb
          refine hK.out _ _ ⟨bc BK1108 0, bc BK1108 1, bc BK1108 2, bc BK1109 0, bc BK1109 1, bc BK1110 0, bc BK1110 1, bc BK1110 2, bc BK1111 0, bc BK1111 1⟩ (fun hHeld => ?_)
          clear hK K
          refine nm (some 21) ?_
          exact nrm (hJ1_3_5_7_12 (gb1126) _ ⟨hHeld, (qB BK1108), (qB BK1109), (qB BK1110), (qB BK1111), (qB BK1126), GW1126.out, GE1126.out, NB1108_1126.out, NB1126_1108.out, NB1109_1126.out, NB1126_1109.out, NB1110_1126.out, NB1126_1110.out, NB1111_1126.out, NB1126_1111.out, (qL HB)⟩)
        skip
        rintro _ w105 ⟨hS_, h0_, h1_, h2_, h3_, h4_⟩
        replace BK1108 := az h0_
        replace BK1109 := az h1_
        replace BK1110 := az h2_
        replace BK1111 := az h3_
        replace HB := az h4_
        clear h0_ h1_ h2_ h3_ h4_
        have hHeld := hS_
        refine nmp ?_
        refine two_ (i := 8) (j := 12) (Ni := some 22) (Nj := some 9) (fl 15 511) (fl 15 4351) rfl rfl rfl rfl (two_of HT_.out (by kernel_rfl)) (by decide) (by decide) (fun K hK => ?_) (fun K hK => ?_)
        · skip
          refine go1 Try.func33 #[.agg #[.int .i64 t1112, .int .i64 t1113, .int .i64 t1114], .agg #[.int .i64 t1115, .int .i64 t1116], .agg #[.int .i64 t1117, .int .i64 t1118, .int .i64 t1119], .agg #[.int .i64 t1120, .int .i64 t1121]] ?_
          with_reducible refine (spec_Touch.calls k t1112 t1113 t1114 t1115 t1116 t1117 t1118 t1119 t1120 t1121 t1122 t1123 t1124 t1125 _ A9.out).mono ?_
          rintro e w106 ⟨rfl, hb⟩
          refine ⟨_, rfl, ?_⟩
          replace BK1108 := kBB BK1108 hb
          replace BK1109 := kBB BK1109 hb
          replace BK1110 := kBB BK1110 hb
          replace BK1111 := kBB BK1111 hb
          replace HB := bS HB hb
          clear hb
          refine hK.out _ _ ⟨bc BK1108 0, bc BK1108 1, bc BK1108 2, bc BK1109 0, bc BK1109 1, bc BK1110 0, bc BK1110 1, bc BK1110 2, bc BK1111 0, bc BK1111 1⟩ (fun hHeld => ?_)
          clear hK K
          refine nm (some 22) ?_
          refine pu 9 (some 13) (fl 15 1023) HT_ ?_
          refine pu 10 (some 23) (fl 15 2047) HT_ ?_
          refine pu 11 (some 24) (fl 15 4095) HT_ ?_
          exact nrm (hJ1_3_5_7_8 () _ ⟨hHeld, (qB BK1108), (qB BK1109), (qB BK1110), (qB BK1111), (qL HB)⟩)
        skip
        refine box_step ?hg (N := 9) ?hd (cs := #[.int .i64 0, .int .i64 0, .int .i64 0]) (t := 56) ?hr ?_; (case hd => rfl); (case hg => rfl); (case hr => first | (go_simp; done) | (go_simp; rfl))
        intro gb1126 hg w106 hbox hb
        have BK1126 := az hbox
        have GW1126 := az ((gE hg (qL HB) : w.heap.size ≤ gb1126))
        have GE1126 := GW1126
        obtain ⟨NB1108_1126, NB1126_1108⟩ := nPB BK1108 hg
        obtain ⟨NB1109_1126, NB1126_1109⟩ := nPB BK1109 hg
        obtain ⟨NB1110_1126, NB1126_1110⟩ := nPB BK1110 hg
        obtain ⟨NB1111_1126, NB1126_1111⟩ := nPB BK1111 hg
        replace BK1108 := kBB BK1108 hb
        replace BK1109 := kBB BK1109 hb
        replace BK1110 := kBB BK1110 hb
        replace BK1111 := kBB BK1111 hb
        replace HB := bS HB hb
        clear hb hbox hg
        refine hK.out _ _ ⟨bc BK1108 0, bc BK1108 1, bc BK1108 2, bc BK1109 0, bc BK1109 1, bc BK1110 0, bc BK1110 1, bc BK1110 2, bc BK1111 0, bc BK1111 1⟩ (fun hHeld => ?_)
        clear hK K
        refine nm (some 9) ?_
        exact nrm (hJ1_3_5_7_12 (gb1126) _ ⟨hHeld, (qB BK1108), (qB BK1109), (qB BK1110), (qB BK1111), (qB BK1126), GW1126.out, GE1126.out, NB1108_1126.out, NB1126_1108.out, NB1109_1126.out, NB1126_1109.out, NB1110_1126.out, NB1126_1110.out, NB1111_1126.out, NB1126_1111.out, (qL HB)⟩)
      skip
      rintro gb1126 w106 ⟨hS_, h0_, h1_, h2_, h3_, h4_, h5_, h6_, h7_, h8_, h9_, h10_, h11_, h12_, h13_, h14_, h15_⟩
      have BK1126 := az h4_
      have GW1126 := az h5_
      have GE1126 := az h6_
      have NB1108_1126 := az h7_
      have NB1126_1108 := az h8_
      have NB1109_1126 := az h9_
      have NB1126_1109 := az h10_
      have NB1110_1126 := az h11_
      have NB1126_1110 := az h12_
      have NB1111_1126 := az h13_
      have NB1126_1111 := az h14_
      replace BK1108 := az h0_
      replace BK1109 := az h1_
      replace BK1110 := az h2_
      replace BK1111 := az h3_
      replace HB := az h15_
      clear h0_ h1_ h2_ h3_ h4_ h5_ h6_ h7_ h8_ h9_ h10_ h11_ h12_ h13_ h14_ h15_
      have hHeld := hS_
      refine nmp ?_
      refine on 8 (some 22) (fl 15 4607) HT_ (fun K hK => ?_)
      refine go1 Try.func33 #[.agg #[.int .i64 t1112, .int .i64 t1113, .int .i64 t1114], .agg #[.int .i64 t1115, .int .i64 t1116], .agg #[.int .i64 t1117, .int .i64 t1118, .int .i64 t1119], .agg #[.int .i64 t1120, .int .i64 t1121]] ?_
      with_reducible refine (spec_Touch.calls k t1112 t1113 t1114 t1115 t1116 t1117 t1118 t1119 t1120 t1121 t1122 t1123 t1124 t1125 _ A9.out).mono ?_
      rintro e w107 ⟨rfl, hb⟩
      refine ⟨_, rfl, ?_⟩
      replace BK1108 := kBB BK1108 hb
      replace BK1109 := kBB BK1109 hb
      replace BK1110 := kBB BK1110 hb
      replace BK1111 := kBB BK1111 hb
      replace BK1126 := kBB BK1126 hb
      replace HB := bS HB hb
      clear hb
      refine hK.out _ _ ⟨bc BK1108 0, bc BK1108 1, bc BK1108 2, bc BK1109 0, bc BK1109 1, bc BK1110 0, bc BK1110 1, bc BK1110 2, bc BK1111 0, bc BK1111 1⟩ (fun hHeld => ?_)
      clear hK K
      refine nm (some 22) ?_
      refine pu 9 (some 13) (fl 15 5119) HT_ ?_
      refine pu 10 (some 23) (fl 15 6143) HT_ ?_
      refine pu 11 (some 24) (fl 15 8191) HT_ ?_
      exact nrm (hJ1_3_5_7_8_12 (gb1126) _ ⟨hHeld, (qB BK1108), (qB BK1109), (qB BK1110), (qB BK1111), (qB BK1126), GW1126.out, GE1126.out, NB1108_1126.out, NB1126_1108.out, NB1109_1126.out, NB1126_1109.out, NB1110_1126.out, NB1126_1110.out, NB1111_1126.out, NB1126_1111.out, (qL HB)⟩)
    skip
    rintro _ w106 ⟨hS_, h0_, h1_, h2_, h3_, h4_⟩
    replace BK1108 := az h0_
    replace BK1109 := az h1_
    replace BK1110 := az h2_
    replace BK1111 := az h3_
    replace HB := az h4_
    clear h0_ h1_ h2_ h3_ h4_
    have hHeld := hS_
    refine nmp ?_
    refine on 12 (some 9) (fl 15 8191) HT_ (fun K hK => ?_)
    refine box_step ?hg (N := 9) ?hd (cs := #[.int .i64 0, .int .i64 0, .int .i64 0]) (t := 56) ?hr ?_; (case hd => rfl); (case hg => rfl); (case hr => first | (go_simp; done) | (go_simp; rfl))
    intro gb1126 hg w107 hbox hb
    have BK1126 := az hbox
    have GW1126 := az ((gE hg (qL HB) : w.heap.size ≤ gb1126))
    have GE1126 := GW1126
    obtain ⟨NB1108_1126, NB1126_1108⟩ := nPB BK1108 hg
    obtain ⟨NB1109_1126, NB1126_1109⟩ := nPB BK1109 hg
    obtain ⟨NB1110_1126, NB1126_1110⟩ := nPB BK1110 hg
    obtain ⟨NB1111_1126, NB1126_1111⟩ := nPB BK1111 hg
    replace BK1108 := kBB BK1108 hb
    replace BK1109 := kBB BK1109 hb
    replace BK1110 := kBB BK1110 hb
    replace BK1111 := kBB BK1111 hb
    replace HB := bS HB hb
    clear hb hbox hg
    refine hK.out _ _ ⟨bc BK1108 0, bc BK1108 1, bc BK1108 2, bc BK1109 0, bc BK1109 1, bc BK1110 0, bc BK1110 1, bc BK1110 2, bc BK1111 0, bc BK1111 1⟩ (fun hHeld => ?_)
    clear hK K
    refine nm (some 9) ?_
    exact nrm (hJ1_3_5_7_8_12 (gb1126) _ ⟨hHeld, (qB BK1108), (qB BK1109), (qB BK1110), (qB BK1111), (qB BK1126), GW1126.out, GE1126.out, NB1108_1126.out, NB1126_1108.out, NB1109_1126.out, NB1126_1109.out, NB1110_1126.out, NB1126_1110.out, NB1111_1126.out, NB1126_1111.out, (qL HB)⟩)
  rintro gb1126 w107 ⟨hS_, h0_, h1_, h2_, h3_, h4_, h5_, h6_, h7_, h8_, h9_, h10_, h11_, h12_, h13_, h14_, h15_⟩
  have BK1126 := az h4_
  have GW1126 := az h5_
  have GE1126 := az h6_
  have NB1108_1126 := az h7_
  have NB1126_1108 := az h8_
  have NB1109_1126 := az h9_
  have NB1126_1109 := az h10_
  have NB1110_1126 := az h11_
  have NB1126_1110 := az h12_
  have NB1111_1126 := az h13_
  have NB1126_1111 := az h14_
  replace BK1108 := az h0_
  replace BK1109 := az h1_
  replace BK1110 := az h2_
  replace BK1111 := az h3_
  replace HB := az h15_
  clear h0_ h1_ h2_ h3_ h4_ h5_ h6_ h7_ h8_ h9_ h10_ h11_ h12_ h13_ h14_ h15_
  have hHeld := hS_
  refine nmp ?_
  refine on 13 (none) (fl 15 16383) HT_ (fun K hK => ?_)
  have hs108 : w107.cell? ⟨gb1126, 0, none⟩ = some (.int .i64 0) := bc BK1126 0
  have hfs108 := blk_frozen BK1126.out 0
  have hns108_0 := NB1108_1126.out
  have hns108_1 := NB1109_1126.out
  have hns108_2 := NB1110_1126.out
  have hns108_3 := NB1111_1126.out
  have hms108_0 := NB1126_1108.out
  have hms108_1 := NB1126_1109.out
  have hms108_2 := NB1126_1110.out
  have hms108_3 := NB1126_1111.out
  have hs109 : w107.cell? ⟨gb1126, 1, none⟩ = some (.int .i64 0) := bc BK1126 1
  have hfs109 := blk_frozen BK1126.out 1
  have hns109_0 := NB1108_1126.out
  have hns109_1 := NB1109_1126.out
  have hns109_2 := NB1110_1126.out
  have hns109_3 := NB1111_1126.out
  have hms109_0 := NB1126_1108.out
  have hms109_1 := NB1126_1109.out
  have hms109_2 := NB1126_1110.out
  have hms109_3 := NB1126_1111.out
  have hs110 : w107.cell? ⟨gb1126, 2, none⟩ = some (.int .i64 0) := bc BK1126 2
  have hfs110 := blk_frozen BK1126.out 2
  have hns110_0 := NB1108_1126.out
  have hns110_1 := NB1109_1126.out
  have hns110_2 := NB1110_1126.out
  have hns110_3 := NB1111_1126.out
  have hms110_0 := NB1126_1108.out
  have hms110_1 := NB1126_1109.out
  have hms110_2 := NB1126_1110.out
  have hms110_3 := NB1126_1111.out
  refine skip_ (w1 := ?_) ?hw ?hn ?_ ?_; (case hw => unfold Region.wanted; rfl); (case hn => rfl)
  rotate_left
  · go_simp
    rfl
  refine hK.out _ _ ⟨(cf NB1108_1126 ((cf NB1108_1126 ((cf NB1108_1126 (hHeld.1)))))), (cf NB1108_1126 ((cf NB1108_1126 ((cf NB1108_1126 (hHeld.2.1)))))), (cf NB1108_1126 ((cf NB1108_1126 ((cf NB1108_1126 (hHeld.2.2.1)))))), (cf NB1109_1126 ((cf NB1109_1126 ((cf NB1109_1126 (hHeld.2.2.2.1)))))), (cf NB1109_1126 ((cf NB1109_1126 ((cf NB1109_1126 (hHeld.2.2.2.2.1)))))), (cf NB1110_1126 ((cf NB1110_1126 ((cf NB1110_1126 (hHeld.2.2.2.2.2.1)))))), (cf NB1110_1126 ((cf NB1110_1126 ((cf NB1110_1126 (hHeld.2.2.2.2.2.2.1)))))), (cf NB1110_1126 ((cf NB1110_1126 ((cf NB1110_1126 (hHeld.2.2.2.2.2.2.2.1)))))), (cf NB1111_1126 ((cf NB1111_1126 ((cf NB1111_1126 (hHeld.2.2.2.2.2.2.2.2.1)))))), (cf NB1111_1126 ((cf NB1111_1126 ((cf NB1111_1126 (hHeld.2.2.2.2.2.2.2.2.2))))))⟩ (fun hHeld => ?_)
  clear hK K
  refine pu 14 (some 10) (fl 15 32767) HT_ ?_
  refine done_ (done_of HT_.out (by kernel_rfl)) ?_
  try go_wp2
  obtain ⟨w111, hw_⟩ : ∃ x, x = (((w107.setCell ⟨gb1126, 0, none⟩ (.int .i64 t1122)).setCell ⟨gb1126, 1, none⟩ (.int .i64 t1123)).setCell ⟨gb1126, 2, none⟩ (.int .i64 t1124)) := ⟨_, rfl⟩
  replace BK1108 : Aside0 (w111.heap[gb1108]? = some (.cells #[.int .i64 a0_0, .int .i64 a0_1, .int .i64 a0_2] 34 (0, 0))) := ⟨by rw [hw_]; exact qF BK1108⟩
  replace BK1109 : Aside0 (w111.heap[gb1109]? = some (.cells #[.int .i64 a1_0, .int .i64 a1_1] 35 (0, 0))) := ⟨by rw [hw_]; exact qF BK1109⟩
  replace BK1110 : Aside0 (w111.heap[gb1110]? = some (.cells #[.int .i64 a2_0, .int .i64 a2_1, .int .i64 a2_2] 34 (0, 0))) := ⟨by rw [hw_]; exact qF BK1110⟩
  replace BK1111 : Aside0 (w111.heap[gb1111]? = some (.cells #[.int .i64 a3_0, .int .i64 a3_1] 35 (0, 0))) := ⟨by rw [hw_]; exact qF BK1111⟩
  replace BK1126 : Aside0 (w111.heap[gb1126]? = some (.cells #[.int .i64 t1122, .int .i64 t1123, .int .i64 t1124] 56 (0, 0))) := ⟨by rw [hw_]; exact qP BK1126⟩
  replace HB : Aside0 (Below w.heap.size w w111) := ⟨by rw [hw_]; exact qL HB⟩
  rw [← hw_]
  clear hw_
  replace BK1108 := az (blk_drew BK1108.out)
  replace BK1109 := az (blk_drew BK1109.out)
  replace BK1110 := az (blk_drew BK1110.out)
  replace BK1111 := az (blk_drew BK1111.out)
  replace BK1126 := az (blk_drew BK1126.out)
  replace HB := az (below_drew1 HB.out)
  refine start_ (n := 15) (S := fun w' => w'.cell? ⟨gb1108, 0, none⟩ = some (.int .i64 a0_0) ∧ w'.cell? ⟨gb1108, 1, none⟩ = some (.int .i64 a0_1) ∧ w'.cell? ⟨gb1108, 2, none⟩ = some (.int .i64 a0_2) ∧ w'.cell? ⟨gb1109, 0, none⟩ = some (.int .i64 a1_0) ∧ w'.cell? ⟨gb1109, 1, none⟩ = some (.int .i64 a1_1) ∧ w'.cell? ⟨gb1110, 0, none⟩ = some (.int .i64 a2_0) ∧ w'.cell? ⟨gb1110, 1, none⟩ = some (.int .i64 a2_1) ∧ w'.cell? ⟨gb1110, 2, none⟩ = some (.int .i64 a2_2) ∧ w'.cell? ⟨gb1111, 0, none⟩ = some (.int .i64 a3_0) ∧ w'.cell? ⟨gb1111, 1, none⟩ = some (.int .i64 a3_1)) (ds := []) #[false, false, false, false, false, false, false, false, false, false, false, false, false, false, false] (by kernel_rfl) rfl rfl ⟨bc BK1108 0, bc BK1108 1, bc BK1108 2, bc BK1109 0, bc BK1109 1, bc BK1110 0, bc BK1110 1, bc BK1110 2, bc BK1111 0, bc BK1111 1⟩ (fun hHeld => ?_); refine with_tabW laws_FnExactTouch.tab2 laws_FnExactTouch.bits2 (fun HT_ HW_ => ?_)
  generalize w111.drew = w112 at BK1108 BK1109 BK1110 BK1111 BK1126 HB hHeld ⊢
  refine tk10 0 (some 26) (fl 15 1) HT_ HW_ hHeld ?_
  refine tk10 2 (some 28) (fl 15 5) HT_ HW_ hHeld ?_
  refine tk10 4 (some 30) (fl 15 21) HT_ HW_ hHeld ?_
  refine tk10 6 (some 32) (fl 15 85) HT_ HW_ hHeld ?_
  refine join_ (σ := Nat) 2 (fl 15 8191) (fun s_ => [(27, .agg #[.int .i64 t1127, .int .i64 t1128, .int .i64 t1129]), (29, .agg #[.int .i64 t1130, .int .i64 t1131]), (31, .agg #[.int .i64 t1132, .int .i64 t1133, .int .i64 t1134]), (33, .agg #[.int .i64 t1135, .int .i64 t1136]), (34, .tuple #[.agg #[.int .i64 t1137, .int .i64 t1138, .int .i64 t1139], .bool t1140]), (11, .pointer (some ⟨s_, 0, none⟩)), (25, .tuple #[.agg #[.int .i64 t1137, .int .i64 t1138, .int .i64 t1139], .bool t1140]), (35, .agg #[.int .i64 t1137, .int .i64 t1138, .int .i64 t1139]), (36, .bool t1140)]) (fun s_ w' => (w'.cell? ⟨gb1108, 0, none⟩ = some (.int .i64 a0_0) ∧ w'.cell? ⟨gb1108, 1, none⟩ = some (.int .i64 a0_1) ∧ w'.cell? ⟨gb1108, 2, none⟩ = some (.int .i64 a0_2) ∧ w'.cell? ⟨gb1109, 0, none⟩ = some (.int .i64 a1_0) ∧ w'.cell? ⟨gb1109, 1, none⟩ = some (.int .i64 a1_1) ∧ w'.cell? ⟨gb1110, 0, none⟩ = some (.int .i64 a2_0) ∧ w'.cell? ⟨gb1110, 1, none⟩ = some (.int .i64 a2_1) ∧ w'.cell? ⟨gb1110, 2, none⟩ = some (.int .i64 a2_2) ∧ w'.cell? ⟨gb1111, 0, none⟩ = some (.int .i64 a3_0) ∧ w'.cell? ⟨gb1111, 1, none⟩ = some (.int .i64 a3_1)) ∧ (w'.heap[gb1108]? = some (.cells #[.int .i64 a0_0, .int .i64 a0_1, .int .i64 a0_2] 34 (0, 0))) ∧ (w'.heap[gb1109]? = some (.cells #[.int .i64 a1_0, .int .i64 a1_1] 35 (0, 0))) ∧ (w'.heap[gb1110]? = some (.cells #[.int .i64 a2_0, .int .i64 a2_1, .int .i64 a2_2] 34 (0, 0))) ∧ (w'.heap[gb1111]? = some (.cells #[.int .i64 a3_0, .int .i64 a3_1] 35 (0, 0))) ∧ (w'.heap[gb1126]? = some (.cells #[.int .i64 t1122, .int .i64 t1123, .int .i64 t1124] 56 (0, 0))) ∧ (w'.heap[s_]? = some (.cells #[.int .i64 0, .int .i64 0, .int .i64 0] 56 (0, 0))) ∧ (w.heap.size ≤ s_) ∧ (w.heap.size ≤ s_) ∧ (gb1108 ≠ s_) ∧ (s_ ≠ gb1108) ∧ (gb1109 ≠ s_) ∧ (s_ ≠ gb1109) ∧ (gb1110 ≠ s_) ∧ (s_ ≠ gb1110) ∧ (gb1111 ≠ s_) ∧ (s_ ≠ gb1111) ∧ (gb1126 ≠ s_) ∧ (s_ ≠ gb1126) ∧ (Below w.heap.size w w')) ?_ ?_
  rotate_left
  · intro hJ1_3_5_7_8_12
    refine join_ (σ := Unit) 3 (fl 15 4095) (fun s_ => [(27, .agg #[.int .i64 t1127, .int .i64 t1128, .int .i64 t1129]), (29, .agg #[.int .i64 t1130, .int .i64 t1131]), (31, .agg #[.int .i64 t1132, .int .i64 t1133, .int .i64 t1134]), (33, .agg #[.int .i64 t1135, .int .i64 t1136]), (34, .tuple #[.agg #[.int .i64 t1137, .int .i64 t1138, .int .i64 t1139], .bool t1140]), (25, .tuple #[.agg #[.int .i64 t1137, .int .i64 t1138, .int .i64 t1139], .bool t1140]), (35, .agg #[.int .i64 t1137, .int .i64 t1138, .int .i64 t1139]), (36, .bool t1140)]) (fun s_ w' => (w'.cell? ⟨gb1108, 0, none⟩ = some (.int .i64 a0_0) ∧ w'.cell? ⟨gb1108, 1, none⟩ = some (.int .i64 a0_1) ∧ w'.cell? ⟨gb1108, 2, none⟩ = some (.int .i64 a0_2) ∧ w'.cell? ⟨gb1109, 0, none⟩ = some (.int .i64 a1_0) ∧ w'.cell? ⟨gb1109, 1, none⟩ = some (.int .i64 a1_1) ∧ w'.cell? ⟨gb1110, 0, none⟩ = some (.int .i64 a2_0) ∧ w'.cell? ⟨gb1110, 1, none⟩ = some (.int .i64 a2_1) ∧ w'.cell? ⟨gb1110, 2, none⟩ = some (.int .i64 a2_2) ∧ w'.cell? ⟨gb1111, 0, none⟩ = some (.int .i64 a3_0) ∧ w'.cell? ⟨gb1111, 1, none⟩ = some (.int .i64 a3_1)) ∧ (w'.heap[gb1108]? = some (.cells #[.int .i64 a0_0, .int .i64 a0_1, .int .i64 a0_2] 34 (0, 0))) ∧ (w'.heap[gb1109]? = some (.cells #[.int .i64 a1_0, .int .i64 a1_1] 35 (0, 0))) ∧ (w'.heap[gb1110]? = some (.cells #[.int .i64 a2_0, .int .i64 a2_1, .int .i64 a2_2] 34 (0, 0))) ∧ (w'.heap[gb1111]? = some (.cells #[.int .i64 a3_0, .int .i64 a3_1] 35 (0, 0))) ∧ (w'.heap[gb1126]? = some (.cells #[.int .i64 t1122, .int .i64 t1123, .int .i64 t1124] 56 (0, 0))) ∧ (Below w.heap.size w w')) ?_ ?_
    rotate_left
    · intro hJ1_3_5_7_8
      refine join_ (σ := Nat) 6 (fl 15 4351) (fun s_ => [(27, .agg #[.int .i64 t1127, .int .i64 t1128, .int .i64 t1129]), (29, .agg #[.int .i64 t1130, .int .i64 t1131]), (31, .agg #[.int .i64 t1132, .int .i64 t1133, .int .i64 t1134]), (33, .agg #[.int .i64 t1135, .int .i64 t1136]), (11, .pointer (some ⟨s_, 0, none⟩))]) (fun s_ w' => (w'.cell? ⟨gb1108, 0, none⟩ = some (.int .i64 a0_0) ∧ w'.cell? ⟨gb1108, 1, none⟩ = some (.int .i64 a0_1) ∧ w'.cell? ⟨gb1108, 2, none⟩ = some (.int .i64 a0_2) ∧ w'.cell? ⟨gb1109, 0, none⟩ = some (.int .i64 a1_0) ∧ w'.cell? ⟨gb1109, 1, none⟩ = some (.int .i64 a1_1) ∧ w'.cell? ⟨gb1110, 0, none⟩ = some (.int .i64 a2_0) ∧ w'.cell? ⟨gb1110, 1, none⟩ = some (.int .i64 a2_1) ∧ w'.cell? ⟨gb1110, 2, none⟩ = some (.int .i64 a2_2) ∧ w'.cell? ⟨gb1111, 0, none⟩ = some (.int .i64 a3_0) ∧ w'.cell? ⟨gb1111, 1, none⟩ = some (.int .i64 a3_1)) ∧ (w'.heap[gb1108]? = some (.cells #[.int .i64 a0_0, .int .i64 a0_1, .int .i64 a0_2] 34 (0, 0))) ∧ (w'.heap[gb1109]? = some (.cells #[.int .i64 a1_0, .int .i64 a1_1] 35 (0, 0))) ∧ (w'.heap[gb1110]? = some (.cells #[.int .i64 a2_0, .int .i64 a2_1, .int .i64 a2_2] 34 (0, 0))) ∧ (w'.heap[gb1111]? = some (.cells #[.int .i64 a3_0, .int .i64 a3_1] 35 (0, 0))) ∧ (w'.heap[gb1126]? = some (.cells #[.int .i64 t1122, .int .i64 t1123, .int .i64 t1124] 56 (0, 0))) ∧ (w'.heap[s_]? = some (.cells #[.int .i64 0, .int .i64 0, .int .i64 0] 56 (0, 0))) ∧ (w.heap.size ≤ s_) ∧ (w.heap.size ≤ s_) ∧ (gb1108 ≠ s_) ∧ (s_ ≠ gb1108) ∧ (gb1109 ≠ s_) ∧ (s_ ≠ gb1109) ∧ (gb1110 ≠ s_) ∧ (s_ ≠ gb1110) ∧ (gb1111 ≠ s_) ∧ (s_ ≠ gb1111) ∧ (gb1126 ≠ s_) ∧ (s_ ≠ gb1126) ∧ (Below w.heap.size w w')) ?_ ?_
      rotate_left
      · intro hJ1_3_5_7_12
        refine join_ (σ := Unit) 7 (fl 15 255) (fun s_ => [(27, .agg #[.int .i64 t1127, .int .i64 t1128, .int .i64 t1129]), (29, .agg #[.int .i64 t1130, .int .i64 t1131]), (31, .agg #[.int .i64 t1132, .int .i64 t1133, .int .i64 t1134]), (33, .agg #[.int .i64 t1135, .int .i64 t1136])]) (fun s_ w' => (w'.cell? ⟨gb1108, 0, none⟩ = some (.int .i64 a0_0) ∧ w'.cell? ⟨gb1108, 1, none⟩ = some (.int .i64 a0_1) ∧ w'.cell? ⟨gb1108, 2, none⟩ = some (.int .i64 a0_2) ∧ w'.cell? ⟨gb1109, 0, none⟩ = some (.int .i64 a1_0) ∧ w'.cell? ⟨gb1109, 1, none⟩ = some (.int .i64 a1_1) ∧ w'.cell? ⟨gb1110, 0, none⟩ = some (.int .i64 a2_0) ∧ w'.cell? ⟨gb1110, 1, none⟩ = some (.int .i64 a2_1) ∧ w'.cell? ⟨gb1110, 2, none⟩ = some (.int .i64 a2_2) ∧ w'.cell? ⟨gb1111, 0, none⟩ = some (.int .i64 a3_0) ∧ w'.cell? ⟨gb1111, 1, none⟩ = some (.int .i64 a3_1)) ∧ (w'.heap[gb1108]? = some (.cells #[.int .i64 a0_0, .int .i64 a0_1, .int .i64 a0_2] 34 (0, 0))) ∧ (w'.heap[gb1109]? = some (.cells #[.int .i64 a1_0, .int .i64 a1_1] 35 (0, 0))) ∧ (w'.heap[gb1110]? = some (.cells #[.int .i64 a2_0, .int .i64 a2_1, .int .i64 a2_2] 34 (0, 0))) ∧ (w'.heap[gb1111]? = some (.cells #[.int .i64 a3_0, .int .i64 a3_1] 35 (0, 0))) ∧ (w'.heap[gb1126]? = some (.cells #[.int .i64 t1122, .int .i64 t1123, .int .i64 t1124] 56 (0, 0))) ∧ (Below w.heap.size w w')) ?_ ?_
        rotate_left
        · intro hJ1_3_5_7
          refine join_ (σ := Nat) 7 (fl 15 4223) (fun s_ => [(27, .agg #[.int .i64 t1127, .int .i64 t1128, .int .i64 t1129]), (29, .agg #[.int .i64 t1130, .int .i64 t1131]), (31, .agg #[.int .i64 t1132, .int .i64 t1133, .int .i64 t1134]), (11, .pointer (some ⟨s_, 0, none⟩))]) (fun s_ w' => (w'.cell? ⟨gb1108, 0, none⟩ = some (.int .i64 a0_0) ∧ w'.cell? ⟨gb1108, 1, none⟩ = some (.int .i64 a0_1) ∧ w'.cell? ⟨gb1108, 2, none⟩ = some (.int .i64 a0_2) ∧ w'.cell? ⟨gb1109, 0, none⟩ = some (.int .i64 a1_0) ∧ w'.cell? ⟨gb1109, 1, none⟩ = some (.int .i64 a1_1) ∧ w'.cell? ⟨gb1110, 0, none⟩ = some (.int .i64 a2_0) ∧ w'.cell? ⟨gb1110, 1, none⟩ = some (.int .i64 a2_1) ∧ w'.cell? ⟨gb1110, 2, none⟩ = some (.int .i64 a2_2) ∧ w'.cell? ⟨gb1111, 0, none⟩ = some (.int .i64 a3_0) ∧ w'.cell? ⟨gb1111, 1, none⟩ = some (.int .i64 a3_1)) ∧ (w'.heap[gb1108]? = some (.cells #[.int .i64 a0_0, .int .i64 a0_1, .int .i64 a0_2] 34 (0, 0))) ∧ (w'.heap[gb1109]? = some (.cells #[.int .i64 a1_0, .int .i64 a1_1] 35 (0, 0))) ∧ (w'.heap[gb1110]? = some (.cells #[.int .i64 a2_0, .int .i64 a2_1, .int .i64 a2_2] 34 (0, 0))) ∧ (w'.heap[gb1111]? = some (.cells #[.int .i64 a3_0, .int .i64 a3_1] 35 (0, 0))) ∧ (w'.heap[gb1126]? = some (.cells #[.int .i64 t1122, .int .i64 t1123, .int .i64 t1124] 56 (0, 0))) ∧ (w'.heap[s_]? = some (.cells #[.int .i64 0, .int .i64 0, .int .i64 0] 56 (0, 0))) ∧ (w.heap.size ≤ s_) ∧ (w.heap.size ≤ s_) ∧ (gb1108 ≠ s_) ∧ (s_ ≠ gb1108) ∧ (gb1109 ≠ s_) ∧ (s_ ≠ gb1109) ∧ (gb1110 ≠ s_) ∧ (s_ ≠ gb1110) ∧ (gb1111 ≠ s_) ∧ (s_ ≠ gb1111) ∧ (gb1126 ≠ s_) ∧ (s_ ≠ gb1126) ∧ (Below w.heap.size w w')) ?_ ?_
          rotate_left
          · intro hJ1_3_5_12
            refine join_ (σ := Unit) 8 (fl 15 127) (fun s_ => [(27, .agg #[.int .i64 t1127, .int .i64 t1128, .int .i64 t1129]), (29, .agg #[.int .i64 t1130, .int .i64 t1131]), (31, .agg #[.int .i64 t1132, .int .i64 t1133, .int .i64 t1134])]) (fun s_ w' => (w'.cell? ⟨gb1108, 0, none⟩ = some (.int .i64 a0_0) ∧ w'.cell? ⟨gb1108, 1, none⟩ = some (.int .i64 a0_1) ∧ w'.cell? ⟨gb1108, 2, none⟩ = some (.int .i64 a0_2) ∧ w'.cell? ⟨gb1109, 0, none⟩ = some (.int .i64 a1_0) ∧ w'.cell? ⟨gb1109, 1, none⟩ = some (.int .i64 a1_1) ∧ w'.cell? ⟨gb1110, 0, none⟩ = some (.int .i64 a2_0) ∧ w'.cell? ⟨gb1110, 1, none⟩ = some (.int .i64 a2_1) ∧ w'.cell? ⟨gb1110, 2, none⟩ = some (.int .i64 a2_2) ∧ w'.cell? ⟨gb1111, 0, none⟩ = some (.int .i64 a3_0) ∧ w'.cell? ⟨gb1111, 1, none⟩ = some (.int .i64 a3_1)) ∧ (w'.heap[gb1108]? = some (.cells #[.int .i64 a0_0, .int .i64 a0_1, .int .i64 a0_2] 34 (0, 0))) ∧ (w'.heap[gb1109]? = some (.cells #[.int .i64 a1_0, .int .i64 a1_1] 35 (0, 0))) ∧ (w'.heap[gb1110]? = some (.cells #[.int .i64 a2_0, .int .i64 a2_1, .int .i64 a2_2] 34 (0, 0))) ∧ (w'.heap[gb1111]? = some (.cells #[.int .i64 a3_0, .int .i64 a3_1] 35 (0, 0))) ∧ (w'.heap[gb1126]? = some (.cells #[.int .i64 t1122, .int .i64 t1123, .int .i64 t1124] 56 (0, 0))) ∧ (Below w.heap.size w w')) ?_ ?_
            rotate_left
            · intro hJ1_3_5
              refine join_ (σ := Nat) 8 (fl 15 4191) (fun s_ => [(27, .agg #[.int .i64 t1127, .int .i64 t1128, .int .i64 t1129]), (29, .agg #[.int .i64 t1130, .int .i64 t1131]), (11, .pointer (some ⟨s_, 0, none⟩))]) (fun s_ w' => (w'.cell? ⟨gb1108, 0, none⟩ = some (.int .i64 a0_0) ∧ w'.cell? ⟨gb1108, 1, none⟩ = some (.int .i64 a0_1) ∧ w'.cell? ⟨gb1108, 2, none⟩ = some (.int .i64 a0_2) ∧ w'.cell? ⟨gb1109, 0, none⟩ = some (.int .i64 a1_0) ∧ w'.cell? ⟨gb1109, 1, none⟩ = some (.int .i64 a1_1) ∧ w'.cell? ⟨gb1110, 0, none⟩ = some (.int .i64 a2_0) ∧ w'.cell? ⟨gb1110, 1, none⟩ = some (.int .i64 a2_1) ∧ w'.cell? ⟨gb1110, 2, none⟩ = some (.int .i64 a2_2) ∧ w'.cell? ⟨gb1111, 0, none⟩ = some (.int .i64 a3_0) ∧ w'.cell? ⟨gb1111, 1, none⟩ = some (.int .i64 a3_1)) ∧ (w'.heap[gb1108]? = some (.cells #[.int .i64 a0_0, .int .i64 a0_1, .int .i64 a0_2] 34 (0, 0))) ∧ (w'.heap[gb1109]? = some (.cells #[.int .i64 a1_0, .int .i64 a1_1] 35 (0, 0))) ∧ (w'.heap[gb1110]? = some (.cells #[.int .i64 a2_0, .int .i64 a2_1, .int .i64 a2_2] 34 (0, 0))) ∧ (w'.heap[gb1111]? = some (.cells #[.int .i64 a3_0, .int .i64 a3_1] 35 (0, 0))) ∧ (w'.heap[gb1126]? = some (.cells #[.int .i64 t1122, .int .i64 t1123, .int .i64 t1124] 56 (0, 0))) ∧ (w'.heap[s_]? = some (.cells #[.int .i64 0, .int .i64 0, .int .i64 0] 56 (0, 0))) ∧ (w.heap.size ≤ s_) ∧ (w.heap.size ≤ s_) ∧ (gb1108 ≠ s_) ∧ (s_ ≠ gb1108) ∧ (gb1109 ≠ s_) ∧ (s_ ≠ gb1109) ∧ (gb1110 ≠ s_) ∧ (s_ ≠ gb1110) ∧ (gb1111 ≠ s_) ∧ (s_ ≠ gb1111) ∧ (gb1126 ≠ s_) ∧ (s_ ≠ gb1126) ∧ (Below w.heap.size w w')) ?_ ?_
              rotate_left
              · intro hJ1_3_12
                refine join_ (σ := Unit) 9 (fl 15 95) (fun s_ => [(27, .agg #[.int .i64 t1127, .int .i64 t1128, .int .i64 t1129]), (29, .agg #[.int .i64 t1130, .int .i64 t1131])]) (fun s_ w' => (w'.cell? ⟨gb1108, 0, none⟩ = some (.int .i64 a0_0) ∧ w'.cell? ⟨gb1108, 1, none⟩ = some (.int .i64 a0_1) ∧ w'.cell? ⟨gb1108, 2, none⟩ = some (.int .i64 a0_2) ∧ w'.cell? ⟨gb1109, 0, none⟩ = some (.int .i64 a1_0) ∧ w'.cell? ⟨gb1109, 1, none⟩ = some (.int .i64 a1_1) ∧ w'.cell? ⟨gb1110, 0, none⟩ = some (.int .i64 a2_0) ∧ w'.cell? ⟨gb1110, 1, none⟩ = some (.int .i64 a2_1) ∧ w'.cell? ⟨gb1110, 2, none⟩ = some (.int .i64 a2_2) ∧ w'.cell? ⟨gb1111, 0, none⟩ = some (.int .i64 a3_0) ∧ w'.cell? ⟨gb1111, 1, none⟩ = some (.int .i64 a3_1)) ∧ (w'.heap[gb1108]? = some (.cells #[.int .i64 a0_0, .int .i64 a0_1, .int .i64 a0_2] 34 (0, 0))) ∧ (w'.heap[gb1109]? = some (.cells #[.int .i64 a1_0, .int .i64 a1_1] 35 (0, 0))) ∧ (w'.heap[gb1110]? = some (.cells #[.int .i64 a2_0, .int .i64 a2_1, .int .i64 a2_2] 34 (0, 0))) ∧ (w'.heap[gb1111]? = some (.cells #[.int .i64 a3_0, .int .i64 a3_1] 35 (0, 0))) ∧ (w'.heap[gb1126]? = some (.cells #[.int .i64 t1122, .int .i64 t1123, .int .i64 t1124] 56 (0, 0))) ∧ (Below w.heap.size w w')) ?_ ?_
                rotate_left
                · intro hJ1_3
                  refine join_ (σ := Nat) 9 (fl 15 4183) (fun s_ => [(27, .agg #[.int .i64 t1127, .int .i64 t1128, .int .i64 t1129]), (11, .pointer (some ⟨s_, 0, none⟩))]) (fun s_ w' => (w'.cell? ⟨gb1108, 0, none⟩ = some (.int .i64 a0_0) ∧ w'.cell? ⟨gb1108, 1, none⟩ = some (.int .i64 a0_1) ∧ w'.cell? ⟨gb1108, 2, none⟩ = some (.int .i64 a0_2) ∧ w'.cell? ⟨gb1109, 0, none⟩ = some (.int .i64 a1_0) ∧ w'.cell? ⟨gb1109, 1, none⟩ = some (.int .i64 a1_1) ∧ w'.cell? ⟨gb1110, 0, none⟩ = some (.int .i64 a2_0) ∧ w'.cell? ⟨gb1110, 1, none⟩ = some (.int .i64 a2_1) ∧ w'.cell? ⟨gb1110, 2, none⟩ = some (.int .i64 a2_2) ∧ w'.cell? ⟨gb1111, 0, none⟩ = some (.int .i64 a3_0) ∧ w'.cell? ⟨gb1111, 1, none⟩ = some (.int .i64 a3_1)) ∧ (w'.heap[gb1108]? = some (.cells #[.int .i64 a0_0, .int .i64 a0_1, .int .i64 a0_2] 34 (0, 0))) ∧ (w'.heap[gb1109]? = some (.cells #[.int .i64 a1_0, .int .i64 a1_1] 35 (0, 0))) ∧ (w'.heap[gb1110]? = some (.cells #[.int .i64 a2_0, .int .i64 a2_1, .int .i64 a2_2] 34 (0, 0))) ∧ (w'.heap[gb1111]? = some (.cells #[.int .i64 a3_0, .int .i64 a3_1] 35 (0, 0))) ∧ (w'.heap[gb1126]? = some (.cells #[.int .i64 t1122, .int .i64 t1123, .int .i64 t1124] 56 (0, 0))) ∧ (w'.heap[s_]? = some (.cells #[.int .i64 0, .int .i64 0, .int .i64 0] 56 (0, 0))) ∧ (w.heap.size ≤ s_) ∧ (w.heap.size ≤ s_) ∧ (gb1108 ≠ s_) ∧ (s_ ≠ gb1108) ∧ (gb1109 ≠ s_) ∧ (s_ ≠ gb1109) ∧ (gb1110 ≠ s_) ∧ (s_ ≠ gb1110) ∧ (gb1111 ≠ s_) ∧ (s_ ≠ gb1111) ∧ (gb1126 ≠ s_) ∧ (s_ ≠ gb1126) ∧ (Below w.heap.size w w')) ?_ ?_
                  rotate_left
                  · intro hJ1_12
                    refine join_ (σ := Unit) 10 (fl 15 87) (fun s_ => [(27, .agg #[.int .i64 t1127, .int .i64 t1128, .int .i64 t1129])]) (fun s_ w' => (w'.cell? ⟨gb1108, 0, none⟩ = some (.int .i64 a0_0) ∧ w'.cell? ⟨gb1108, 1, none⟩ = some (.int .i64 a0_1) ∧ w'.cell? ⟨gb1108, 2, none⟩ = some (.int .i64 a0_2) ∧ w'.cell? ⟨gb1109, 0, none⟩ = some (.int .i64 a1_0) ∧ w'.cell? ⟨gb1109, 1, none⟩ = some (.int .i64 a1_1) ∧ w'.cell? ⟨gb1110, 0, none⟩ = some (.int .i64 a2_0) ∧ w'.cell? ⟨gb1110, 1, none⟩ = some (.int .i64 a2_1) ∧ w'.cell? ⟨gb1110, 2, none⟩ = some (.int .i64 a2_2) ∧ w'.cell? ⟨gb1111, 0, none⟩ = some (.int .i64 a3_0) ∧ w'.cell? ⟨gb1111, 1, none⟩ = some (.int .i64 a3_1)) ∧ (w'.heap[gb1108]? = some (.cells #[.int .i64 a0_0, .int .i64 a0_1, .int .i64 a0_2] 34 (0, 0))) ∧ (w'.heap[gb1109]? = some (.cells #[.int .i64 a1_0, .int .i64 a1_1] 35 (0, 0))) ∧ (w'.heap[gb1110]? = some (.cells #[.int .i64 a2_0, .int .i64 a2_1, .int .i64 a2_2] 34 (0, 0))) ∧ (w'.heap[gb1111]? = some (.cells #[.int .i64 a3_0, .int .i64 a3_1] 35 (0, 0))) ∧ (w'.heap[gb1126]? = some (.cells #[.int .i64 t1122, .int .i64 t1123, .int .i64 t1124] 56 (0, 0))) ∧ (Below w.heap.size w w')) ?_ ?_
                    rotate_left
                    · intro hJ1
                      refine join_ (σ := Nat) 10 (fl 15 4181) (fun s_ => [(11, .pointer (some ⟨s_, 0, none⟩))]) (fun s_ w' => (w'.cell? ⟨gb1108, 0, none⟩ = some (.int .i64 a0_0) ∧ w'.cell? ⟨gb1108, 1, none⟩ = some (.int .i64 a0_1) ∧ w'.cell? ⟨gb1108, 2, none⟩ = some (.int .i64 a0_2) ∧ w'.cell? ⟨gb1109, 0, none⟩ = some (.int .i64 a1_0) ∧ w'.cell? ⟨gb1109, 1, none⟩ = some (.int .i64 a1_1) ∧ w'.cell? ⟨gb1110, 0, none⟩ = some (.int .i64 a2_0) ∧ w'.cell? ⟨gb1110, 1, none⟩ = some (.int .i64 a2_1) ∧ w'.cell? ⟨gb1110, 2, none⟩ = some (.int .i64 a2_2) ∧ w'.cell? ⟨gb1111, 0, none⟩ = some (.int .i64 a3_0) ∧ w'.cell? ⟨gb1111, 1, none⟩ = some (.int .i64 a3_1)) ∧ (w'.heap[gb1108]? = some (.cells #[.int .i64 a0_0, .int .i64 a0_1, .int .i64 a0_2] 34 (0, 0))) ∧ (w'.heap[gb1109]? = some (.cells #[.int .i64 a1_0, .int .i64 a1_1] 35 (0, 0))) ∧ (w'.heap[gb1110]? = some (.cells #[.int .i64 a2_0, .int .i64 a2_1, .int .i64 a2_2] 34 (0, 0))) ∧ (w'.heap[gb1111]? = some (.cells #[.int .i64 a3_0, .int .i64 a3_1] 35 (0, 0))) ∧ (w'.heap[gb1126]? = some (.cells #[.int .i64 t1122, .int .i64 t1123, .int .i64 t1124] 56 (0, 0))) ∧ (w'.heap[s_]? = some (.cells #[.int .i64 0, .int .i64 0, .int .i64 0] 56 (0, 0))) ∧ (w.heap.size ≤ s_) ∧ (w.heap.size ≤ s_) ∧ (gb1108 ≠ s_) ∧ (s_ ≠ gb1108) ∧ (gb1109 ≠ s_) ∧ (s_ ≠ gb1109) ∧ (gb1110 ≠ s_) ∧ (s_ ≠ gb1110) ∧ (gb1111 ≠ s_) ∧ (s_ ≠ gb1111) ∧ (gb1126 ≠ s_) ∧ (s_ ≠ gb1126) ∧ (Below w.heap.size w w')) ?_ ?_
                      rotate_left
                      · intro hJ12
                        refine two_ (i := 1) (j := 12) (Ni := some 27) (Nj := some 11) (fl 15 87) (fl 15 4181) rfl rfl rfl rfl (two_of HT_.out (by kernel_rfl)) (by decide) (by decide) (fun K hK => ?_) (fun K hK => ?_)
                        · skip
                          refine go1 Try.func34 #[.agg #[.int .i64 a0_0, .int .i64 a0_1, .int .i64 a0_2]] ?_
                          with_reducible refine (laws_toShape.calls a0_0 a0_1 a0_2 t1127 t1128 t1129 _ A10.out).mono ?_
                          rintro e w113 ⟨rfl, hb⟩
                          refine ⟨_, rfl, ?_⟩
                          replace BK1108 := kBB BK1108 hb
                          replace BK1109 := kBB BK1109 hb
                          replace BK1110 := kBB BK1110 hb
                          replace BK1111 := kBB BK1111 hb
                          replace BK1126 := kBB BK1126 hb
                          replace HB := bS HB hb
                          clear hb
                          refine hK.out _ _ ⟨bc BK1108 0, bc BK1108 1, bc BK1108 2, bc BK1109 0, bc BK1109 1, bc BK1110 0, bc BK1110 1, bc BK1110 2, bc BK1111 0, bc BK1111 1⟩ (fun hHeld => ?_)
                          clear hK K
                          refine nm (some 27) ?_
                          exact nrm (hJ1 () _ ⟨hHeld, (qB BK1108), (qB BK1109), (qB BK1110), (qB BK1111), (qB BK1126), (qL HB)⟩)
                        skip
                        refine box_step ?hg (N := 11) ?hd (cs := #[.int .i64 0, .int .i64 0, .int .i64 0]) (t := 56) ?hr ?_; (case hd => rfl); (case hg => rfl); (case hr => first | (go_simp; done) | (go_simp; rfl))
                        intro gb1141 hg w113 hbox hb
                        have BK1141 := az hbox
                        have GW1141 := az ((gE hg (qL HB) : w.heap.size ≤ gb1141))
                        have GE1141 := GW1141
                        obtain ⟨NB1108_1141, NB1141_1108⟩ := nPB BK1108 hg
                        obtain ⟨NB1109_1141, NB1141_1109⟩ := nPB BK1109 hg
                        obtain ⟨NB1110_1141, NB1141_1110⟩ := nPB BK1110 hg
                        obtain ⟨NB1111_1141, NB1141_1111⟩ := nPB BK1111 hg
                        obtain ⟨NB1126_1141, NB1141_1126⟩ := nPB BK1126 hg
                        replace BK1108 := kBB BK1108 hb
                        replace BK1109 := kBB BK1109 hb
                        replace BK1110 := kBB BK1110 hb
                        replace BK1111 := kBB BK1111 hb
                        replace BK1126 := kBB BK1126 hb
                        replace HB := bS HB hb
                        clear hb hbox hg
                        refine hK.out _ _ ⟨bc BK1108 0, bc BK1108 1, bc BK1108 2, bc BK1109 0, bc BK1109 1, bc BK1110 0, bc BK1110 1, bc BK1110 2, bc BK1111 0, bc BK1111 1⟩ (fun hHeld => ?_)
                        clear hK K
                        refine nm (some 11) ?_
                        exact nrm (hJ12 (gb1141) _ ⟨hHeld, (qB BK1108), (qB BK1109), (qB BK1110), (qB BK1111), (qB BK1126), (qB BK1141), GW1141.out, GE1141.out, NB1108_1141.out, NB1141_1108.out, NB1109_1141.out, NB1141_1109.out, NB1110_1141.out, NB1141_1110.out, NB1111_1141.out, NB1141_1111.out, NB1126_1141.out, NB1141_1126.out, (qL HB)⟩)
                      skip
                      rintro gb1141 w114 ⟨hS_, h0_, h1_, h2_, h3_, h4_, h5_, h6_, h7_, h8_, h9_, h10_, h11_, h12_, h13_, h14_, h15_, h16_, h17_, h18_⟩
                      have BK1141 := az h5_
                      have GW1141 := az h6_
                      have GE1141 := az h7_
                      have NB1108_1141 := az h8_
                      have NB1141_1108 := az h9_
                      have NB1109_1141 := az h10_
                      have NB1141_1109 := az h11_
                      have NB1110_1141 := az h12_
                      have NB1141_1110 := az h13_
                      have NB1111_1141 := az h14_
                      have NB1141_1111 := az h15_
                      have NB1126_1141 := az h16_
                      have NB1141_1126 := az h17_
                      replace BK1108 := az h0_
                      replace BK1109 := az h1_
                      replace BK1110 := az h2_
                      replace BK1111 := az h3_
                      replace BK1126 := az h4_
                      replace HB := az h18_
                      clear h0_ h1_ h2_ h3_ h4_ h5_ h6_ h7_ h8_ h9_ h10_ h11_ h12_ h13_ h14_ h15_ h16_ h17_ h18_
                      have hHeld := hS_
                      refine nmp ?_
                      refine on 1 (some 27) (fl 15 4183) HT_ (fun K hK => ?_)
                      refine go1 Try.func34 #[.agg #[.int .i64 a0_0, .int .i64 a0_1, .int .i64 a0_2]] ?_
                      with_reducible refine (laws_toShape.calls a0_0 a0_1 a0_2 t1127 t1128 t1129 _ A10.out).mono ?_
                      rintro e w115 ⟨rfl, hb⟩
                      refine ⟨_, rfl, ?_⟩
                      replace BK1108 := kBB BK1108 hb
                      replace BK1109 := kBB BK1109 hb
                      replace BK1110 := kBB BK1110 hb
                      replace BK1111 := kBB BK1111 hb
                      replace BK1126 := kBB BK1126 hb
                      replace BK1141 := kBB BK1141 hb
                      replace HB := bS HB hb
                      clear hb
                      refine hK.out _ _ ⟨bc BK1108 0, bc BK1108 1, bc BK1108 2, bc BK1109 0, bc BK1109 1, bc BK1110 0, bc BK1110 1, bc BK1110 2, bc BK1111 0, bc BK1111 1⟩ (fun hHeld => ?_)
                      clear hK K
                      refine nm (some 27) ?_
                      exact nrm (hJ1_12 (gb1141) _ ⟨hHeld, (qB BK1108), (qB BK1109), (qB BK1110), (qB BK1111), (qB BK1126), (qB BK1141), GW1141.out, GE1141.out, NB1108_1141.out, NB1141_1108.out, NB1109_1141.out, NB1141_1109.out, NB1110_1141.out, NB1141_1110.out, NB1111_1141.out, NB1141_1111.out, NB1126_1141.out, NB1141_1126.out, (qL HB)⟩)
                    skip
                    rintro _ w114 ⟨hS_, h0_, h1_, h2_, h3_, h4_, h5_⟩
                    replace BK1108 := az h0_
                    replace BK1109 := az h1_
                    replace BK1110 := az h2_
                    replace BK1111 := az h3_
                    replace BK1126 := az h4_
                    replace HB := az h5_
                    clear h0_ h1_ h2_ h3_ h4_ h5_
                    have hHeld := hS_
                    refine nmp ?_
                    refine two_ (i := 3) (j := 12) (Ni := some 29) (Nj := some 11) (fl 15 95) (fl 15 4183) rfl rfl rfl rfl (two_of HT_.out (by kernel_rfl)) (by decide) (by decide) (fun K hK => ?_) (fun K hK => ?_)
                    · skip
                      refine go1 Try.func20 #[.agg #[.int .i64 a1_0, .int .i64 a1_1]] ?_
                      with_reducible refine (laws_toVec.calls a1_0 a1_1 t1130 t1131 _ A11.out).mono ?_
                      rintro e w115 ⟨rfl, hb⟩
                      refine ⟨_, rfl, ?_⟩
                      replace BK1108 := kBB BK1108 hb
                      replace BK1109 := kBB BK1109 hb
                      replace BK1110 := kBB BK1110 hb
                      replace BK1111 := kBB BK1111 hb
                      replace BK1126 := kBB BK1126 hb
                      replace HB := bS HB hb
                      clear hb
                      refine hK.out _ _ ⟨bc BK1108 0, bc BK1108 1, bc BK1108 2, bc BK1109 0, bc BK1109 1, bc BK1110 0, bc BK1110 1, bc BK1110 2, bc BK1111 0, bc BK1111 1⟩ (fun hHeld => ?_)
                      clear hK K
                      refine nm (some 29) ?_
                      exact nrm (hJ1_3 () _ ⟨hHeld, (qB BK1108), (qB BK1109), (qB BK1110), (qB BK1111), (qB BK1126), (qL HB)⟩)
                    skip
                    refine box_step ?hg (N := 11) ?hd (cs := #[.int .i64 0, .int .i64 0, .int .i64 0]) (t := 56) ?hr ?_; (case hd => rfl); (case hg => rfl); (case hr => first | (go_simp; done) | (go_simp; rfl))
                    intro gb1141 hg w115 hbox hb
                    have BK1141 := az hbox
                    have GW1141 := az ((gE hg (qL HB) : w.heap.size ≤ gb1141))
                    have GE1141 := GW1141
                    obtain ⟨NB1108_1141, NB1141_1108⟩ := nPB BK1108 hg
                    obtain ⟨NB1109_1141, NB1141_1109⟩ := nPB BK1109 hg
                    obtain ⟨NB1110_1141, NB1141_1110⟩ := nPB BK1110 hg
                    obtain ⟨NB1111_1141, NB1141_1111⟩ := nPB BK1111 hg
                    obtain ⟨NB1126_1141, NB1141_1126⟩ := nPB BK1126 hg
                    replace BK1108 := kBB BK1108 hb
                    replace BK1109 := kBB BK1109 hb
                    replace BK1110 := kBB BK1110 hb
                    replace BK1111 := kBB BK1111 hb
                    replace BK1126 := kBB BK1126 hb
                    replace HB := bS HB hb
                    clear hb hbox hg
                    refine hK.out _ _ ⟨bc BK1108 0, bc BK1108 1, bc BK1108 2, bc BK1109 0, bc BK1109 1, bc BK1110 0, bc BK1110 1, bc BK1110 2, bc BK1111 0, bc BK1111 1⟩ (fun hHeld => ?_)
                    clear hK K
                    refine nm (some 11) ?_
                    exact nrm (hJ1_12 (gb1141) _ ⟨hHeld, (qB BK1108), (qB BK1109), (qB BK1110), (qB BK1111), (qB BK1126), (qB BK1141), GW1141.out, GE1141.out, NB1108_1141.out, NB1141_1108.out, NB1109_1141.out, NB1141_1109.out, NB1110_1141.out, NB1141_1110.out, NB1111_1141.out, NB1141_1111.out, NB1126_1141.out, NB1141_1126.out, (qL HB)⟩)
                  skip
                  rintro gb1141 w115 ⟨hS_, h0_, h1_, h2_, h3_, h4_, h5_, h6_, h7_, h8_, h9_, h10_, h11_, h12_, h13_, h14_, h15_, h16_, h17_, h18_⟩
                  have BK1141 := az h5_
                  have GW1141 := az h6_
                  have GE1141 := az h7_
                  have NB1108_1141 := az h8_
                  have NB1141_1108 := az h9_
                  have NB1109_1141 := az h10_
                  have NB1141_1109 := az h11_
                  have NB1110_1141 := az h12_
                  have NB1141_1110 := az h13_
                  have NB1111_1141 := az h14_
                  have NB1141_1111 := az h15_
                  have NB1126_1141 := az h16_
                  have NB1141_1126 := az h17_
                  replace BK1108 := az h0_
                  replace BK1109 := az h1_
                  replace BK1110 := az h2_
                  replace BK1111 := az h3_
                  replace BK1126 := az h4_
                  replace HB := az h18_
                  clear h0_ h1_ h2_ h3_ h4_ h5_ h6_ h7_ h8_ h9_ h10_ h11_ h12_ h13_ h14_ h15_ h16_ h17_ h18_
                  have hHeld := hS_
                  refine nmp ?_
                  refine on 3 (some 29) (fl 15 4191) HT_ (fun K hK => ?_)
                  refine go1 Try.func20 #[.agg #[.int .i64 a1_0, .int .i64 a1_1]] ?_
                  with_reducible refine (laws_toVec.calls a1_0 a1_1 t1130 t1131 _ A11.out).mono ?_
                  rintro e w116 ⟨rfl, hb⟩
                  refine ⟨_, rfl, ?_⟩
                  replace BK1108 := kBB BK1108 hb
                  replace BK1109 := kBB BK1109 hb
                  replace BK1110 := kBB BK1110 hb
                  replace BK1111 := kBB BK1111 hb
                  replace BK1126 := kBB BK1126 hb
                  replace BK1141 := kBB BK1141 hb
                  replace HB := bS HB hb
                  clear hb
                  refine hK.out _ _ ⟨bc BK1108 0, bc BK1108 1, bc BK1108 2, bc BK1109 0, bc BK1109 1, bc BK1110 0, bc BK1110 1, bc BK1110 2, bc BK1111 0, bc BK1111 1⟩ (fun hHeld => ?_)
                  clear hK K
                  refine nm (some 29) ?_
                  exact nrm (hJ1_3_12 (gb1141) _ ⟨hHeld, (qB BK1108), (qB BK1109), (qB BK1110), (qB BK1111), (qB BK1126), (qB BK1141), GW1141.out, GE1141.out, NB1108_1141.out, NB1141_1108.out, NB1109_1141.out, NB1141_1109.out, NB1110_1141.out, NB1141_1110.out, NB1111_1141.out, NB1141_1111.out, NB1126_1141.out, NB1141_1126.out, (qL HB)⟩)
                skip
                rintro _ w115 ⟨hS_, h0_, h1_, h2_, h3_, h4_, h5_⟩
                replace BK1108 := az h0_
                replace BK1109 := az h1_
                replace BK1110 := az h2_
                replace BK1111 := az h3_
                replace BK1126 := az h4_
                replace HB := az h5_
                clear h0_ h1_ h2_ h3_ h4_ h5_
                have hHeld := hS_
                refine nmp ?_
                refine two_ (i := 5) (j := 12) (Ni := some 31) (Nj := some 11) (fl 15 127) (fl 15 4191) rfl rfl rfl rfl (two_of HT_.out (by kernel_rfl)) (by decide) (by decide) (fun K hK => ?_) (fun K hK => ?_)
                · skip
                  refine go1 Try.func34 #[.agg #[.int .i64 a2_0, .int .i64 a2_1, .int .i64 a2_2]] ?_
                  with_reducible refine (laws_toShape.calls a2_0 a2_1 a2_2 t1132 t1133 t1134 _ A12.out).mono ?_
                  rintro e w116 ⟨rfl, hb⟩
                  refine ⟨_, rfl, ?_⟩
                  replace BK1108 := kBB BK1108 hb
                  replace BK1109 := kBB BK1109 hb
                  replace BK1110 := kBB BK1110 hb
                  replace BK1111 := kBB BK1111 hb
                  replace BK1126 := kBB BK1126 hb
                  replace HB := bS HB hb
                  clear hb
                  refine hK.out _ _ ⟨bc BK1108 0, bc BK1108 1, bc BK1108 2, bc BK1109 0, bc BK1109 1, bc BK1110 0, bc BK1110 1, bc BK1110 2, bc BK1111 0, bc BK1111 1⟩ (fun hHeld => ?_)
                  clear hK K
                  refine nm (some 31) ?_
                  exact nrm (hJ1_3_5 () _ ⟨hHeld, (qB BK1108), (qB BK1109), (qB BK1110), (qB BK1111), (qB BK1126), (qL HB)⟩)
                skip
                refine box_step ?hg (N := 11) ?hd (cs := #[.int .i64 0, .int .i64 0, .int .i64 0]) (t := 56) ?hr ?_; (case hd => rfl); (case hg => rfl); (case hr => first | (go_simp; done) | (go_simp; rfl))
                intro gb1141 hg w116 hbox hb
                have BK1141 := az hbox
                have GW1141 := az ((gE hg (qL HB) : w.heap.size ≤ gb1141))
                have GE1141 := GW1141
                obtain ⟨NB1108_1141, NB1141_1108⟩ := nPB BK1108 hg
                obtain ⟨NB1109_1141, NB1141_1109⟩ := nPB BK1109 hg
                obtain ⟨NB1110_1141, NB1141_1110⟩ := nPB BK1110 hg
                obtain ⟨NB1111_1141, NB1141_1111⟩ := nPB BK1111 hg
                obtain ⟨NB1126_1141, NB1141_1126⟩ := nPB BK1126 hg
                replace BK1108 := kBB BK1108 hb
                replace BK1109 := kBB BK1109 hb
                replace BK1110 := kBB BK1110 hb
                replace BK1111 := kBB BK1111 hb
                replace BK1126 := kBB BK1126 hb
                replace HB := bS HB hb
                clear hb hbox hg
                refine hK.out _ _ ⟨bc BK1108 0, bc BK1108 1, bc BK1108 2, bc BK1109 0, bc BK1109 1, bc BK1110 0, bc BK1110 1, bc BK1110 2, bc BK1111 0, bc BK1111 1⟩ (fun hHeld => ?_)
                clear hK K
                refine nm (some 11) ?_
                exact nrm (hJ1_3_12 (gb1141) _ ⟨hHeld, (qB BK1108), (qB BK1109), (qB BK1110), (qB BK1111), (qB BK1126), (qB BK1141), GW1141.out, GE1141.out, NB1108_1141.out, NB1141_1108.out, NB1109_1141.out, NB1141_1109.out, NB1110_1141.out, NB1141_1110.out, NB1111_1141.out, NB1141_1111.out, NB1126_1141.out, NB1141_1126.out, (qL HB)⟩)
              skip
              rintro gb1141 w116 ⟨hS_, h0_, h1_, h2_, h3_, h4_, h5_, h6_, h7_, h8_, h9_, h10_, h11_, h12_, h13_, h14_, h15_, h16_, h17_, h18_⟩
              have BK1141 := az h5_
              have GW1141 := az h6_
              have GE1141 := az h7_
              have NB1108_1141 := az h8_
              have NB1141_1108 := az h9_
              have NB1109_1141 := az h10_
              have NB1141_1109 := az h11_
              have NB1110_1141 := az h12_
              have NB1141_1110 := az h13_
              have NB1111_1141 := az h14_
              have NB1141_1111 := az h15_
              have NB1126_1141 := az h16_
              have NB1141_1126 := az h17_
              replace BK1108 := az h0_
              replace BK1109 := az h1_
              replace BK1110 := az h2_
              replace BK1111 := az h3_
              replace BK1126 := az h4_
              replace HB := az h18_
              clear h0_ h1_ h2_ h3_ h4_ h5_ h6_ h7_ h8_ h9_ h10_ h11_ h12_ h13_ h14_ h15_ h16_ h17_ h18_
              have hHeld := hS_
              refine nmp ?_
              refine on 5 (some 31) (fl 15 4223) HT_ (fun K hK => ?_)
              refine go1 Try.func34 #[.agg #[.int .i64 a2_0, .int .i64 a2_1, .int .i64 a2_2]] ?_
              with_reducible refine (laws_toShape.calls a2_0 a2_1 a2_2 t1132 t1133 t1134 _ A12.out).mono ?_
              rintro e w117 ⟨rfl, hb⟩
              refine ⟨_, rfl, ?_⟩
              replace BK1108 := kBB BK1108 hb
              replace BK1109 := kBB BK1109 hb
              replace BK1110 := kBB BK1110 hb
              replace BK1111 := kBB BK1111 hb
              replace BK1126 := kBB BK1126 hb
              replace BK1141 := kBB BK1141 hb
              replace HB := bS HB hb
              clear hb
              refine hK.out _ _ ⟨bc BK1108 0, bc BK1108 1, bc BK1108 2, bc BK1109 0, bc BK1109 1, bc BK1110 0, bc BK1110 1, bc BK1110 2, bc BK1111 0, bc BK1111 1⟩ (fun hHeld => ?_)
              clear hK K
              refine nm (some 31) ?_
              exact nrm (hJ1_3_5_12 (gb1141) _ ⟨hHeld, (qB BK1108), (qB BK1109), (qB BK1110), (qB BK1111), (qB BK1126), (qB BK1141), GW1141.out, GE1141.out, NB1108_1141.out, NB1141_1108.out, NB1109_1141.out, NB1141_1109.out, NB1110_1141.out, NB1141_1110.out, NB1111_1141.out, NB1141_1111.out, NB1126_1141.out, NB1141_1126.out, (qL HB)⟩)
            skip
            rintro _ w116 ⟨hS_, h0_, h1_, h2_, h3_, h4_, h5_⟩
            replace BK1108 := az h0_
            replace BK1109 := az h1_
            replace BK1110 := az h2_
            replace BK1111 := az h3_
            replace BK1126 := az h4_
            replace HB := az h5_
            clear h0_ h1_ h2_ h3_ h4_ h5_
            have hHeld := hS_
            refine nmp ?_
            refine two_ (i := 7) (j := 12) (Ni := some 33) (Nj := some 11) (fl 15 255) (fl 15 4223) rfl rfl rfl rfl (two_of HT_.out (by kernel_rfl)) (by decide) (by decide) (fun K hK => ?_) (fun K hK => ?_)
            · skip
              refine go1 Try.func20 #[.agg #[.int .i64 a3_0, .int .i64 a3_1]] ?_
              with_reducible refine (laws_toVec.calls a3_0 a3_1 t1135 t1136 _ A13.out).mono ?_
              rintro e w117 ⟨rfl, hb⟩
              refine ⟨_, rfl, ?_⟩
              replace BK1108 := kBB BK1108 hb
              replace BK1109 := kBB BK1109 hb
              replace BK1110 := kBB BK1110 hb
              replace BK1111 := kBB BK1111 hb
              replace BK1126 := kBB BK1126 hb
              replace HB := bS HB hb
              clear hb
              refine hK.out _ _ ⟨bc BK1108 0, bc BK1108 1, bc BK1108 2, bc BK1109 0, bc BK1109 1, bc BK1110 0, bc BK1110 1, bc BK1110 2, bc BK1111 0, bc BK1111 1⟩ (fun hHeld => ?_)
              clear hK K
              refine nm (some 33) ?_
              exact nrm (hJ1_3_5_7 () _ ⟨hHeld, (qB BK1108), (qB BK1109), (qB BK1110), (qB BK1111), (qB BK1126), (qL HB)⟩)
            skip
            refine box_step ?hg (N := 11) ?hd (cs := #[.int .i64 0, .int .i64 0, .int .i64 0]) (t := 56) ?hr ?_; (case hd => rfl); (case hg => rfl); (case hr => first | (go_simp; done) | (go_simp; rfl))
            intro gb1141 hg w117 hbox hb
            have BK1141 := az hbox
            have GW1141 := az ((gE hg (qL HB) : w.heap.size ≤ gb1141))
            have GE1141 := GW1141
            obtain ⟨NB1108_1141, NB1141_1108⟩ := nPB BK1108 hg
            obtain ⟨NB1109_1141, NB1141_1109⟩ := nPB BK1109 hg
            obtain ⟨NB1110_1141, NB1141_1110⟩ := nPB BK1110 hg
            obtain ⟨NB1111_1141, NB1141_1111⟩ := nPB BK1111 hg
            obtain ⟨NB1126_1141, NB1141_1126⟩ := nPB BK1126 hg
            replace BK1108 := kBB BK1108 hb
            replace BK1109 := kBB BK1109 hb
            replace BK1110 := kBB BK1110 hb
            replace BK1111 := kBB BK1111 hb
            replace BK1126 := kBB BK1126 hb
            replace HB := bS HB hb
            clear hb hbox hg
            refine hK.out _ _ ⟨bc BK1108 0, bc BK1108 1, bc BK1108 2, bc BK1109 0, bc BK1109 1, bc BK1110 0, bc BK1110 1, bc BK1110 2, bc BK1111 0, bc BK1111 1⟩ (fun hHeld => ?_)
            clear hK K
            refine nm (some 11) ?_
            exact nrm (hJ1_3_5_12 (gb1141) _ ⟨hHeld, (qB BK1108), (qB BK1109), (qB BK1110), (qB BK1111), (qB BK1126), (qB BK1141), GW1141.out, GE1141.out, NB1108_1141.out, NB1141_1108.out, NB1109_1141.out, NB1141_1109.out, NB1110_1141.out, NB1141_1110.out, NB1111_1141.out, NB1141_1111.out, NB1126_1141.out, NB1141_1126.out, (qL HB)⟩)
          skip
          rintro gb1141 w117 ⟨hS_, h0_, h1_, h2_, h3_, h4_, h5_, h6_, h7_, h8_, h9_, h10_, h11_, h12_, h13_, h14_, h15_, h16_, h17_, h18_⟩
          have BK1141 := az h5_
          have GW1141 := az h6_
          have GE1141 := az h7_
          have NB1108_1141 := az h8_
          have NB1141_1108 := az h9_
          have NB1109_1141 := az h10_
          have NB1141_1109 := az h11_
          have NB1110_1141 := az h12_
          have NB1141_1110 := az h13_
          have NB1111_1141 := az h14_
          have NB1141_1111 := az h15_
          have NB1126_1141 := az h16_
          have NB1141_1126 := az h17_
          replace BK1108 := az h0_
          replace BK1109 := az h1_
          replace BK1110 := az h2_
          replace BK1111 := az h3_
          replace BK1126 := az h4_
          replace HB := az h18_
          clear h0_ h1_ h2_ h3_ h4_ h5_ h6_ h7_ h8_ h9_ h10_ h11_ h12_ h13_ h14_ h15_ h16_ h17_ h18_
          have hHeld := hS_
          refine nmp ?_
          refine on 7 (some 33) (fl 15 4351) HT_ (fun K hK => ?_)
          refine go1 Try.func20 #[.agg #[.int .i64 a3_0, .int .i64 a3_1]] ?_
          with_reducible refine (laws_toVec.calls a3_0 a3_1 t1135 t1136 _ A13.out).mono ?_
          rintro e w118 ⟨rfl, hb⟩
          refine ⟨_, rfl, ?_⟩
          replace BK1108 := kBB BK1108 hb
          replace BK1109 := kBB BK1109 hb
          replace BK1110 := kBB BK1110 hb
          replace BK1111 := kBB BK1111 hb
          replace BK1126 := kBB BK1126 hb
          replace BK1141 := kBB BK1141 hb
          replace HB := bS HB hb
          clear hb
          refine hK.out _ _ ⟨bc BK1108 0, bc BK1108 1, bc BK1108 2, bc BK1109 0, bc BK1109 1, bc BK1110 0, bc BK1110 1, bc BK1110 2, bc BK1111 0, bc BK1111 1⟩ (fun hHeld => ?_)
          clear hK K
          refine nm (some 33) ?_
          exact nrm (hJ1_3_5_7_12 (gb1141) _ ⟨hHeld, (qB BK1108), (qB BK1109), (qB BK1110), (qB BK1111), (qB BK1126), (qB BK1141), GW1141.out, GE1141.out, NB1108_1141.out, NB1141_1108.out, NB1109_1141.out, NB1141_1109.out, NB1110_1141.out, NB1141_1110.out, NB1111_1141.out, NB1141_1111.out, NB1126_1141.out, NB1141_1126.out, (qL HB)⟩)
        skip
        rintro _ w117 ⟨hS_, h0_, h1_, h2_, h3_, h4_, h5_⟩
        replace BK1108 := az h0_
        replace BK1109 := az h1_
        replace BK1110 := az h2_
        replace BK1111 := az h3_
        replace BK1126 := az h4_
        replace HB := az h5_
        clear h0_ h1_ h2_ h3_ h4_ h5_
        have hHeld := hS_
        refine nmp ?_
        refine two_ (i := 8) (j := 12) (Ni := some 34) (Nj := some 11) (fl 15 511) (fl 15 4351) rfl rfl rfl rfl (two_of HT_.out (by kernel_rfl)) (by decide) (by decide) (fun K hK => ?_) (fun K hK => ?_)
        · skip
          refine go1 Try.func35 #[.agg #[.int .i64 t1127, .int .i64 t1128, .int .i64 t1129], .agg #[.int .i64 t1130, .int .i64 t1131], .agg #[.int .i64 t1132, .int .i64 t1133, .int .i64 t1134], .agg #[.int .i64 t1135, .int .i64 t1136]] ?_
          with_reducible refine (impl_Touch.calls k t1127 t1128 t1129 t1130 t1131 t1132 t1133 t1134 t1135 t1136 t1137 t1138 t1139 t1140 _ A14.out).mono ?_
          rintro e w118 ⟨rfl, hb⟩
          refine ⟨_, rfl, ?_⟩
          replace BK1108 := kBB BK1108 hb
          replace BK1109 := kBB BK1109 hb
          replace BK1110 := kBB BK1110 hb
          replace BK1111 := kBB BK1111 hb
          replace BK1126 := kBB BK1126 hb
          replace HB := bS HB hb
          clear hb
          refine hK.out _ _ ⟨bc BK1108 0, bc BK1108 1, bc BK1108 2, bc BK1109 0, bc BK1109 1, bc BK1110 0, bc BK1110 1, bc BK1110 2, bc BK1111 0, bc BK1111 1⟩ (fun hHeld => ?_)
          clear hK K
          refine nm (some 34) ?_
          refine pu 9 (some 25) (fl 15 1023) HT_ ?_
          refine pu 10 (some 35) (fl 15 2047) HT_ ?_
          refine pu 11 (some 36) (fl 15 4095) HT_ ?_
          exact nrm (hJ1_3_5_7_8 () _ ⟨hHeld, (qB BK1108), (qB BK1109), (qB BK1110), (qB BK1111), (qB BK1126), (qL HB)⟩)
        skip
        refine box_step ?hg (N := 11) ?hd (cs := #[.int .i64 0, .int .i64 0, .int .i64 0]) (t := 56) ?hr ?_; (case hd => rfl); (case hg => rfl); (case hr => first | (go_simp; done) | (go_simp; rfl))
        intro gb1141 hg w118 hbox hb
        have BK1141 := az hbox
        have GW1141 := az ((gE hg (qL HB) : w.heap.size ≤ gb1141))
        have GE1141 := GW1141
        obtain ⟨NB1108_1141, NB1141_1108⟩ := nPB BK1108 hg
        obtain ⟨NB1109_1141, NB1141_1109⟩ := nPB BK1109 hg
        obtain ⟨NB1110_1141, NB1141_1110⟩ := nPB BK1110 hg
        obtain ⟨NB1111_1141, NB1141_1111⟩ := nPB BK1111 hg
        obtain ⟨NB1126_1141, NB1141_1126⟩ := nPB BK1126 hg
        replace BK1108 := kBB BK1108 hb
        replace BK1109 := kBB BK1109 hb
        replace BK1110 := kBB BK1110 hb
        replace BK1111 := kBB BK1111 hb
        replace BK1126 := kBB BK1126 hb
        replace HB := bS HB hb
        clear hb hbox hg
        refine hK.out _ _ ⟨bc BK1108 0, bc BK1108 1, bc BK1108 2, bc BK1109 0, bc BK1109 1, bc BK1110 0, bc BK1110 1, bc BK1110 2, bc BK1111 0, bc BK1111 1⟩ (fun hHeld => ?_)
        clear hK K
        refine nm (some 11) ?_
        exact nrm (hJ1_3_5_7_12 (gb1141) _ ⟨hHeld, (qB BK1108), (qB BK1109), (qB BK1110), (qB BK1111), (qB BK1126), (qB BK1141), GW1141.out, GE1141.out, NB1108_1141.out, NB1141_1108.out, NB1109_1141.out, NB1141_1109.out, NB1110_1141.out, NB1141_1110.out, NB1111_1141.out, NB1141_1111.out, NB1126_1141.out, NB1141_1126.out, (qL HB)⟩)
      skip
      rintro gb1141 w118 ⟨hS_, h0_, h1_, h2_, h3_, h4_, h5_, h6_, h7_, h8_, h9_, h10_, h11_, h12_, h13_, h14_, h15_, h16_, h17_, h18_⟩
      have BK1141 := az h5_
      have GW1141 := az h6_
      have GE1141 := az h7_
      have NB1108_1141 := az h8_
      have NB1141_1108 := az h9_
      have NB1109_1141 := az h10_
      have NB1141_1109 := az h11_
      have NB1110_1141 := az h12_
      have NB1141_1110 := az h13_
      have NB1111_1141 := az h14_
      have NB1141_1111 := az h15_
      have NB1126_1141 := az h16_
      have NB1141_1126 := az h17_
      replace BK1108 := az h0_
      replace BK1109 := az h1_
      replace BK1110 := az h2_
      replace BK1111 := az h3_
      replace BK1126 := az h4_
      replace HB := az h18_
      clear h0_ h1_ h2_ h3_ h4_ h5_ h6_ h7_ h8_ h9_ h10_ h11_ h12_ h13_ h14_ h15_ h16_ h17_ h18_
      have hHeld := hS_
      refine nmp ?_
      refine on 8 (some 34) (fl 15 4607) HT_ (fun K hK => ?_)
      refine go1 Try.func35 #[.agg #[.int .i64 t1127, .int .i64 t1128, .int .i64 t1129], .agg #[.int .i64 t1130, .int .i64 t1131], .agg #[.int .i64 t1132, .int .i64 t1133, .int .i64 t1134], .agg #[.int .i64 t1135, .int .i64 t1136]] ?_
      with_reducible refine (impl_Touch.calls k t1127 t1128 t1129 t1130 t1131 t1132 t1133 t1134 t1135 t1136 t1137 t1138 t1139 t1140 _ A14.out).mono ?_
      rintro e w119 ⟨rfl, hb⟩
      refine ⟨_, rfl, ?_⟩
      replace BK1108 := kBB BK1108 hb
      replace BK1109 := kBB BK1109 hb
      replace BK1110 := kBB BK1110 hb
      replace BK1111 := kBB BK1111 hb
      replace BK1126 := kBB BK1126 hb
      replace BK1141 := kBB BK1141 hb
      replace HB := bS HB hb
      clear hb
      refine hK.out _ _ ⟨bc BK1108 0, bc BK1108 1, bc BK1108 2, bc BK1109 0, bc BK1109 1, bc BK1110 0, bc BK1110 1, bc BK1110 2, bc BK1111 0, bc BK1111 1⟩ (fun hHeld => ?_)
      clear hK K
      refine nm (some 34) ?_
      refine pu 9 (some 25) (fl 15 5119) HT_ ?_
      refine pu 10 (some 35) (fl 15 6143) HT_ ?_
      refine pu 11 (some 36) (fl 15 8191) HT_ ?_
      exact nrm (hJ1_3_5_7_8_12 (gb1141) _ ⟨hHeld, (qB BK1108), (qB BK1109), (qB BK1110), (qB BK1111), (qB BK1126), (qB BK1141), GW1141.out, GE1141.out, NB1108_1141.out, NB1141_1108.out, NB1109_1141.out, NB1141_1109.out, NB1110_1141.out, NB1141_1110.out, NB1111_1141.out, NB1141_1111.out, NB1126_1141.out, NB1141_1126.out, (qL HB)⟩)
    skip
    rintro _ w118 ⟨hS_, h0_, h1_, h2_, h3_, h4_, h5_⟩
    replace BK1108 := az h0_
    replace BK1109 := az h1_
    replace BK1110 := az h2_
    replace BK1111 := az h3_
    replace BK1126 := az h4_
    replace HB := az h5_
    clear h0_ h1_ h2_ h3_ h4_ h5_
    have hHeld := hS_
    refine nmp ?_
    refine on 12 (some 11) (fl 15 8191) HT_ (fun K hK => ?_)
    refine box_step ?hg (N := 11) ?hd (cs := #[.int .i64 0, .int .i64 0, .int .i64 0]) (t := 56) ?hr ?_; (case hd => rfl); (case hg => rfl); (case hr => first | (go_simp; done) | (go_simp; rfl))
    intro gb1141 hg w119 hbox hb
    have BK1141 := az hbox
    have GW1141 := az ((gE hg (qL HB) : w.heap.size ≤ gb1141))
    have GE1141 := GW1141
    obtain ⟨NB1108_1141, NB1141_1108⟩ := nPB BK1108 hg
    obtain ⟨NB1109_1141, NB1141_1109⟩ := nPB BK1109 hg
    obtain ⟨NB1110_1141, NB1141_1110⟩ := nPB BK1110 hg
    obtain ⟨NB1111_1141, NB1141_1111⟩ := nPB BK1111 hg
    obtain ⟨NB1126_1141, NB1141_1126⟩ := nPB BK1126 hg
    replace BK1108 := kBB BK1108 hb
    replace BK1109 := kBB BK1109 hb
    replace BK1110 := kBB BK1110 hb
    replace BK1111 := kBB BK1111 hb
    replace BK1126 := kBB BK1126 hb
    replace HB := bS HB hb
    clear hb hbox hg
    refine hK.out _ _ ⟨bc BK1108 0, bc BK1108 1, bc BK1108 2, bc BK1109 0, bc BK1109 1, bc BK1110 0, bc BK1110 1, bc BK1110 2, bc BK1111 0, bc BK1111 1⟩ (fun hHeld => ?_)
    clear hK K
    refine nm (some 11) ?_
    exact nrm (hJ1_3_5_7_8_12 (gb1141) _ ⟨hHeld, (qB BK1108), (qB BK1109), (qB BK1110), (qB BK1111), (qB BK1126), (qB BK1141), GW1141.out, GE1141.out, NB1108_1141.out, NB1141_1108.out, NB1109_1141.out, NB1141_1109.out, NB1110_1141.out, NB1141_1110.out, NB1111_1141.out, NB1141_1111.out, NB1126_1141.out, NB1141_1126.out, (qL HB)⟩)
  rintro gb1141 w119 ⟨hS_, h0_, h1_, h2_, h3_, h4_, h5_, h6_, h7_, h8_, h9_, h10_, h11_, h12_, h13_, h14_, h15_, h16_, h17_, h18_⟩
  have BK1141 := az h5_
  have GW1141 := az h6_
  have GE1141 := az h7_
  have NB1108_1141 := az h8_
  have NB1141_1108 := az h9_
  have NB1109_1141 := az h10_
  have NB1141_1109 := az h11_
  have NB1110_1141 := az h12_
  have NB1141_1110 := az h13_
  have NB1111_1141 := az h14_
  have NB1141_1111 := az h15_
  have NB1126_1141 := az h16_
  have NB1141_1126 := az h17_
  replace BK1108 := az h0_
  replace BK1109 := az h1_
  replace BK1110 := az h2_
  replace BK1111 := az h3_
  replace BK1126 := az h4_
  replace HB := az h18_
  clear h0_ h1_ h2_ h3_ h4_ h5_ h6_ h7_ h8_ h9_ h10_ h11_ h12_ h13_ h14_ h15_ h16_ h17_ h18_
  have hHeld := hS_
  refine nmp ?_
  refine on 13 (none) (fl 15 16383) HT_ (fun K hK => ?_)
  have hs120 : w119.cell? ⟨gb1141, 0, none⟩ = some (.int .i64 0) := bc BK1141 0
  have hfs120 := blk_frozen BK1141.out 0
  have hns120_0 := NB1108_1141.out
  have hns120_1 := NB1109_1141.out
  have hns120_2 := NB1110_1141.out
  have hns120_3 := NB1111_1141.out
  have hns120_4 := NB1126_1141.out
  have hms120_0 := NB1141_1108.out
  have hms120_1 := NB1141_1109.out
  have hms120_2 := NB1141_1110.out
  have hms120_3 := NB1141_1111.out
  have hms120_4 := NB1141_1126.out
  have hs121 : w119.cell? ⟨gb1141, 1, none⟩ = some (.int .i64 0) := bc BK1141 1
  have hfs121 := blk_frozen BK1141.out 1
  have hns121_0 := NB1108_1141.out
  have hns121_1 := NB1109_1141.out
  have hns121_2 := NB1110_1141.out
  have hns121_3 := NB1111_1141.out
  have hns121_4 := NB1126_1141.out
  have hms121_0 := NB1141_1108.out
  have hms121_1 := NB1141_1109.out
  have hms121_2 := NB1141_1110.out
  have hms121_3 := NB1141_1111.out
  have hms121_4 := NB1141_1126.out
  have hs122 : w119.cell? ⟨gb1141, 2, none⟩ = some (.int .i64 0) := bc BK1141 2
  have hfs122 := blk_frozen BK1141.out 2
  have hns122_0 := NB1108_1141.out
  have hns122_1 := NB1109_1141.out
  have hns122_2 := NB1110_1141.out
  have hns122_3 := NB1111_1141.out
  have hns122_4 := NB1126_1141.out
  have hms122_0 := NB1141_1108.out
  have hms122_1 := NB1141_1109.out
  have hms122_2 := NB1141_1110.out
  have hms122_3 := NB1141_1111.out
  have hms122_4 := NB1141_1126.out
  refine skip_ (w1 := ?_) ?hw ?hn ?_ ?_; (case hw => unfold Region.wanted; rfl); (case hn => rfl)
  rotate_left
  · go_simp
    rfl
  refine hK.out _ _ ⟨(cf NB1108_1141 ((cf NB1108_1141 ((cf NB1108_1141 (hHeld.1)))))), (cf NB1108_1141 ((cf NB1108_1141 ((cf NB1108_1141 (hHeld.2.1)))))), (cf NB1108_1141 ((cf NB1108_1141 ((cf NB1108_1141 (hHeld.2.2.1)))))), (cf NB1109_1141 ((cf NB1109_1141 ((cf NB1109_1141 (hHeld.2.2.2.1)))))), (cf NB1109_1141 ((cf NB1109_1141 ((cf NB1109_1141 (hHeld.2.2.2.2.1)))))), (cf NB1110_1141 ((cf NB1110_1141 ((cf NB1110_1141 (hHeld.2.2.2.2.2.1)))))), (cf NB1110_1141 ((cf NB1110_1141 ((cf NB1110_1141 (hHeld.2.2.2.2.2.2.1)))))), (cf NB1110_1141 ((cf NB1110_1141 ((cf NB1110_1141 (hHeld.2.2.2.2.2.2.2.1)))))), (cf NB1111_1141 ((cf NB1111_1141 ((cf NB1111_1141 (hHeld.2.2.2.2.2.2.2.2.1)))))), (cf NB1111_1141 ((cf NB1111_1141 ((cf NB1111_1141 (hHeld.2.2.2.2.2.2.2.2.2))))))⟩ (fun hHeld => ?_)
  clear hK K
  refine pu 14 (some 12) (fl 15 32767) HT_ ?_
  refine done_ (done_of HT_.out (by kernel_rfl)) ?_
  have hnb123 := NB1141_1108.out
  have hnc123 := NB1108_1141.out
  have hnb124 := NB1141_1109.out
  have hnc124 := NB1109_1141.out
  have hnb125 := NB1141_1110.out
  have hnc125 := NB1110_1141.out
  have hnb126 := NB1141_1111.out
  have hnc126 := NB1111_1141.out
  have hnb127 := NB1141_1126.out
  have hnc127 := NB1126_1141.out
  obtain ⟨hcz128_0, hcz128_1, hcz128_2⟩ := cz3 BK1141.out
  obtain ⟨hfz128_0, hfz128_1, hfz128_2⟩ := fz3 BK1141.out
  have hnb129 := NB1126_1108.out
  have hnc129 := NB1108_1126.out
  have hnb130 := NB1126_1109.out
  have hnc130 := NB1109_1126.out
  have hnb131 := NB1126_1110.out
  have hnc131 := NB1110_1126.out
  have hnb132 := NB1126_1111.out
  have hnc132 := NB1111_1126.out
  obtain ⟨hcz133_0, hcz133_1, hcz133_2⟩ := cz3 BK1126.out
  obtain ⟨hfz133_0, hfz133_1, hfz133_2⟩ := fz3 BK1126.out
  try go_wp2_with (first | ((with_reducible refine gate_callee (f := 36) rfl ?_); refine gl (some 39) Try.func36 #[.agg #[.int .i64 t1137, .int .i64 t1138, .int .i64 t1139], .agg #[.int .i64 t1122, .int .i64 t1123, .int .i64 t1124]] ?_; (with_reducible refine (laws_eqHit.calls t1137 t1138 t1139 t1122 t1123 t1124 false _ A15.out).mono ?_); rintro e w134 ⟨rfl, hb⟩; refine ⟨_, rfl, ?_⟩; replace BK1108 := kBF BK1108 hb; replace BK1109 := kBF BK1109 hb; replace BK1110 := kBF BK1110 hb; replace BK1111 := kBF BK1111 hb; replace BK1126 := kBF BK1126 hb; replace BK1141 := kBP (o' := .cells #[.int .i64 t1137, .int .i64 t1138, .int .i64 t1139] 56 (0, 0)) BK1141 hb; replace HB := bS HB hb; clear hb))
  go_ret
  exact ⟨qE, qL HB⟩
end Go.Proofs.Ytihajbjkjclmoaa.PBig
