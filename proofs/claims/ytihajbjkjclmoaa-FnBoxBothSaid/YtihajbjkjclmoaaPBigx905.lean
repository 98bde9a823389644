/- What these functions compute, each walked once: spec_DrawBoxMeets; for all arguments and worlds, under the conditions that each theorem names. -/
import Derived.Test.YtihajbjkjclmoaaSq
import Derived.Test.YtihajbjkjclmoaaPBigx901
import Derived.Test.YtihajbjkjclmoaaPBigx903
import Derived.Test.YtihajbjkjclmoaaPBigx904
namespace Go.Proofs.Ytihajbjkjclmoaa.PBig
open Go.RowKit Go.Proofs.YtihajbjkjclmoaaW.PrintWords Go.Proofs.YtihajbjkjclmoaaW.PrintLast Go.Proofs.YtihajbjkjclmoaaW.PrintMore
attribute [local go_sem] max2_int min2_int max_two min_two max_three min_three max_four min_four   -- for this text's walks alone
set_option linter.unusedVariables false
set_option linter.unusedSimpArgs false

/-! ### spec_DrawBoxMeets: function 43 -/
def spec_DrawBoxMeets.f (k : Nat) (l0 : List Int) : Option (Int × Int × Int × Int × Int × Int × Int × Int) := (spec_l1Open.f l0).bind fun bt157 => ((spec_l11AnyBox.f k bt157.1 bt157.2).bind fun bt160 => ((spec_l11AnyBox.f k bt157.1 bt160.2.2.2.2).bind fun bt166 => ((spec_l1Rd_pick.f k bt157.1 bt166.2.2.2.2 5).bind fun bt172 => (if bt172.1 = 0 then ((spec_l1Rd_pick.f k bt157.1 bt172.2 2).bind fun bt174 => (some (bt160.1, bt160.2.1, bt160.2.2.1, bt160.2.2.2.1, wrap64 (bt160.2.2.1 + bt174.1), bt166.2.1, wrap64 ((wrap64 (bt160.2.2.1 + bt174.1)) + 9), bt166.2.2.2.1))) else (if bt172.1 = 1 then (some (bt160.1, bt160.2.1, bt160.2.2.1, bt160.2.2.2.1, bt160.1, bt160.2.1, bt160.2.2.1, bt160.2.2.2.1)) else (if bt172.1 = 2 then ((spec_l3Near.f bt160.1 bt160.2.1 bt160.2.2.1 bt160.2.2.2.1 bt166.2.2.1 bt166.2.2.2.1).bind fun bt176 => (some (bt160.1, bt160.2.1, bt160.2.2.1, bt160.2.2.2.1, bt160.1, bt160.2.1, bt176.1, bt176.2))) else (some (bt160.1, bt160.2.1, bt160.2.2.1, bt160.2.2.2.1, bt166.1, bt166.2.1, bt166.2.2.1, bt166.2.2.2.1))))))))
theorem spec_DrawBoxMeets.mono : ∀ a0 k, LeO (spec_DrawBoxMeets.f k a0) (spec_DrawBoxMeets.f (k + 1) a0) := by
  intro a0 k
  unfold spec_DrawBoxMeets.f
  repeat' first
      | (with_reducible exact spec_l11AnyBox.mono _ _ _)
      | (with_reducible exact spec_l1Rd_pick.mono _ _ _ _)
      | (with_reducible exact LeO.refl _)
      | (with_reducible exact LeO.none _)
      | (with_reducible refine LeO.ite ?_ ?_)
      | (with_reducible refine LeO.bind ?_ (fun _ => ?_))
def spec_DrawBoxMeets.T6 : Bool × List (List Nat × List Nat) := (true, [([], []), ([0], [0]), ([1], [1]), ([], []), ([3], [3]), ([2, 4], [2, 4]), ([0, 1, 2, 3, 4, 5], []), ([6, 0, 1, 2, 3, 4, 5], [6]), ([7, 5, 4, 0, 1, 2, 3, 4, 5], [5, 7])])
def spec_DrawBoxMeets.B6 : List Nat := [0, 1, 3, 0, 8, 31, 63, 127, 255]
theorem spec_DrawBoxMeets.tab6 : rtab .any (opsOf Try.f43 6) = spec_DrawBoxMeets.T6 := by kernel_rfl
theorem spec_DrawBoxMeets.bits6 : waitsOk spec_DrawBoxMeets.T6.2 spec_DrawBoxMeets.B6 = true := by kernel_rfl
def spec_DrawBoxMeets.T11 : Bool × List (List Nat × List Nat) := (true, [([], []), ([], []), ([1], [1]), ([], []), ([], []), ([4], [4]), ([3, 5], [3, 5]), ([2, 6], [2, 6]), ([0, 6, 0], [0]), ([7, 8, 0, 1, 2, 3, 4, 5, 6, 7, 8], [7])])
def spec_DrawBoxMeets.B11 : List Nat := [0, 0, 2, 0, 0, 16, 56, 126, 121, 511]
theorem spec_DrawBoxMeets.tab11 : rtab .any (opsOf Try.f43 11) = spec_DrawBoxMeets.T11 := by kernel_rfl
theorem spec_DrawBoxMeets.bits11 : waitsOk spec_DrawBoxMeets.T11.2 spec_DrawBoxMeets.B11 = true := by kernel_rfl
set_option maxHeartbeats 8000000 in
set_option maxRecDepth 100000 in
theorem spec_DrawBoxMeets.calls (k : Nat) (A0 : Option Addr) (c0 : Nat) (l0 : List Int) (r1 : Int) (r2 : Int) (r3 : Int) (r4 : Int) (r5 : Int) (r6 : Int) (r7 : Int) (r8 : Int) (w : World) (hr0 : Kd.C (Kd.int .u8) w A0 l0.length l0) (hc0 : l0.length ≤ c0) (h : spec_DrawBoxMeets.f k l0 = some (r1, r2, r3, r4, r5, r6, r7, r8)) :
    Calls Try.prog 43 #[.slice A0 l0.length c0] w fun e w' => e = .returned (.tuple #[.agg #[.int .i64 r1, .int .i64 r2, .int .i64 r3, .int .i64 r4], .agg #[.int .i64 r5, .int .i64 r6, .int .i64 r7, .int .i64 r8]]) ∧ Below w.heap.size w w' := by
  have hu26 := Try.underlying26
  have hu24 := Try.underlying24
  have HR0 := az hr0
  have HC0 := az hc0
  clear hr0 hc0
  have HB := az (Below.refl w.heap.size w)
  have H : ((spec_l1Open.f l0).bind fun bt157 => ((spec_l11AnyBox.f k bt157.1 bt157.2).bind fun bt160 => ((spec_l11AnyBox.f k bt157.1 bt160.2.2.2.2).bind fun bt166 => ((spec_l1Rd_pick.f k bt157.1 bt166.2.2.2.2 5).bind fun bt172 => (if bt172.1 = 0 then ((spec_l1Rd_pick.f k bt157.1 bt172.2 2).bind fun bt174 => (some (bt160.1, bt160.2.1, bt160.2.2.1, bt160.2.2.2.1, wrap64 (bt160.2.2.1 + bt174.1), bt166.2.1, wrap64 ((wrap64 (bt160.2.2.1 + bt174.1)) + 9), bt166.2.2.2.1))) else (if bt172.1 = 1 then (some (bt160.1, bt160.2.1, bt160.2.2.1, bt160.2.2.2.1, bt160.1, bt160.2.1, bt160.2.2.1, bt160.2.2.2.1)) else (if bt172.1 = 2 then ((spec_l3Near.f bt160.1 bt160.2.1 bt160.2.2.1 bt160.2.2.2.1 bt166.2.2.1 bt166.2.2.2.1).bind fun bt176 => (some (bt160.1, bt160.2.1, bt160.2.2.1, bt160.2.2.2.1, bt160.1, bt160.2.1, bt176.1, bt176.2))) else (some (bt160.1, bt160.2.1, bt160.2.2.1, bt160.2.2.2.1, bt166.1, bt166.2.1, bt166.2.2.1, bt166.2.2.2.1))))))))) = some (r1, r2, r3, r4, r5, r6, r7, r8) := h
  clear h
  replace H := qH H
  obtain ⟨⟨t157, t158⟩, A2, H⟩ := H
  try dsimp only at H
  replace H := qH H
  obtain ⟨⟨t160, t161, t162, t163, t164⟩, A3, H⟩ := H
  try dsimp only at H
  replace H := qH H
  obtain ⟨⟨t166, t167, t168, t169, t170⟩, A4, H⟩ := H
  try dsimp only at H
  replace H := qH H
  obtain ⟨⟨t172, t173⟩, A5, H⟩ := H
  try dsimp only at H
  by_cases c6 : t172 = 0
  · rw [if_pos c6] at H
    have c6b0 : (t172 == 0) = true := beq_iff_eq.mpr c6
    have c6b1 : (t172 != 0) = false := bne_eq_false_iff_eq.mpr c6
    clear c6
    replace H := qH H
    obtain ⟨⟨t174, t175⟩, A7, H⟩ := H
    try dsimp only at H
    simp only [Option.some.injEq, Prod.mk.injEq] at H
    obtain ⟨rfl, rfl, rfl, rfl, rfl, rfl, rfl, rfl⟩ := H
    go_enter Try.func43, Try.ntmps43
    try go_wp2_with (first | ((with_reducible refine gate_dst (N := 2) rfl ?_); refine bx (N := 2) (cs := #[.int .i64 0, .int .i64 0, .int .i64 0, .int .i64 0]) (t := 26) ?_; intro gb155 hg w8 hbox hb; have BK155 := az hbox; have GW155 := az ((gE hg (qL HB) : w.heap.size ≤ gb155)); have GE155 := GW155; replace HB := bS HB hb; clear hb hbox hg) | ((with_reducible refine gate_dst (N := 3) rfl ?_); refine bx (N := 3) (cs := #[.int .i64 0, .int .i64 0, .int .i64 0, .int .i64 0]) (t := 26) ?_; intro gb156 hg w9 hbox hb; have BK156 := az hbox; have GW156 := az ((gE hg (qL HB) : w.heap.size ≤ gb156)); have GE156 := GW156; obtain ⟨NB155_156, NB156_155⟩ := nPB BK155 hg; replace BK155 := kBB BK155 hb; replace HB := bS HB hb; clear hb hbox hg) | ((with_reducible refine gate_callee (f := 59) rfl ?_); refine gl (some 8) Try.func59 #[.slice A0 l0.length c0] ?_; (with_reducible refine (spec_l1Open.calls _ _ l0 t157 t158 w _ ?side1 ?side2 ?side3 A2.out).mono ?_); (case side1 => exact qL HB); (case side2 => exact HR0.out); (case side3 => exact HC0.out); rintro e w10 ⟨g159, rfl, hi, hb, hb2⟩; refine ⟨_, rfl, ?_⟩; have HI159 := az hi; have NB159_155 := az (IsS95.ne_blk hi (blk_below (g := gb155) (o := .cells #[.int .i64 0, .int .i64 0, .int .i64 0, .int .i64 0] 26 (0, 0)) (qB BK155) hb2) (by decide)); have NB155_159 := az (Ne.symm (IsS95.ne_blk hi (blk_below (g := gb155) (o := .cells #[.int .i64 0, .int .i64 0, .int .i64 0, .int .i64 0] 26 (0, 0)) (qB BK155) hb2) (by decide))); have NB159_156 := az (IsS95.ne_blk hi (blk_below (g := gb156) (o := .cells #[.int .i64 0, .int .i64 0, .int .i64 0, .int .i64 0] 26 (0, 0)) (qB BK156) hb2) (by decide)); have NB156_159 := az (Ne.symm (IsS95.ne_blk hi (blk_below (g := gb156) (o := .cells #[.int .i64 0, .int .i64 0, .int .i64 0, .int .i64 0] 26 (0, 0)) (qB BK156) hb2) (by decide))); replace BK155 := az (blk_below (g := gb155) (o := .cells #[.int .i64 0, .int .i64 0, .int .i64 0, .int .i64 0] 26 (0, 0)) (qB BK155) hb2); replace BK156 := az (blk_below (g := gb156) (o := .cells #[.int .i64 0, .int .i64 0, .int .i64 0, .int .i64 0] 26 (0, 0)) (qB BK156) hb2); replace HB := az hb; clear hb2 hb hi) | ((with_reducible refine gate_callee (f := 85) rfl ?_); refine gl (some 10) Try.func85 #[.pointer (some ⟨g159, 0, none⟩)] ?_; (with_reducible refine (spec_l11AnyBox.calls k g159 t157 t158 t160 t161 t162 t163 t164 w _ ?side1 ?side2 A3.out).mono ?_); (case side1 => exact qI HI159); (case side2 => exact qL HB); rintro e w11 ⟨rfl, hi, hb, hk⟩; refine ⟨_, rfl, ?_⟩; replace BK155 := kKB BK155 hk NB155_159; replace BK156 := kKB BK156 hk NB156_159; replace HB := az hb; replace HI159 := az hi; clear hb hk hi) | ((with_reducible refine gate_dst (N := 5) rfl ?_); refine bx (N := 5) (cs := #[.int .i64 0, .int .i64 0, .int .i64 0, .int .i64 0]) (t := 26) ?_; intro gb165 hg w12 hbox hb; have BK165 := az hbox; have GW165 := az ((gE hg (qL HB) : w.heap.size ≤ gb165)); have GE165 := GW165; obtain ⟨NB155_165, NB165_155⟩ := nPB BK155 hg; obtain ⟨NB156_165, NB165_156⟩ := nPB BK156 hg; have NB159_165 := az ((by rw [hg]; exact Nat.ne_of_lt (IsS95.lt (show IsS95 w _ g159 t157 t164 from qI HI159)) : g159 ≠ gb165)); have NB165_159 := az ((by rw [hg]; exact Nat.ne_of_gt (IsS95.lt (show IsS95 w _ g159 t157 t164 from qI HI159)) : gb165 ≠ g159)); replace BK155 := kBB BK155 hb; replace BK156 := kBB BK156 hb; replace HI159 := az (IsS95.below (qI HI159) hb); replace HB := bS HB hb; clear hb hbox hg; have hnb13 := NB165_155.out; have hnc13 := NB155_165.out; have hnb14 := NB165_156.out; have hnc14 := NB156_165.out; have hnb15 := NB165_159.out; have hnc15 := NB159_165.out; obtain ⟨hcz16_0, hcz16_1, hcz16_2, hcz16_3⟩ := cz4 BK165.out; obtain ⟨hfz16_0, hfz16_1, hfz16_2, hfz16_3⟩ := fz4 BK165.out) | ((with_reducible refine gate_callee (f := 85) rfl ?_); refine gl (some 12) Try.func85 #[.pointer (some ⟨g159, 0, none⟩)] ?_; (with_reducible refine (spec_l11AnyBox.calls k g159 t157 t164 t166 t167 t168 t169 t170 w _ ?side1 ?side2 A4.out).mono ?_); (case side1 => exact qI HI159); (case side2 => exact qL HB); rintro e w17 ⟨rfl, hi, hb, hk⟩; refine ⟨_, rfl, ?_⟩; replace BK155 := kKF BK155 hk NB155_159; replace BK156 := kKF BK156 hk NB156_159; replace BK165 := kKP (o' := .cells #[.int .i64 t160, .int .i64 t161, .int .i64 t162, .int .i64 t163] 26 (0, 0)) BK165 hk NB165_159; replace HB := az hb; replace HI159 := az hi; clear hb hk hi) | ((with_reducible refine gate_dst (N := 6) rfl ?_); refine bx (N := 6) (cs := #[.int .i64 0, .int .i64 0, .int .i64 0, .int .i64 0]) (t := 26) ?_; intro gb171 hg w18 hbox hb; have BK171 := az hbox; have GW171 := az ((gE hg (qL HB) : w.heap.size ≤ gb171)); have GE171 := GW171; obtain ⟨NB155_171, NB171_155⟩ := nPB BK155 hg; obtain ⟨NB156_171, NB171_156⟩ := nPB BK156 hg; obtain ⟨NB165_171, NB171_165⟩ := nPB BK165 hg; have NB159_171 := az ((by rw [hg]; exact Nat.ne_of_lt (IsS95.lt (show IsS95 w _ g159 t157 t170 from qI HI159)) : g159 ≠ gb171)); have NB171_159 := az ((by rw [hg]; exact Nat.ne_of_gt (IsS95.lt (show IsS95 w _ g159 t157 t170 from qI HI159)) : gb171 ≠ g159)); replace BK155 := kBB BK155 hb; replace BK156 := kBB BK156 hb; replace HI159 := az (IsS95.below (qI HI159) hb); replace BK165 := kBB BK165 hb; replace HB := bS HB hb; clear hb hbox hg; have hnb19 := NB171_155.out; have hnc19 := NB155_171.out; have hnb20 := NB171_156.out; have hnc20 := NB156_171.out; have hnb21 := NB171_165.out; have hnc21 := NB165_171.out; have hnb22 := NB171_159.out; have hnc22 := NB159_171.out; obtain ⟨hcz23_0, hcz23_1, hcz23_2, hcz23_3⟩ := cz4 BK171.out; obtain ⟨hfz23_0, hfz23_1, hfz23_2, hfz23_3⟩ := fz4 BK171.out) | ((with_reducible refine gate_callee (f := 62) rfl ?_); refine gl (some 14) Try.func62 #[.pointer (some ⟨g159, 0, none⟩), .int .i64 5] ?_; (with_reducible refine (spec_l1Rd_pick.calls k g159 t157 t170 5 t172 t173 w _ ?side1 ?side2 A5.out).mono ?_); (case side1 => exact qI HI159); (case side2 => exact qL HB); rintro e w24 ⟨rfl, hi, hb, hk⟩; refine ⟨_, rfl, ?_⟩; replace BK155 := kKF BK155 hk NB155_159; replace BK156 := kKF BK156 hk NB156_159; replace BK165 := kKF BK165 hk NB165_159; replace BK171 := kKP (o' := .cells #[.int .i64 t166, .int .i64 t167, .int .i64 t168, .int .i64 t169] 26 (0, 0)) BK171 hk NB171_159; replace HB := az hb; replace HI159 := az hi; clear hb hk hi))
    replace BK155 := az (blk_drew BK155.out)
    replace BK156 := az (blk_drew BK156.out)
    replace BK165 := az (blk_drew BK165.out)
    replace BK171 := az (blk_drew BK171.out)
    replace HI159 := az (IsS95.drew HI159.out)
    replace HB := az (below_drew1 HB.out)
    refine start_ (n := 9) (S := fun w' => w'.cell? ⟨gb165, 0, none⟩ = some (.int .i64 t160) ∧ w'.cell? ⟨gb165, 1, none⟩ = some (.int .i64 t161) ∧ w'.cell? ⟨gb165, 2, none⟩ = some (.int .i64 t162) ∧ w'.cell? ⟨gb165, 3, none⟩ = some (.int .i64 t163)) (ds := []) #[false, false, false, false, false, false, false, false, false] (by kernel_rfl) rfl rfl ⟨bc BK165 0, bc BK165 1, bc BK165 2, bc BK165 3⟩ (fun hHeld => ?_); refine with_tabW spec_DrawBoxMeets.tab6 spec_DrawBoxMeets.bits6 (fun HT_ HW_ => ?_)
    generalize w24.drew = w25 at BK155 BK156 BK165 BK171 HI159 HB hHeld ⊢
    refine pu 0 (some 17) (fl 9 1) HT_ ?_
    refine pu 1 (some 18) (fl 9 3) HT_ ?_
    refine pu 3 (some 20) (fl 9 11) HT_ ?_
    refine tk4 2 (some 19) (fl 9 15) HT_ HW_ hHeld ?_
    refine on 4 (some 21) (fl 9 31) HT_ (fun K hK => ?_)
    refine go1 Try.func62 #[.pointer (some ⟨g159, 0, none⟩), .int .i64 2] ?_
    with_reducible refine (spec_l1Rd_pick.calls k g159 t157 t173 2 t174 t175 w _ ?side1 ?side2 A7.out).mono ?_
    (case side1 => exact qI HI159)
    (case side2 => exact qL HB)
    rintro e w26 ⟨rfl, hi, hb, hk⟩
    refine ⟨_, rfl, ?_⟩
    replace BK155 := kKB BK155 hk NB155_159
    replace BK156 := kKB BK156 hk NB156_159
    replace BK165 := kKB BK165 hk NB165_159
    replace BK171 := kKB BK171 hk NB171_159
    replace HB := az hb
    replace HI159 := az hi
    clear hb hk hi
    refine hK.out _ _ ⟨bc BK165 0, bc BK165 1, bc BK165 2, bc BK165 3⟩ (fun hHeld => ?_)
    clear hK K
    refine nm (some 21) ?_
    refine pu 5 (some 22) (fl 9 63) HT_ ?_
    refine pu 6 (some 23) (fl 9 127) HT_ ?_
    refine pu 7 (some 24) (fl 9 255) HT_ ?_
    refine on 8 (none) (fl 9 511) HT_ (fun K hK => ?_)
    have hs27 : w26.cell? ⟨gb171, 0, none⟩ = some (.int .i64 t166) := bc BK171 0
    have hfs27 := blk_frozen BK171.out 0
    have hns27_0 := NB155_171.out
    have hns27_1 := NB156_171.out
    have hns27_2 := NB165_171.out
    have hms27_0 := NB171_155.out
    have hms27_1 := NB171_156.out
    have hms27_2 := NB171_165.out
    refine skip_ (w1 := ?_) ?hw ?hn ?_ ?_; (case hw => unfold Region.wanted; rfl); (case hn => rfl)
    rotate_left
    · go_simp
      rfl
    refine hK.out _ _ ⟨(cf NB165_171 (hHeld.1)), (cf NB165_171 (hHeld.2.1)), (cf NB165_171 (hHeld.2.2.1)), (cf NB165_171 (hHeld.2.2.2))⟩ (fun hHeld => ?_)
    clear hK K
    refine done_ (done_of HT_.out (by kernel_rfl)) ?_
    obtain ⟨hcz28_0, hcz28_1, hcz28_2, hcz28_3⟩ := cz4 BK171.out
    obtain ⟨hfz28_0, hfz28_1, hfz28_2, hfz28_3⟩ := fz4 BK171.out
    try go_wp2
    obtain ⟨w29, hw_⟩ : ∃ x, x = ((w26.setCell ⟨gb171, 0, none⟩ (.int .i64 (wrap64 (t162 + t174)))).setCell ⟨gb171, 2, none⟩ (.int .i64 (wrap64 ((wrap64 (t162 + t174)) + 9)))) := ⟨_, rfl⟩
    replace BK155 : Aside0 (w29.heap[gb155]? = some (.cells #[.int .i64 0, .int .i64 0, .int .i64 0, .int .i64 0] 26 (0, 0))) := ⟨by rw [hw_]; exact qF BK155⟩
    replace BK156 : Aside0 (w29.heap[gb156]? = some (.cells #[.int .i64 0, .int .i64 0, .int .i64 0, .int .i64 0] 26 (0, 0))) := ⟨by rw [hw_]; exact qF BK156⟩
    replace BK165 : Aside0 (w29.heap[gb165]? = some (.cells #[.int .i64 t160, .int .i64 t161, .int .i64 t162, .int .i64 t163] 26 (0, 0))) := ⟨by rw [hw_]; exact qF BK165⟩
    replace BK171 : Aside0 (w29.heap[gb171]? = some (.cells #[.int .i64 (wrap64 (t162 + t174)), .int .i64 t167, .int .i64 (wrap64 ((wrap64 (t162 + t174)) + 9)), .int .i64 t169] 26 (0, 0))) := ⟨by rw [hw_]; exact qP BK171⟩
    replace HB : Aside0 (Below w.heap.size w w29) := ⟨by rw [hw_]; exact qL HB⟩
    replace HI159 : Aside0 (IsS95 w w29 g159 t157 t175) := ⟨by rw [hw_]; exact qI HI159⟩
    rw [← hw_]
    clear hw_
    replace BK155 := az (blk_drew BK155.out)
    replace BK156 := az (blk_drew BK156.out)
    replace BK165 := az (blk_drew BK165.out)
    replace BK171 := az (blk_drew BK171.out)
    replace HI159 := az (IsS95.drew HI159.out)
    replace HB := az (below_drew1 HB.out)
    refine start_ (n := 4) (S := fun w' => w'.cell? ⟨gb165, 0, none⟩ = some (.int .i64 t160) ∧ w'.cell? ⟨gb165, 1, none⟩ = some (.int .i64 t161) ∧ w'.cell? ⟨gb165, 2, none⟩ = some (.int .i64 t162) ∧ w'.cell? ⟨gb165, 3, none⟩ = some (.int .i64 t163) ∧ w'.cell? ⟨gb171, 0, none⟩ = some (.int .i64 (wrap64 (t162 + t174))) ∧ w'.cell? ⟨gb171, 1, none⟩ = some (.int .i64 t167) ∧ w'.cell? ⟨gb171, 2, none⟩ = some (.int .i64 (wrap64 ((wrap64 (t162 + t174)) + 9))) ∧ w'.cell? ⟨gb171, 3, none⟩ = some (.int .i64 t169)) (ds := []) #[false, false, false, false] (by kernel_rfl) rfl rfl ⟨bc BK165 0, bc BK165 1, bc BK165 2, bc BK165 3, bc BK171 0, bc BK171 1, bc BK171 2, bc BK171 3⟩ (fun hHeld => ?_)
    generalize w29.drew = w30 at BK155 BK156 BK165 BK171 HI159 HB hHeld ⊢
    refine take_ (i := 0) (N := some 45) (v := ?_) (a' := ?_) #[true, false, false, false] rfl rfl (by kernel_rfl) (fun _ _ _ h => h) (Or.inl ⟨by rfl, ?_⟩) hHeld ?_ ?_
    rotate_left
    · rintro w' ⟨s0, s1, s2, s3, s4, s5, s6, s7⟩
      go_simp
      with_reducible rfl
    rotate_left
    · simp only [Act.put, List.setIfInBounds_toArray, List.set_cons_zero, List.set_cons_succ, i64_w, i32_w]
      rfl
    refine take_ (i := 1) (N := some 46) (v := ?_) (a' := ?_) #[true, true, false, false] rfl rfl (by kernel_rfl) (fun _ _ _ h => h) (Or.inl ⟨by rfl, ?_⟩) hHeld ?_ ?_
    rotate_left
    · rintro w' ⟨s0, s1, s2, s3, s4, s5, s6, s7⟩
      go_simp
      with_reducible rfl
    rotate_left
    · simp only [Act.put, List.setIfInBounds_toArray, List.set_cons_zero, List.set_cons_succ, i64_w, i32_w]
      rfl
    refine one_ (i := 2) (N := none) #[true, true, true, false] rfl rfl (by kernel_rfl) (by decide) (fun K hK => ?_)
    have hs31 : w30.cell? ⟨gb155, 0, none⟩ = some (.int .i64 0) := bc BK155 0
    have hfs31 := blk_frozen BK155.out 0
    have hns31_1 := NB156_155.out
    have hns31_2 := NB165_155.out
    have hns31_3 := NB171_155.out
    have hms31_1 := NB155_156.out
    have hms31_2 := NB155_165.out
    have hms31_3 := NB155_171.out
    have hs32 : w30.cell? ⟨gb155, 1, none⟩ = some (.int .i64 0) := bc BK155 1
    have hfs32 := blk_frozen BK155.out 1
    have hns32_1 := NB156_155.out
    have hns32_2 := NB165_155.out
    have hns32_3 := NB171_155.out
    have hms32_1 := NB155_156.out
    have hms32_2 := NB155_165.out
    have hms32_3 := NB155_171.out
    have hs33 : w30.cell? ⟨gb155, 2, none⟩ = some (.int .i64 0) := bc BK155 2
    have hfs33 := blk_frozen BK155.out 2
    have hns33_1 := NB156_155.out
    have hns33_2 := NB165_155.out
    have hns33_3 := NB171_155.out
    have hms33_1 := NB155_156.out
    have hms33_2 := NB155_165.out
    have hms33_3 := NB155_171.out
    have hs34 : w30.cell? ⟨gb155, 3, none⟩ = some (.int .i64 0) := bc BK155 3
    have hfs34 := blk_frozen BK155.out 3
    have hns34_1 := NB156_155.out
    have hns34_2 := NB165_155.out
    have hns34_3 := NB171_155.out
    have hms34_1 := NB155_156.out
    have hms34_2 := NB155_165.out
    have hms34_3 := NB155_171.out
    refine skip_ (w1 := ?_) ?hw ?hn ?_ ?_; (case hw => unfold Region.wanted; rfl); (case hn => rfl)
    rotate_left
    · go_simp
      rfl
    refine hK.out _ _ ⟨(cf NB165_155 ((cf NB165_155 ((cf NB165_155 ((cf NB165_155 (hHeld.1)))))))), (cf NB165_155 ((cf NB165_155 ((cf NB165_155 ((cf NB165_155 (hHeld.2.1)))))))), (cf NB165_155 ((cf NB165_155 ((cf NB165_155 ((cf NB165_155 (hHeld.2.2.1)))))))), (cf NB165_155 ((cf NB165_155 ((cf NB165_155 ((cf NB165_155 (hHeld.2.2.2.1)))))))), (cf NB171_155 ((cf NB171_155 ((cf NB171_155 ((cf NB171_155 (hHeld.2.2.2.2.1)))))))), (cf NB171_155 ((cf NB171_155 ((cf NB171_155 ((cf NB171_155 (hHeld.2.2.2.2.2.1)))))))), (cf NB171_155 ((cf NB171_155 ((cf NB171_155 ((cf NB171_155 (hHeld.2.2.2.2.2.2.1)))))))), (cf NB171_155 ((cf NB171_155 ((cf NB171_155 ((cf NB171_155 (hHeld.2.2.2.2.2.2.2))))))))⟩ (fun hHeld => ?_)
    clear hK K
    refine one_ (i := 3) (N := none) #[true, true, true, true] rfl rfl (by kernel_rfl) (by decide) (fun K hK => ?_)
    have hs35 : w30.cell? ⟨gb156, 0, none⟩ = some (.int .i64 0) := bc BK156 0
    have hfs35 := blk_frozen BK156.out 0
    have hns35_0 := NB155_156.out
    have hns35_2 := NB165_156.out
    have hns35_3 := NB171_156.out
    have hms35_0 := NB156_155.out
    have hms35_2 := NB156_165.out
    have hms35_3 := NB156_171.out
    have hs36 : w30.cell? ⟨gb156, 1, none⟩ = some (.int .i64 0) := bc BK156 1
    have hfs36 := blk_frozen BK156.out 1
    have hns36_0 := NB155_156.out
    have hns36_2 := NB165_156.out
    have hns36_3 := NB171_156.out
    have hms36_0 := NB156_155.out
    have hms36_2 := NB156_165.out
    have hms36_3 := NB156_171.out
    have hs37 : w30.cell? ⟨gb156, 2, none⟩ = some (.int .i64 0) := bc BK156 2
    have hfs37 := blk_frozen BK156.out 2
    have hns37_0 := NB155_156.out
    have hns37_2 := NB165_156.out
    have hns37_3 := NB171_156.out
    have hms37_0 := NB156_155.out
    have hms37_2 := NB156_165.out
    have hms37_3 := NB156_171.out
    have hs38 : w30.cell? ⟨gb156, 3, none⟩ = some (.int .i64 0) := bc BK156 3
    have hfs38 := blk_frozen BK156.out 3
    have hns38_0 := NB155_156.out
    have hns38_2 := NB165_156.out
    have hns38_3 := NB171_156.out
    have hms38_0 := NB156_155.out
    have hms38_2 := NB156_165.out
    have hms38_3 := NB156_171.out
    refine skip_ (w1 := ?_) ?hw ?hn ?_ ?_; (case hw => unfold Region.wanted; rfl); (case hn => rfl)
    rotate_left
    · go_simp
      rfl
    refine hK.out _ _ ⟨(cf NB165_156 ((cf NB165_156 ((cf NB165_156 ((cf NB165_156 (hHeld.1)))))))), (cf NB165_156 ((cf NB165_156 ((cf NB165_156 ((cf NB165_156 (hHeld.2.1)))))))), (cf NB165_156 ((cf NB165_156 ((cf NB165_156 ((cf NB165_156 (hHeld.2.2.1)))))))), (cf NB165_156 ((cf NB165_156 ((cf NB165_156 ((cf NB165_156 (hHeld.2.2.2.1)))))))), (cf NB171_156 ((cf NB171_156 ((cf NB171_156 ((cf NB171_156 (hHeld.2.2.2.2.1)))))))), (cf NB171_156 ((cf NB171_156 ((cf NB171_156 ((cf NB171_156 (hHeld.2.2.2.2.2.1)))))))), (cf NB171_156 ((cf NB171_156 ((cf NB171_156 ((cf NB171_156 (hHeld.2.2.2.2.2.2.1)))))))), (cf NB171_156 ((cf NB171_156 ((cf NB171_156 ((cf NB171_156 (hHeld.2.2.2.2.2.2.2))))))))⟩ (fun hHeld => ?_)
    clear hK K
    refine done_ (by kernel_rfl) ?_
    try go_wp2
    refine bodyPost_ret (results_cc rfl _ _ gb155 gb156 26 26 #[.int .i64 t160, .int .i64 t161, .int .i64 t162, .int .i64 t163] #[.int .i64 (wrap64 (t162 + t174)), .int .i64 t167, .int .i64 (wrap64 ((wrap64 (t162 + t174)) + 9)), .int .i64 t169] (0, 0) (0, 0) _ _ rfl (qP BK155) Try.underlying26 rfl (by kernel_rfl) rfl (qP BK156) Try.underlying26 rfl (by kernel_rfl)) rfl ?_
    exact ⟨qE, qL HB⟩
  rw [if_neg c6] at H
  have c6b0 : (t172 == 0) = false := beq_eq_false_iff_ne.mpr c6
  have c6b1 : (t172 != 0) = true := bne_iff_ne.mpr c6
  by_cases c39 : t172 = 1
  · rw [if_pos c39] at H
    have c39b0 : (t172 == 1) = true := beq_iff_eq.mpr c39
    have c39b1 : (t172 != 1) = false := bne_eq_false_iff_eq.mpr c39
    clear c39
    simp only [Option.some.injEq, Prod.mk.injEq] at H
    obtain ⟨rfl, rfl, rfl, rfl, rfl, rfl, rfl, rfl⟩ := H
    go_enter Try.func43, Try.ntmps43
    try go_wp2_with (first | ((with_reducible refine gate_dst (N := 2) rfl ?_); refine bx (N := 2) (cs := #[.int .i64 0, .int .i64 0, .int .i64 0, .int .i64 0]) (t := 26) ?_; intro gb155 hg w40 hbox hb; have BK155 := az hbox; have GW155 := az ((gE hg (qL HB) : w.heap.size ≤ gb155)); have GE155 := GW155; replace HB := bS HB hb; clear hb hbox hg) | ((with_reducible refine gate_dst (N := 3) rfl ?_); refine bx (N := 3) (cs := #[.int .i64 0, .int .i64 0, .int .i64 0, .int .i64 0]) (t := 26) ?_; intro gb156 hg w41 hbox hb; have BK156 := az hbox; have GW156 := az ((gE hg (qL HB) : w.heap.size ≤ gb156)); have GE156 := GW156; obtain ⟨NB155_156, NB156_155⟩ := nPB BK155 hg; replace BK155 := kBB BK155 hb; replace HB := bS HB hb; clear hb hbox hg) | ((with_reducible refine gate_callee (f := 59) rfl ?_); refine gl (some 8) Try.func59 #[.slice A0 l0.length c0] ?_; (with_reducible refine (spec_l1Open.calls _ _ l0 t157 t158 w _ ?side1 ?side2 ?side3 A2.out).mono ?_); (case side1 => exact qL HB); (case side2 => exact HR0.out); (case side3 => exact HC0.out); rintro e w42 ⟨g159, rfl, hi, hb, hb2⟩; refine ⟨_, rfl, ?_⟩; have HI159 := az hi; have NB159_155 := az (IsS95.ne_blk hi (blk_below (g := gb155) (o := .cells #[.int .i64 0, .int .i64 0, .int .i64 0, .int .i64 0] 26 (0, 0)) (qB BK155) hb2) (by decide)); have NB155_159 := az (Ne.symm (IsS95.ne_blk hi (blk_below (g := gb155) (o := .cells #[.int .i64 0, .int .i64 0, .int .i64 0, .int .i64 0] 26 (0, 0)) (qB BK155) hb2) (by decide))); have NB159_156 := az (IsS95.ne_blk hi (blk_below (g := gb156) (o := .cells #[.int .i64 0, .int .i64 0, .int .i64 0, .int .i64 0] 26 (0, 0)) (qB BK156) hb2) (by decide)); have NB156_159 := az (Ne.symm (IsS95.ne_blk hi (blk_below (g := gb156) (o := .cells #[.int .i64 0, .int .i64 0, .int .i64 0, .int .i64 0] 26 (0, 0)) (qB BK156) hb2) (by decide))); replace BK155 := az (blk_below (g := gb155) (o := .cells #[.int .i64 0, .int .i64 0, .int .i64 0, .int .i64 0] 26 (0, 0)) (qB BK155) hb2); replace BK156 := az (blk_below (g := gb156) (o := .cells #[.int .i64 0, .int .i64 0, .int .i64 0, .int .i64 0] 26 (0, 0)) (qB BK156) hb2); replace HB := az hb; clear hb2 hb hi) | ((with_reducible refine gate_callee (f := 85) rfl ?_); refine gl (some 10) Try.func85 #[.pointer (some ⟨g159, 0, none⟩)] ?_; (with_reducible refine (spec_l11AnyBox.calls k g159 t157 t158 t160 t161 t162 t163 t164 w _ ?side1 ?side2 A3.out).mono ?_); (case side1 => exact qI HI159); (case side2 => exact qL HB); rintro e w43 ⟨rfl, hi, hb, hk⟩; refine ⟨_, rfl, ?_⟩; replace BK155 := kKB BK155 hk NB155_159; replace BK156 := kKB BK156 hk NB156_159; replace HB := az hb; replace HI159 := az hi; clear hb hk hi) | ((with_reducible refine gate_dst (N := 5) rfl ?_); refine bx (N := 5) (cs := #[.int .i64 0, .int .i64 0, .int .i64 0, .int .i64 0]) (t := 26) ?_; intro gb165 hg w44 hbox hb; have BK165 := az hbox; have GW165 := az ((gE hg (qL HB) : w.heap.size ≤ gb165)); have GE165 := GW165; obtain ⟨NB155_165, NB165_155⟩ := nPB BK155 hg; obtain ⟨NB156_165, NB165_156⟩ := nPB BK156 hg; have NB159_165 := az ((by rw [hg]; exact Nat.ne_of_lt (IsS95.lt (show IsS95 w _ g159 t157 t164 from qI HI159)) : g159 ≠ gb165)); have NB165_159 := az ((by rw [hg]; exact Nat.ne_of_gt (IsS95.lt (show IsS95 w _ g159 t157 t164 from qI HI159)) : gb165 ≠ g159)); replace BK155 := kBB BK155 hb; replace BK156 := kBB BK156 hb; replace HI159 := az (IsS95.below (qI HI159) hb); replace HB := bS HB hb; clear hb hbox hg; have hnb45 := NB165_155.out; have hnc45 := NB155_165.out; have hnb46 := NB165_156.out; have hnc46 := NB156_165.out; have hnb47 := NB165_159.out; have hnc47 := NB159_165.out; obtain ⟨hcz48_0, hcz48_1, hcz48_2, hcz48_3⟩ := cz4 BK165.out; obtain ⟨hfz48_0, hfz48_1, hfz48_2, hfz48_3⟩ := fz4 BK165.out) | ((with_reducible refine gate_callee (f := 85) rfl ?_); refine gl (some 12) Try.func85 #[.pointer (some ⟨g159, 0, none⟩)] ?_; (with_reducible refine (spec_l11AnyBox.calls k g159 t157 t164 t166 t167 t168 t169 t170 w _ ?side1 ?side2 A4.out).mono ?_); (case side1 => exact qI HI159); (case side2 => exact qL HB); rintro e w49 ⟨rfl, hi, hb, hk⟩; refine ⟨_, rfl, ?_⟩; replace BK155 := kKF BK155 hk NB155_159; replace BK156 := kKF BK156 hk NB156_159; replace BK165 := kKP (o' := .cells #[.int .i64 t160, .int .i64 t161, .int .i64 t162, .int .i64 t163] 26 (0, 0)) BK165 hk NB165_159; replace HB := az hb; replace HI159 := az hi; clear hb hk hi) | ((with_reducible refine gate_dst (N := 6) rfl ?_); refine bx (N := 6) (cs := #[.int .i64 0, .int .i64 0, .int .i64 0, .int .i64 0]) (t := 26) ?_; intro gb171 hg w50 hbox hb; have BK171 := az hbox; have GW171 := az ((gE hg (qL HB) : w.heap.size ≤ gb171)); have GE171 := GW171; obtain ⟨NB155_171, NB171_155⟩ := nPB BK155 hg; obtain ⟨NB156_171, NB171_156⟩ := nPB BK156 hg; obtain ⟨NB165_171, NB171_165⟩ := nPB BK165 hg; have NB159_171 := az ((by rw [hg]; exact Nat.ne_of_lt (IsS95.lt (show IsS95 w _ g159 t157 t170 from qI HI159)) : g159 ≠ gb171)); have NB171_159 := az ((by rw [hg]; exact Nat.ne_of_gt (IsS95.lt (show IsS95 w _ g159 t157 t170 from qI HI159)) : gb171 ≠ g159)); replace BK155 := kBB BK155 hb; replace BK156 := kBB BK156 hb; replace HI159 := az (IsS95.below (qI HI159) hb); replace BK165 := kBB BK165 hb; replace HB := bS HB hb; clear hb hbox hg; have hnb51 := NB171_155.out; have hnc51 := NB155_171.out; have hnb52 := NB171_156.out; have hnc52 := NB156_171.out; have hnb53 := NB171_165.out; have hnc53 := NB165_171.out; have hnb54 := NB171_159.out; have hnc54 := NB159_171.out; obtain ⟨hcz55_0, hcz55_1, hcz55_2, hcz55_3⟩ := cz4 BK171.out; obtain ⟨hfz55_0, hfz55_1, hfz55_2, hfz55_3⟩ := fz4 BK171.out) | ((with_reducible refine gate_callee (f := 62) rfl ?_); refine gl (some 14) Try.func62 #[.pointer (some ⟨g159, 0, none⟩), .int .i64 5] ?_; (with_reducible refine (spec_l1Rd_pick.calls k g159 t157 t170 5 t172 t173 w _ ?side1 ?side2 A5.out).mono ?_); (case side1 => exact qI HI159); (case side2 => exact qL HB); rintro e w56 ⟨rfl, hi, hb, hk⟩; refine ⟨_, rfl, ?_⟩; replace BK155 := kKF BK155 hk NB155_159; replace BK156 := kKF BK156 hk NB156_159; replace BK165 := kKF BK165 hk NB165_159; replace BK171 := kKP (o' := .cells #[.int .i64 t166, .int .i64 t167, .int .i64 t168, .int .i64 t169] 26 (0, 0)) BK171 hk NB171_159; replace HB := az hb; replace HI159 := az hi; clear hb hk hi))
    replace BK155 := az (blk_drew BK155.out)
    replace BK156 := az (blk_drew BK156.out)
    replace BK165 := az (blk_drew BK165.out)
    replace BK171 := az (blk_drew BK171.out)
    replace HI159 := az (IsS95.drew HI159.out)
    replace HB := az (below_drew1 HB.out)
    refine start_ (n := 4) (S := fun w' => w'.cell? ⟨gb165, 0, none⟩ = some (.int .i64 t160) ∧ w'.cell? ⟨gb165, 1, none⟩ = some (.int .i64 t161) ∧ w'.cell? ⟨gb165, 2, none⟩ = some (.int .i64 t162) ∧ w'.cell? ⟨gb165, 3, none⟩ = some (.int .i64 t163)) (ds := []) #[false, false, false, false] (by kernel_rfl) rfl rfl ⟨bc BK165 0, bc BK165 1, bc BK165 2, bc BK165 3⟩ (fun hHeld => ?_)
    generalize w56.drew = w57 at BK155 BK156 BK165 BK171 HI159 HB hHeld ⊢
    refine take_ (i := 0) (N := some 33) (v := ?_) (a' := ?_) #[true, false, false, false] rfl rfl (by kernel_rfl) (fun _ _ _ h => h) (Or.inl ⟨by rfl, ?_⟩) hHeld ?_ ?_
    rotate_left
    · rintro w' ⟨s0, s1, s2, s3⟩
      go_simp
      with_reducible rfl
    rotate_left
    · simp only [Act.put, List.setIfInBounds_toArray, List.set_cons_zero, List.set_cons_succ, i64_w, i32_w]
      rfl
    refine take_ (i := 1) (N := some 34) (v := ?_) (a' := ?_) #[true, true, false, false] rfl rfl (by kernel_rfl) (fun _ _ _ h => h) (Or.inl ⟨by rfl, ?_⟩) hHeld ?_ ?_
    rotate_left
    · rintro w' ⟨s0, s1, s2, s3⟩
      go_simp
      with_reducible rfl
    rotate_left
    · simp only [Act.put, List.setIfInBounds_toArray, List.set_cons_zero, List.set_cons_succ, i64_w, i32_w]
      rfl
    refine one_ (i := 2) (N := none) #[true, true, true, false] rfl rfl (by kernel_rfl) (by decide) (fun K hK => ?_)
    have hs58 : w57.cell? ⟨gb155, 0, none⟩ = some (.int .i64 0) := bc BK155 0
    have hfs58 := blk_frozen BK155.out 0
    have hns58_1 := NB156_155.out
    have hns58_2 := NB165_155.out
    have hns58_3 := NB171_155.out
    have hms58_1 := NB155_156.out
    have hms58_2 := NB155_165.out
    have hms58_3 := NB155_171.out
    have hs59 : w57.cell? ⟨gb155, 1, none⟩ = some (.int .i64 0) := bc BK155 1
    have hfs59 := blk_frozen BK155.out 1
    have hns59_1 := NB156_155.out
    have hns59_2 := NB165_155.out
    have hns59_3 := NB171_155.out
    have hms59_1 := NB155_156.out
    have hms59_2 := NB155_165.out
    have hms59_3 := NB155_171.out
    have hs60 : w57.cell? ⟨gb155, 2, none⟩ = some (.int .i64 0) := bc BK155 2
    have hfs60 := blk_frozen BK155.out 2
    have hns60_1 := NB156_155.out
    have hns60_2 := NB165_155.out
    have hns60_3 := NB171_155.out
    have hms60_1 := NB155_156.out
    have hms60_2 := NB155_165.out
    have hms60_3 := NB155_171.out
    have hs61 : w57.cell? ⟨gb155, 3, none⟩ = some (.int .i64 0) := bc BK155 3
    have hfs61 := blk_frozen BK155.out 3
    have hns61_1 := NB156_155.out
    have hns61_2 := NB165_155.out
    have hns61_3 := NB171_155.out
    have hms61_1 := NB155_156.out
    have hms61_2 := NB155_165.out
    have hms61_3 := NB155_171.out
    refine skip_ (w1 := ?_) ?hw ?hn ?_ ?_; (case hw => unfold Region.wanted; rfl); (case hn => rfl)
    rotate_left
    · go_simp
      rfl
    refine hK.out _ _ ⟨(cf NB165_155 ((cf NB165_155 ((cf NB165_155 ((cf NB165_155 (hHeld.1)))))))), (cf NB165_155 ((cf NB165_155 ((cf NB165_155 ((cf NB165_155 (hHeld.2.1)))))))), (cf NB165_155 ((cf NB165_155 ((cf NB165_155 ((cf NB165_155 (hHeld.2.2.1)))))))), (cf NB165_155 ((cf NB165_155 ((cf NB165_155 ((cf NB165_155 (hHeld.2.2.2))))))))⟩ (fun hHeld => ?_)
    clear hK K
    refine one_ (i := 3) (N := none) #[true, true, true, true] rfl rfl (by kernel_rfl) (by decide) (fun K hK => ?_)
    have hs62 : w57.cell? ⟨gb156, 0, none⟩ = some (.int .i64 0) := bc BK156 0
    have hfs62 := blk_frozen BK156.out 0
    have hns62_0 := NB155_156.out
    have hns62_2 := NB165_156.out
    have hns62_3 := NB171_156.out
    have hms62_0 := NB156_155.out
    have hms62_2 := NB156_165.out
    have hms62_3 := NB156_171.out
    have hs63 : w57.cell? ⟨gb156, 1, none⟩ = some (.int .i64 0) := bc BK156 1
    have hfs63 := blk_frozen BK156.out 1
    have hns63_0 := NB155_156.out
    have hns63_2 := NB165_156.out
    have hns63_3 := NB171_156.out
    have hms63_0 := NB156_155.out
    have hms63_2 := NB156_165.out
    have hms63_3 := NB156_171.out
    have hs64 : w57.cell? ⟨gb156, 2, none⟩ = some (.int .i64 0) := bc BK156 2
    have hfs64 := blk_frozen BK156.out 2
    have hns64_0 := NB155_156.out
    have hns64_2 := NB165_156.out
    have hns64_3 := NB171_156.out
    have hms64_0 := NB156_155.out
    have hms64_2 := NB156_165.out
    have hms64_3 := NB156_171.out
    have hs65 : w57.cell? ⟨gb156, 3, none⟩ = some (.int .i64 0) := bc BK156 3
    have hfs65 := blk_frozen BK156.out 3
    have hns65_0 := NB155_156.out
    have hns65_2 := NB165_156.out
    have hns65_3 := NB171_156.out
    have hms65_0 := NB156_155.out
    have hms65_2 := NB156_165.out
    have hms65_3 := NB156_171.out
    refine skip_ (w1 := ?_) ?hw ?hn ?_ ?_; (case hw => unfold Region.wanted; rfl); (case hn => rfl)
    rotate_left
    · go_simp
      rfl
    refine hK.out _ _ ⟨(cf NB165_156 ((cf NB165_156 ((cf NB165_156 ((cf NB165_156 (hHeld.1)))))))), (cf NB165_156 ((cf NB165_156 ((cf NB165_156 ((cf NB165_156 (hHeld.2.1)))))))), (cf NB165_156 ((cf NB165_156 ((cf NB165_156 ((cf NB165_156 (hHeld.2.2.1)))))))), (cf NB165_156 ((cf NB165_156 ((cf NB165_156 ((cf NB165_156 (hHeld.2.2.2))))))))⟩ (fun hHeld => ?_)
    clear hK K
    refine done_ (by kernel_rfl) ?_
    try go_wp2
    refine bodyPost_ret (results_cc rfl _ _ gb155 gb156 26 26 #[.int .i64 t160, .int .i64 t161, .int .i64 t162, .int .i64 t163] #[.int .i64 t160, .int .i64 t161, .int .i64 t162, .int .i64 t163] (0, 0) (0, 0) _ _ rfl (qP BK155) Try.underlying26 rfl (by kernel_rfl) rfl (qP BK156) Try.underlying26 rfl (by kernel_rfl)) rfl ?_
    exact ⟨qE, qL HB⟩
  rw [if_neg c39] at H
  have c39b0 : (t172 == 1) = false := beq_eq_false_iff_ne.mpr c39
  have c39b1 : (t172 != 1) = true := bne_iff_ne.mpr c39
  by_cases c66 : t172 = 2
  · rw [if_pos c66] at H
    have c66b0 : (t172 == 2) = true := beq_iff_eq.mpr c66
    have c66b1 : (t172 != 2) = false := bne_eq_false_iff_eq.mpr c66
    clear c66
    replace H := qH H
    obtain ⟨⟨t176, t177⟩, A67, H⟩ := H
    try dsimp only at H
    simp only [Option.some.injEq, Prod.mk.injEq] at H
    obtain ⟨rfl, rfl, rfl, rfl, rfl, rfl, rfl, rfl⟩ := H
    go_enter Try.func43, Try.ntmps43
    try go_wp2_with (first | ((with_reducible refine gate_dst (N := 2) rfl ?_); refine bx (N := 2) (cs := #[.int .i64 0, .int .i64 0, .int .i64 0, .int .i64 0]) (t := 26) ?_; intro gb155 hg w68 hbox hb; have BK155 := az hbox; have GW155 := az ((gE hg (qL HB) : w.heap.size ≤ gb155)); have GE155 := GW155; replace HB := bS HB hb; clear hb hbox hg) | ((with_reducible refine gate_dst (N := 3) rfl ?_); refine bx (N := 3) (cs := #[.int .i64 0, .int .i64 0, .int .i64 0, .int .i64 0]) (t := 26) ?_; intro gb156 hg w69 hbox hb; have BK156 := az hbox; have GW156 := az ((gE hg (qL HB) : w.heap.size ≤ gb156)); have GE156 := GW156; obtain ⟨NB155_156, NB156_155⟩ := nPB BK155 hg; replace BK155 := kBB BK155 hb; replace HB := bS HB hb; clear hb hbox hg) | ((with_reducible refine gate_callee (f := 59) rfl ?_); refine gl (some 8) Try.func59 #[.slice A0 l0.length c0] ?_; (with_reducible refine (spec_l1Open.calls _ _ l0 t157 t158 w _ ?side1 ?side2 ?side3 A2.out).mono ?_); (case side1 => exact qL HB); (case side2 => exact HR0.out); (case side3 => exact HC0.out); rintro e w70 ⟨g159, rfl, hi, hb, hb2⟩; refine ⟨_, rfl, ?_⟩; have HI159 := az hi; have NB159_155 := az (IsS95.ne_blk hi (blk_below (g := gb155) (o := .cells #[.int .i64 0, .int .i64 0, .int .i64 0, .int .i64 0] 26 (0, 0)) (qB BK155) hb2) (by decide)); have NB155_159 := az (Ne.symm (IsS95.ne_blk hi (blk_below (g := gb155) (o := .cells #[.int .i64 0, .int .i64 0, .int .i64 0, .int .i64 0] 26 (0, 0)) (qB BK155) hb2) (by decide))); have NB159_156 := az (IsS95.ne_blk hi (blk_below (g := gb156) (o := .cells #[.int .i64 0, .int .i64 0, .int .i64 0, .int .i64 0] 26 (0, 0)) (qB BK156) hb2) (by decide)); have NB156_159 := az (Ne.symm (IsS95.ne_blk hi (blk_below (g := gb156) (o := .cells #[.int .i64 0, .int .i64 0, .int .i64 0, .int .i64 0] 26 (0, 0)) (qB BK156) hb2) (by decide))); replace BK155 := az (blk_below (g := gb155) (o := .cells #[.int .i64 0, .int .i64 0, .int .i64 0, .int .i64 0] 26 (0, 0)) (qB BK155) hb2); replace BK156 := az (blk_below (g := gb156) (o := .cells #[.int .i64 0, .int .i64 0, .int .i64 0, .int .i64 0] 26 (0, 0)) (qB BK156) hb2); replace HB := az hb; clear hb2 hb hi) | ((with_reducible refine gate_callee (f := 85) rfl ?_); refine gl (some 10) Try.func85 #[.pointer (some ⟨g159, 0, none⟩)] ?_; (with_reducible refine (spec_l11AnyBox.calls k g159 t157 t158 t160 t161 t162 t163 t164 w _ ?side1 ?side2 A3.out).mono ?_); (case side1 => exact qI HI159); (case side2 => exact qL HB); rintro e w71 ⟨rfl, hi, hb, hk⟩; refine ⟨_, rfl, ?_⟩; replace BK155 := kKB BK155 hk NB155_159; replace BK156 := kKB BK156 hk NB156_159; replace HB := az hb; replace HI159 := az hi; clear hb hk hi) | ((with_reducible refine gate_dst (N := 5) rfl ?_); refine bx (N := 5) (cs := #[.int .i64 0, .int .i64 0, .int .i64 0, .int .i64 0]) (t := 26) ?_; intro gb165 hg w72 hbox hb; have BK165 := az hbox; have GW165 := az ((gE hg (qL HB) : w.heap.size ≤ gb165)); have GE165 := GW165; obtain ⟨NB155_165, NB165_155⟩ := nPB BK155 hg; obtain ⟨NB156_165, NB165_156⟩ := nPB BK156 hg; have NB159_165 := az ((by rw [hg]; exact Nat.ne_of_lt (IsS95.lt (show IsS95 w _ g159 t157 t164 from qI HI159)) : g159 ≠ gb165)); have NB165_159 := az ((by rw [hg]; exact Nat.ne_of_gt (IsS95.lt (show IsS95 w _ g159 t157 t164 from qI HI159)) : gb165 ≠ g159)); replace BK155 := kBB BK155 hb; replace BK156 := kBB BK156 hb; replace HI159 := az (IsS95.below (qI HI159) hb); replace HB := bS HB hb; clear hb hbox hg; have hnb73 := NB165_155.out; have hnc73 := NB155_165.out; have hnb74 := NB165_156.out; have hnc74 := NB156_165.out; have hnb75 := NB165_159.out; have hnc75 := NB159_165.out; obtain ⟨hcz76_0, hcz76_1, hcz76_2, hcz76_3⟩ := cz4 BK165.out; obtain ⟨hfz76_0, hfz76_1, hfz76_2, hfz76_3⟩ := fz4 BK165.out) | ((with_reducible refine gate_callee (f := 85) rfl ?_); refine gl (some 12) Try.func85 #[.pointer (some ⟨g159, 0, none⟩)] ?_; (with_reducible refine (spec_l11AnyBox.calls k g159 t157 t164 t166 t167 t168 t169 t170 w _ ?side1 ?side2 A4.out).mono ?_); (case side1 => exact qI HI159); (case side2 => exact qL HB); rintro e w77 ⟨rfl, hi, hb, hk⟩; refine ⟨_, rfl, ?_⟩; replace BK155 := kKF BK155 hk NB155_159; replace BK156 := kKF BK156 hk NB156_159; replace BK165 := kKP (o' := .cells #[.int .i64 t160, .int .i64 t161, .int .i64 t162, .int .i64 t163] 26 (0, 0)) BK165 hk NB165_159; replace HB := az hb; replace HI159 := az hi; clear hb hk hi) | ((with_reducible refine gate_dst (N := 6) rfl ?_); refine bx (N := 6) (cs := #[.int .i64 0, .int .i64 0, .int .i64 0, .int .i64 0]) (t := 26) ?_; intro gb171 hg w78 hbox hb; have BK171 := az hbox; have GW171 := az ((gE hg (qL HB) : w.heap.size ≤ gb171)); have GE171 := GW171; obtain ⟨NB155_171, NB171_155⟩ := nPB BK155 hg; obtain ⟨NB156_171, NB171_156⟩ := nPB BK156 hg; obtain ⟨NB165_171, NB171_165⟩ := nPB BK165 hg; have NB159_171 := az ((by rw [hg]; exact Nat.ne_of_lt (IsS95.lt (show IsS95 w _ g159 t157 t170 from qI HI159)) : g159 ≠ gb171)); have NB171_159 := az ((by rw [hg]; exact Nat.ne_of_gt (IsS95.lt (show IsS95 w _ g159 t157 t170 from qI HI159)) : gb171 ≠ g159)); replace BK155 := kBB BK155 hb; replace BK156 := kBB BK156 hb; replace HI159 := az (IsS95.below (qI HI159) hb); replace BK165 := kBB BK165 hb; replace HB := bS HB hb; clear hb hbox hg; have hnb79 := NB171_155.out; have hnc79 := NB155_171.out; have hnb80 := NB171_156.out; have hnc80 := NB156_171.out; have hnb81 := NB171_165.out; have hnc81 := NB165_171.out; have hnb82 := NB171_159.out; have hnc82 := NB159_171.out; obtain ⟨hcz83_0, hcz83_1, hcz83_2, hcz83_3⟩ := cz4 BK171.out; obtain ⟨hfz83_0, hfz83_1, hfz83_2, hfz83_3⟩ := fz4 BK171.out) | ((with_reducible refine gate_callee (f := 62) rfl ?_); refine gl (some 14) Try.func62 #[.pointer (some ⟨g159, 0, none⟩), .int .i64 5] ?_; (with_reducible refine (spec_l1Rd_pick.calls k g159 t157 t170 5 t172 t173 w _ ?side1 ?side2 A5.out).mono ?_); (case side1 => exact qI HI159); (case side2 => exact qL HB); rintro e w84 ⟨rfl, hi, hb, hk⟩; refine ⟨_, rfl, ?_⟩; replace BK155 := kKF BK155 hk NB155_159; replace BK156 := kKF BK156 hk NB156_159; replace BK165 := kKF BK165 hk NB165_159; replace BK171 := kKP (o' := .cells #[.int .i64 t166, .int .i64 t167, .int .i64 t168, .int .i64 t169] 26 (0, 0)) BK171 hk NB171_159; replace HB := az hb; replace HI159 := az hi; clear hb hk hi))
    replace BK155 := az (blk_drew BK155.out)
    replace BK156 := az (blk_drew BK156.out)
    replace BK165 := az (blk_drew BK165.out)
    replace BK171 := az (blk_drew BK171.out)
    replace HI159 := az (IsS95.drew HI159.out)
    replace HB := az (below_drew1 HB.out)
    refine start_ (n := 10) (S := fun w' => w'.cell? ⟨gb165, 0, none⟩ = some (.int .i64 t160) ∧ w'.cell? ⟨gb165, 1, none⟩ = some (.int .i64 t161) ∧ w'.cell? ⟨gb165, 2, none⟩ = some (.int .i64 t162) ∧ w'.cell? ⟨gb165, 3, none⟩ = some (.int .i64 t163) ∧ w'.cell? ⟨gb171, 0, none⟩ = some (.int .i64 t166) ∧ w'.cell? ⟨gb171, 1, none⟩ = some (.int .i64 t167) ∧ w'.cell? ⟨gb171, 2, none⟩ = some (.int .i64 t168) ∧ w'.cell? ⟨gb171, 3, none⟩ = some (.int .i64 t169)) (ds := []) #[false, false, false, false, false, false, false, false, false, false] (by kernel_rfl) rfl rfl ⟨bc BK165 0, bc BK165 1, bc BK165 2, bc BK165 3, bc BK171 0, bc BK171 1, bc BK171 2, bc BK171 3⟩ (fun hHeld => ?_); refine with_tabW spec_DrawBoxMeets.tab11 spec_DrawBoxMeets.bits11 (fun HT_ HW_ => ?_)
    generalize w84.drew = w85 at BK155 BK156 BK165 BK171 HI159 HB hHeld ⊢
    refine pu 1 (some 38) (fl 10 2) HT_ ?_
    refine pu 4 (some 41) (fl 10 18) HT_ ?_
    refine tk8 0 (some 37) (fl 10 19) HT_ HW_ hHeld ?_
    refine tk8 2 (some 39) (fl 10 23) HT_ HW_ hHeld ?_
    refine tk8 3 (some 40) (fl 10 31) HT_ HW_ hHeld ?_
    refine tk8 5 (some 42) (fl 10 63) HT_ HW_ hHeld ?_
    refine on 6 (some 43) (fl 10 127) HT_ (fun K hK => ?_)
    refine go1 Try.func86 #[.agg #[.int .i64 t160, .int .i64 t161, .int .i64 t162, .int .i64 t163], .agg #[.int .i64 t168, .int .i64 t169]] ?_
    with_reducible refine (spec_l3Near.calls t160 t161 t162 t163 t168 t169 t176 t177 _ A67.out).mono ?_
    rintro e w86 ⟨rfl, hb⟩
    refine ⟨_, rfl, ?_⟩
    replace BK155 := kBB BK155 hb
    replace BK156 := kBB BK156 hb
    replace HI159 := az (IsS95.below (qI HI159) hb)
    replace BK165 := kBB BK165 hb
    replace BK171 := kBB BK171 hb
    replace HB := bS HB hb
    clear hb
    refine hK.out _ _ ⟨bc BK165 0, bc BK165 1, bc BK165 2, bc BK165 3, bc BK171 0, bc BK171 1, bc BK171 2, bc BK171 3⟩ (fun hHeld => ?_)
    clear hK K
    refine nm (some 43) ?_
    refine pu 7 (some 44) (fl 10 255) HT_ ?_
    refine on 8 (none) (fl 10 511) HT_ (fun K hK => ?_)
    have hs87 : w86.cell? ⟨gb155, 0, none⟩ = some (.int .i64 0) := bc BK155 0
    have hfs87 := blk_frozen BK155.out 0
    have hns87_1 := NB156_155.out
    have hns87_2 := NB165_155.out
    have hns87_3 := NB171_155.out
    have hms87_1 := NB155_156.out
    have hms87_2 := NB155_165.out
    have hms87_3 := NB155_171.out
    have hs88 : w86.cell? ⟨gb155, 1, none⟩ = some (.int .i64 0) := bc BK155 1
    have hfs88 := blk_frozen BK155.out 1
    have hns88_1 := NB156_155.out
    have hns88_2 := NB165_155.out
    have hns88_3 := NB171_155.out
    have hms88_1 := NB155_156.out
    have hms88_2 := NB155_165.out
    have hms88_3 := NB155_171.out
    have hs89 : w86.cell? ⟨gb155, 2, none⟩ = some (.int .i64 0) := bc BK155 2
    have hfs89 := blk_frozen BK155.out 2
    have hns89_1 := NB156_155.out
    have hns89_2 := NB165_155.out
    have hns89_3 := NB171_155.out
    have hms89_1 := NB155_156.out
    have hms89_2 := NB155_165.out
    have hms89_3 := NB155_171.out
    have hs90 : w86.cell? ⟨gb155, 3, none⟩ = some (.int .i64 0) := bc BK155 3
    have hfs90 := blk_frozen BK155.out 3
    have hns90_1 := NB156_155.out
    have hns90_2 := NB165_155.out
    have hns90_3 := NB171_155.out
    have hms90_1 := NB155_156.out
    have hms90_2 := NB155_165.out
    have hms90_3 := NB155_171.out
    refine skip_ (w1 := ?_) ?hw ?hn ?_ ?_; (case hw => unfold Region.wanted; rfl); (case hn => rfl)
    rotate_left
    · go_simp
      rfl
    refine hK.out _ _ ⟨(cf NB165_155 ((cf NB165_155 ((cf NB165_155 ((cf NB165_155 (hHeld.1)))))))), (cf NB165_155 ((cf NB165_155 ((cf NB165_155 ((cf NB165_155 (hHeld.2.1)))))))), (cf NB165_155 ((cf NB165_155 ((cf NB165_155 ((cf NB165_155 (hHeld.2.2.1)))))))), (cf NB165_155 ((cf NB165_155 ((cf NB165_155 ((cf NB165_155 (hHeld.2.2.2.1)))))))), (cf NB171_155 ((cf NB171_155 ((cf NB171_155 ((cf NB171_155 (hHeld.2.2.2.2.1)))))))), (cf NB171_155 ((cf NB171_155 ((cf NB171_155 ((cf NB171_155 (hHeld.2.2.2.2.2.1)))))))), (cf NB171_155 ((cf NB171_155 ((cf NB171_155 ((cf NB171_155 (hHeld.2.2.2.2.2.2.1)))))))), (cf NB171_155 ((cf NB171_155 ((cf NB171_155 ((cf NB171_155 (hHeld.2.2.2.2.2.2.2))))))))⟩ (fun hHeld => ?_)
    clear hK K
    refine on 9 (none) (fl 10 1023) HT_ (fun K hK => ?_)
    have hs91 : w86.cell? ⟨gb156, 0, none⟩ = some (.int .i64 0) := bc BK156 0
    have hfs91 := blk_frozen BK156.out 0
    have hns91_0 := NB155_156.out
    have hns91_2 := NB165_156.out
    have hns91_3 := NB171_156.out
    have hms91_0 := NB156_155.out
    have hms91_2 := NB156_165.out
    have hms91_3 := NB156_171.out
    have hs92 : w86.cell? ⟨gb156, 1, none⟩ = some (.int .i64 0) := bc BK156 1
    have hfs92 := blk_frozen BK156.out 1
    have hns92_0 := NB155_156.out
    have hns92_2 := NB165_156.out
    have hns92_3 := NB171_156.out
    have hms92_0 := NB156_155.out
    have hms92_2 := NB156_165.out
    have hms92_3 := NB156_171.out
    have hs93 : w86.cell? ⟨gb156, 2, none⟩ = some (.int .i64 0) := bc BK156 2
    have hfs93 := blk_frozen BK156.out 2
    have hns93_0 := NB155_156.out
    have hns93_2 := NB165_156.out
    have hns93_3 := NB171_156.out
    have hms93_0 := NB156_155.out
    have hms93_2 := NB156_165.out
    have hms93_3 := NB156_171.out
    have hs94 : w86.cell? ⟨gb156, 3, none⟩ = some (.int .i64 0) := bc BK156 3
    have hfs94 := blk_frozen BK156.out 3
    have hns94_0 := NB155_156.out
    have hns94_2 := NB165_156.out
    have hns94_3 := NB171_156.out
    have hms94_0 := NB156_155.out
    have hms94_2 := NB156_165.out
    have hms94_3 := NB156_171.out
    refine skip_ (w1 := ?_) ?hw ?hn ?_ ?_; (case hw => unfold Region.wanted; rfl); (case hn => rfl)
    rotate_left
    · go_simp
      rfl
    refine hK.out _ _ ⟨(cf NB165_156 ((cf NB165_156 ((cf NB165_156 ((cf NB165_156 (hHeld.1)))))))), (cf NB165_156 ((cf NB165_156 ((cf NB165_156 ((cf NB165_156 (hHeld.2.1)))))))), (cf NB165_156 ((cf NB165_156 ((cf NB165_156 ((cf NB165_156 (hHeld.2.2.1)))))))), (cf NB165_156 ((cf NB165_156 ((cf NB165_156 ((cf NB165_156 (hHeld.2.2.2.1)))))))), (cf NB171_156 ((cf NB171_156 ((cf NB171_156 ((cf NB171_156 (hHeld.2.2.2.2.1)))))))), (cf NB171_156 ((cf NB171_156 ((cf NB171_156 ((cf NB171_156 (hHeld.2.2.2.2.2.1)))))))), (cf NB171_156 ((cf NB171_156 ((cf NB171_156 ((cf NB171_156 (hHeld.2.2.2.2.2.2.1)))))))), (cf NB171_156 ((cf NB171_156 ((cf NB171_156 ((cf NB171_156 (hHeld.2.2.2.2.2.2.2))))))))⟩ (fun hHeld => ?_)
    clear hK K
    refine done_ (done_of HT_.out (by kernel_rfl)) ?_
    try go_wp2
    refine bodyPost_ret (results_cc rfl _ _ gb155 gb156 26 26 #[.int .i64 t160, .int .i64 t161, .int .i64 t162, .int .i64 t163] #[.int .i64 t160, .int .i64 t161, .int .i64 t176, .int .i64 t177] (0, 0) (0, 0) _ _ rfl (qP BK155) Try.underlying26 rfl (by kernel_rfl) rfl (qP BK156) Try.underlying26 rfl (by kernel_rfl)) rfl ?_
    exact ⟨qE, qL HB⟩
  rw [if_neg c66] at H
  have c66b0 : (t172 == 2) = false := beq_eq_false_iff_ne.mpr c66
  have c66b1 : (t172 != 2) = true := bne_iff_ne.mpr c66
  simp only [Option.some.injEq, Prod.mk.injEq] at H
  obtain ⟨rfl, rfl, rfl, rfl, rfl, rfl, rfl, rfl⟩ := H
  go_enter Try.func43, Try.ntmps43
  try go_wp2_with (first | ((with_reducible refine gate_dst (N := 2) rfl ?_); refine bx (N := 2) (cs := #[.int .i64 0, .int .i64 0, .int .i64 0, .int .i64 0]) (t := 26) ?_; intro gb155 hg w95 hbox hb; have BK155 := az hbox; have GW155 := az ((gE hg (qL HB) : w.heap.size ≤ gb155)); have GE155 := GW155; replace HB := bS HB hb; clear hb hbox hg) | ((with_reducible refine gate_dst (N := 3) rfl ?_); refine bx (N := 3) (cs := #[.int .i64 0, .int .i64 0, .int .i64 0, .int .i64 0]) (t := 26) ?_; intro gb156 hg w96 hbox hb; have BK156 := az hbox; have GW156 := az ((gE hg (qL HB) : w.heap.size ≤ gb156)); have GE156 := GW156; obtain ⟨NB155_156, NB156_155⟩ := nPB BK155 hg; replace BK155 := kBB BK155 hb; replace HB := bS HB hb; clear hb hbox hg) | ((with_reducible refine gate_callee (f := 59) rfl ?_); refine gl (some 8) Try.func59 #[.slice A0 l0.length c0] ?_; (with_reducible refine (spec_l1Open.calls _ _ l0 t157 t158 w _ ?side1 ?side2 ?side3 A2.out).mono ?_); (case side1 => exact qL HB); (case side2 => exact HR0.out); (case side3 => exact HC0.out); rintro e w97 ⟨g159, rfl, hi, hb, hb2⟩; refine ⟨_, rfl, ?_⟩; have HI159 := az hi; have NB159_155 := az (IsS95.ne_blk hi (blk_below (g := gb155) (o := .cells #[.int .i64 0, .int .i64 0, .int .i64 0, .int .i64 0] 26 (0, 0)) (qB BK155) hb2) (by decide)); have NB155_159 := az (Ne.symm (IsS95.ne_blk hi (blk_below (g := gb155) (o := .cells #[.int .i64 0, .int .i64 0, .int .i64 0, .int .i64 0] 26 (0, 0)) (qB BK155) hb2) (by decide))); have NB159_156 := az (IsS95.ne_blk hi (blk_below (g := gb156) (o := .cells #[.int .i64 0, .int .i64 0, .int .i64 0, .int .i64 0] 26 (0, 0)) (qB BK156) hb2) (by decide)); have NB156_159 := az (Ne.symm (IsS95.ne_blk hi (blk_below (g := gb156) (o := .cells #[.int .i64 0, .int .i64 0, .int .i64 0, .int .i64 0] 26 (0, 0)) (qB BK156) hb2) (by decide))); replace BK155 := az (blk_below (g := gb155) (o := .cells #[.int .i64 0, .int .i64 0, .int .i64 0, .int .i64 0] 26 (0, 0)) (qB BK155) hb2); replace BK156 := az (blk_below (g := gb156) (o := .cells #[.int .i64 0, .int .i64 0, .int .i64 0, .int .i64 0] 26 (0, 0)) (qB BK156) hb2); replace HB := az hb; clear hb2 hb hi) | ((with_reducible refine gate_callee (f := 85) rfl ?_); refine gl (some 10) Try.func85 #[.pointer (some ⟨g159, 0, none⟩)] ?_; (with_reducible refine (spec_l11AnyBox.calls k g159 t157 t158 t160 t161 t162 t163 t164 w _ ?side1 ?side2 A3.out).mono ?_); (case side1 => exact qI HI159); (case side2 => exact qL HB); rintro e w98 ⟨rfl, hi, hb, hk⟩; refine ⟨_, rfl, ?_⟩; replace BK155 := kKB BK155 hk NB155_159; replace BK156 := kKB BK156 hk NB156_159; replace HB := az hb; replace HI159 := az hi; clear hb hk hi) | ((with_reducible refine gate_dst (N := 5) rfl ?_); refine bx (N := 5) (cs := #[.int .i64 0, .int .i64 0, .int .i64 0, .int .i64 0]) (t := 26) ?_; intro gb165 hg w99 hbox hb; have BK165 := az hbox; have GW165 := az ((gE hg (qL HB) : w.heap.size ≤ gb165)); have GE165 := GW165; obtain ⟨NB155_165, NB165_155⟩ := nPB BK155 hg; obtain ⟨NB156_165, NB165_156⟩ := nPB BK156 hg; have NB159_165 := az ((by rw [hg]; exact Nat.ne_of_lt (IsS95.lt (show IsS95 w _ g159 t157 t164 from qI HI159)) : g159 ≠ gb165)); have NB165_159 := az ((by rw [hg]; exact Nat.ne_of_gt (IsS95.lt (show IsS95 w _ g159 t157 t164 from qI HI159)) : gb165 ≠ g159)); replace BK155 := kBB BK155 hb; replace BK156 := kBB BK156 hb; replace HI159 := az (IsS95.below (qI HI159) hb); replace HB := bS HB hb; clear hb hbox hg; have hnb100 := NB165_155.out; have hnc100 := NB155_165.out; have hnb101 := NB165_156.out; have hnc101 := NB156_165.out; have hnb102 := NB165_159.out; have hnc102 := NB159_165.out; obtain ⟨hcz103_0, hcz103_1, hcz103_2, hcz103_3⟩ := cz4 BK165.out; obtain ⟨hfz103_0, hfz103_1, hfz103_2, hfz103_3⟩ := fz4 BK165.out) | ((with_reducible refine gate_callee (f := 85) rfl ?_); refine gl (some 12) Try.func85 #[.pointer (some ⟨g159, 0, none⟩)] ?_; (with_reducible refine (spec_l11AnyBox.calls k g159 t157 t164 t166 t167 t168 t169 t170 w _ ?side1 ?side2 A4.out).mono ?_); (case side1 => exact qI HI159); (case side2 => exact qL HB); rintro e w104 ⟨rfl, hi, hb, hk⟩; refine ⟨_, rfl, ?_⟩; replace BK155 := kKF BK155 hk NB155_159; replace BK156 := kKF BK156 hk NB156_159; replace BK165 := kKP (o' := .cells #[.int .i64 t160, .int .i64 t161, .int .i64 t162, .int .i64 t163] 26 (0, 0)) BK165 hk NB165_159; replace HB := az hb; replace HI159 := az hi; clear hb hk hi) | ((with_reducible refine gate_dst (N := 6) rfl ?_); refine bx (N := 6) (cs := #[.int .i64 0, .int .i64 0, .int .i64 0, .int .i64 0]) (t := 26) ?_; intro gb171 hg w105 hbox hb; have BK171 := az hbox; have GW171 := az ((gE hg (qL HB) : w.heap.size ≤ gb171)); have GE171 := GW171; obtain ⟨NB155_171, NB171_155⟩ := nPB BK155 hg; obtain ⟨NB156_171, NB171_156⟩ := nPB BK156 hg; obtain ⟨NB165_171, NB171_165⟩ := nPB BK165 hg; have NB159_171 := az ((by rw [hg]; exact Nat.ne_of_lt (IsS95.lt (show IsS95 w _ g159 t157 t170 from qI HI159)) : g159 ≠ gb171)); have NB171_159 := az ((by rw [hg]; exact Nat.ne_of_gt (IsS95.lt (show IsS95 w _ g159 t157 t170 from qI HI159)) : gb171 ≠ g159)); replace BK155 := kBB BK155 hb; replace BK156 := kBB BK156 hb; replace HI159 := az (IsS95.below (qI HI159) hb); replace BK165 := kBB BK165 hb; replace HB := bS HB hb; clear hb hbox hg; have hnb106 := NB171_155.out; have hnc106 := NB155_171.out; have hnb107 := NB171_156.out; have hnc107 := NB156_171.out; have hnb108 := NB171_165.out; have hnc108 := NB165_171.out; have hnb109 := NB171_159.out; have hnc109 := NB159_171.out; obtain ⟨hcz110_0, hcz110_1, hcz110_2, hcz110_3⟩ := cz4 BK171.out; obtain ⟨hfz110_0, hfz110_1, hfz110_2, hfz110_3⟩ := fz4 BK171.out) | ((with_reducible refine gate_callee (f := 62) rfl ?_); refine gl (some 14) Try.func62 #[.pointer (some ⟨g159, 0, none⟩), .int .i64 5] ?_; (with_reducible refine (spec_l1Rd_pick.calls k g159 t157 t170 5 t172 t173 w _ ?side1 ?side2 A5.out).mono ?_); (case side1 => exact qI HI159); (case side2 => exact qL HB); rintro e w111 ⟨rfl, hi, hb, hk⟩; refine ⟨_, rfl, ?_⟩; replace BK155 := kKF BK155 hk NB155_159; replace BK156 := kKF BK156 hk NB156_159; replace BK165 := kKF BK165 hk NB165_159; replace BK171 := kKP (o' := .cells #[.int .i64 t166, .int .i64 t167, .int .i64 t168, .int .i64 t169] 26 (0, 0)) BK171 hk NB171_159; replace HB := az hb; replace HI159 := az hi; clear hb hk hi))
  replace BK155 := az (blk_drew BK155.out)
  replace BK156 := az (blk_drew BK156.out)
  replace BK165 := az (blk_drew BK165.out)
  replace BK171 := az (blk_drew BK171.out)
  replace HI159 := az (IsS95.drew HI159.out)
  replace HB := az (below_drew1 HB.out)
  refine start_ (n := 4) (S := fun w' => w'.cell? ⟨gb165, 0, none⟩ = some (.int .i64 t160) ∧ w'.cell? ⟨gb165, 1, none⟩ = some (.int .i64 t161) ∧ w'.cell? ⟨gb165, 2, none⟩ = some (.int .i64 t162) ∧ w'.cell? ⟨gb165, 3, none⟩ = some (.int .i64 t163) ∧ w'.cell? ⟨gb171, 0, none⟩ = some (.int .i64 t166) ∧ w'.cell? ⟨gb171, 1, none⟩ = some (.int .i64 t167) ∧ w'.cell? ⟨gb171, 2, none⟩ = some (.int .i64 t168) ∧ w'.cell? ⟨gb171, 3, none⟩ = some (.int .i64 t169)) (ds := []) #[false, false, false, false] (by kernel_rfl) rfl rfl ⟨bc BK165 0, bc BK165 1, bc BK165 2, bc BK165 3, bc BK171 0, bc BK171 1, bc BK171 2, bc BK171 3⟩ (fun hHeld => ?_)
  generalize w111.drew = w112 at BK155 BK156 BK165 BK171 HI159 HB hHeld ⊢
  refine take_ (i := 0) (N := some 45) (v := ?_) (a' := ?_) #[true, false, false, false] rfl rfl (by kernel_rfl) (fun _ _ _ h => h) (Or.inl ⟨by rfl, ?_⟩) hHeld ?_ ?_
  rotate_left
  · rintro w' ⟨s0, s1, s2, s3, s4, s5, s6, s7⟩
    go_simp
    with_reducible rfl
  rotate_left
  · simp only [Act.put, List.setIfInBounds_toArray, List.set_cons_zero, List.set_cons_succ, i64_w, i32_w]
    rfl
  refine take_ (i := 1) (N := some 46) (v := ?_) (a' := ?_) #[true, true, false, false] rfl rfl (by kernel_rfl) (fun _ _ _ h => h) (Or.inl ⟨by rfl, ?_⟩) hHeld ?_ ?_
  rotate_left
  · rintro w' ⟨s0, s1, s2, s3, s4, s5, s6, s7⟩
    go_simp
    with_reducible rfl
  rotate_left
  · simp only [Act.put, List.setIfInBounds_toArray, List.set_cons_zero, List.set_cons_succ, i64_w, i32_w]
    rfl
  refine one_ (i := 2) (N := none) #[true, true, true, false] rfl rfl (by kernel_rfl) (by decide) (fun K hK => ?_)
  have hs113 : w112.cell? ⟨gb155, 0, none⟩ = some (.int .i64 0) := bc BK155 0
  have hfs113 := blk_frozen BK155.out 0
  have hns113_1 := NB156_155.out
  have hns113_2 := NB165_155.out
  have hns113_3 := NB171_155.out
  have hms113_1 := NB155_156.out
  have hms113_2 := NB155_165.out
  have hms113_3 := NB155_171.out
  have hs114 : w112.cell? ⟨gb155, 1, none⟩ = some (.int .i64 0) := bc BK155 1
  have hfs114 := blk_frozen BK155.out 1
  have hns114_1 := NB156_155.out
  have hns114_2 := NB165_155.out
  have hns114_3 := NB171_155.out
  have hms114_1 := NB155_156.out
  have hms114_2 := NB155_165.out
  have hms114_3 := NB155_171.out
  have hs115 : w112.cell? ⟨gb155, 2, none⟩ = some (.int .i64 0) := bc BK155 2
  have hfs115 := blk_frozen BK155.out 2
  have hns115_1 := NB156_155.out
  have hns115_2 := NB165_155.out
  have hns115_3 := NB171_155.out
  have hms115_1 := NB155_156.out
  have hms115_2 := NB155_165.out
  have hms115_3 := NB155_171.out
  have hs116 : w112.cell? ⟨gb155, 3, none⟩ = some (.int .i64 0) := bc BK155 3
  have hfs116 := blk_frozen BK155.out 3
  have hns116_1 := NB156_155.out
  have hns116_2 := NB165_155.out
  have hns116_3 := NB171_155.out
  have hms116_1 := NB155_156.out
  have hms116_2 := NB155_165.out
  have hms116_3 := NB155_171.out
  refine skip_ (w1 := ?_) ?hw ?hn ?_ ?_; (case hw => unfold Region.wanted; rfl); (case hn => rfl)
  rotate_left
  · go_simp
    rfl
  refine hK.out _ _ ⟨(cf NB165_155 ((cf NB165_155 ((cf NB165_155 ((cf NB165_155 (hHeld.1)))))))), (cf NB165_155 ((cf NB165_155 ((cf NB165_155 ((cf NB165_155 (hHeld.2.1)))))))), (cf NB165_155 ((cf NB165_155 ((cf NB165_155 ((cf NB165_155 (hHeld.2.2.1)))))))), (cf NB165_155 ((cf NB165_155 ((cf NB165_155 ((cf NB165_155 (hHeld.2.2.2.1)))))))), (cf NB171_155 ((cf NB171_155 ((cf NB171_155 ((cf NB171_155 (hHeld.2.2.2.2.1)))))))), (cf NB171_155 ((cf NB171_155 ((cf NB171_155 ((cf NB171_155 (hHeld.2.2.2.2.2.1)))))))), (cf NB171_155 ((cf NB171_155 ((cf NB171_155 ((cf NB171_155 (hHeld.2.2.2.2.2.2.1)))))))), (cf NB171_155 ((cf NB171_155 ((cf NB171_155 ((cf NB171_155 (hHeld.2.2.2.2.2.2.2))))))))⟩ (fun hHeld => ?_)
  clear hK K
  refine one_ (i := 3) (N := none) #[true, true, true, true] rfl rfl (by kernel_rfl) (by decide) (fun K hK => ?_)
  have hs117 : w112.cell? ⟨gb156, 0, none⟩ = some (.int .i64 0) := bc BK156 0
  have hfs117 := blk_frozen BK156.out 0
  have hns117_0 := NB155_156.out
  have hns117_2 := NB165_156.out
  have hns117_3 := NB171_156.out
  have hms117_0 := NB156_155.out
  have hms117_2 := NB156_165.out
  have hms117_3 := NB156_171.out
  have hs118 : w112.cell? ⟨gb156, 1, none⟩ = some (.int .i64 0) := bc BK156 1
  have hfs118 := blk_frozen BK156.out 1
  have hns118_0 := NB155_156.out
  have hns118_2 := NB165_156.out
  have hns118_3 := NB171_156.out
  have hms118_0 := NB156_155.out
  have hms118_2 := NB156_165.out
  have hms118_3 := NB156_171.out
  have hs119 : w112.cell? ⟨gb156, 2, none⟩ = some (.int .i64 0) := bc BK156 2
  have hfs119 := blk_frozen BK156.out 2
  have hns119_0 := NB155_156.out
  have hns119_2 := NB165_156.out
  have hns119_3 := NB171_156.out
  have hms119_0 := NB156_155.out
  have hms119_2 := NB156_165.out
  have hms119_3 := NB156_171.out
  have hs120 : w112.cell? ⟨gb156, 3, none⟩ = some (.int .i64 0) := bc BK156 3
  have hfs120 := blk_frozen BK156.out 3
  have hns120_0 := NB155_156.out
  have hns120_2 := NB165_156.out
  have hns120_3 := NB171_156.out
  have hms120_0 := NB156_155.out
  have hms120_2 := NB156_165.out
  have hms120_3 := NB156_171.out
  refine skip_ (w1 := ?_) ?hw ?hn ?_ ?_; (case hw => unfold Region.wanted; rfl); (case hn => rfl)
  rotate_left
  · go_simp
    rfl
  refine hK.out _ _ ⟨(cf NB165_156 ((cf NB165_156 ((cf NB165_156 ((cf NB165_156 (hHeld.1)))))))), (cf NB165_156 ((cf NB165_156 ((cf NB165_156 ((cf NB165_156 (hHeld.2.1)))))))), (cf NB165_156 ((cf NB165_156 ((cf NB165_156 ((cf NB165_156 (hHeld.2.2.1)))))))), (cf NB165_156 ((cf NB165_156 ((cf NB165_156 ((cf NB165_156 (hHeld.2.2.2.1)))))))), (cf NB171_156 ((cf NB171_156 ((cf NB171_156 ((cf NB171_156 (hHeld.2.2.2.2.1)))))))), (cf NB171_156 ((cf NB171_156 ((cf NB171_156 ((cf NB171_156 (hHeld.2.2.2.2.2.1)))))))), (cf NB171_156 ((cf NB171_156 ((cf NB171_156 ((cf NB171_156 (hHeld.2.2.2.2.2.2.1)))))))), (cf NB171_156 ((cf NB171_156 ((cf NB171_156 ((cf NB171_156 (hHeld.2.2.2.2.2.2.2))))))))⟩ (fun hHeld => ?_)
  clear hK K
  refine done_ (by kernel_rfl) ?_
  try go_wp2
  refine bodyPost_ret (results_cc rfl _ _ gb155 gb156 26 26 #[.int .i64 t160, .int .i64 t161, .int .i64 t162, .int .i64 t163] #[.int .i64 t166, .int .i64 t167, .int .i64 t168, .int .i64 t169] (0, 0) (0, 0) _ _ rfl (qP BK155) Try.underlying26 rfl (by kernel_rfl) rfl (qP BK156) Try.underlying26 rfl (by kernel_rfl)) rfl ?_
  exact ⟨qE, qL HB⟩
end Go.Proofs.Ytihajbjkjclmoaa.PBig
