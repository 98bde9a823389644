/- What these functions compute, each walked once: spec_DrawBodyPush; for all arguments and worlds, under the conditions that each theorem names. -/
import Derived.Test.YtihajbjkjclmoaaSq
import Derived.Test.YtihajbjkjclmoaaPBigx901
import Derived.Test.YtihajbjkjclmoaaPBigx916
import Derived.Test.YtihajbjkjclmoaaPBigx918
namespace Go.Proofs.Ytihajbjkjclmoaa.PBig
open Go.RowKit Go.Proofs.YtihajbjkjclmoaaW.PrintWords Go.Proofs.YtihajbjkjclmoaaW.PrintLast Go.Proofs.YtihajbjkjclmoaaW.PrintMore
attribute [local go_sem] max2_int min2_int max_two min_two max_three min_three max_four min_four   -- for this text's walks alone
set_option linter.unusedVariables false
set_option linter.unusedSimpArgs false

/-! ### spec_DrawBodyPush: function 25 -/
def spec_DrawBodyPush.f (k : Nat) (l0 : List Int) : Option (Int × Int × Int × Int × Int × Int × Int × Int × Int × Int × Int × Int × Int × Int) := (spec_l1Open.f l0).bind fun bt678 => ((spec_l11AnyBody.f k bt678.1 bt678.2).bind fun bt681 => ((spec_l11Drive.f k bt678.1 bt681.2.2.2.2.2.2.2.2.2.2.2.2 3).bind fun bt695 => ((spec_l1Rd_pick.f k bt678.1 bt695.2.2 10).bind fun bt699 => (if bt699.1 = 0 then ((spec_l1Rd_one.f k bt678.1 bt699.2 (([20000000, 20000001] : List Int))).bind fun bt704 => (some (bt681.1, bt681.2.1, bt681.2.2.1, bt681.2.2.2.1, bt681.2.2.2.2.1, bt681.2.2.2.2.2.1, bt681.2.2.2.2.2.2.1, bt681.2.2.2.2.2.2.2.1, bt681.2.2.2.2.2.2.2.2.1, bt681.2.2.2.2.2.2.2.2.2.1, bt681.2.2.2.2.2.2.2.2.2.2.1, bt681.2.2.2.2.2.2.2.2.2.2.2.1, bt704.1, bt695.2.1))) else (if bt699.1 = 1 then ((spec_l1Rd_one.f k bt678.1 bt699.2 (([(-20000000), (-20000001)] : List Int))).bind fun bt709 => (some (bt681.1, bt681.2.1, bt681.2.2.1, bt681.2.2.2.1, bt681.2.2.2.2.1, bt681.2.2.2.2.2.1, bt681.2.2.2.2.2.2.1, bt681.2.2.2.2.2.2.2.1, bt681.2.2.2.2.2.2.2.2.1, bt681.2.2.2.2.2.2.2.2.2.1, bt681.2.2.2.2.2.2.2.2.2.2.1, bt681.2.2.2.2.2.2.2.2.2.2.2.1, bt695.1, bt709.1))) else (some (bt681.1, bt681.2.1, bt681.2.2.1, bt681.2.2.2.1, bt681.2.2.2.2.1, bt681.2.2.2.2.2.1, bt681.2.2.2.2.2.2.1, bt681.2.2.2.2.2.2.2.1, bt681.2.2.2.2.2.2.2.2.1, bt681.2.2.2.2.2.2.2.2.2.1, bt681.2.2.2.2.2.2.2.2.2.2.1, bt681.2.2.2.2.2.2.2.2.2.2.2.1, bt695.1, bt695.2.1)))))))
theorem spec_DrawBodyPush.mono : ∀ a0 k, LeO (spec_DrawBodyPush.f k a0) (spec_DrawBodyPush.f (k + 1) a0) := by
  intro a0 k
  unfold spec_DrawBodyPush.f
  repeat' first
      | (with_reducible exact spec_l11AnyBody.mono _ _ _)
      | (with_reducible exact spec_l11Drive.mono _ _ _ _)
      | (with_reducible exact spec_l1Rd_one.mono _ _ _ _)
      | (with_reducible exact spec_l1Rd_pick.mono _ _ _ _)
      | (with_reducible exact LeO.refl _)
      | (with_reducible exact LeO.none _)
      | (with_reducible refine LeO.ite ?_ ?_)
      | (with_reducible refine LeO.bind ?_ (fun _ => ?_))
set_option maxHeartbeats 8000000 in
set_option maxRecDepth 100000 in
theorem spec_DrawBodyPush.calls (k : Nat) (A0 : Option Addr) (c0 : Nat) (l0 : List Int) (r1 : Int) (r2 : Int) (r3 : Int) (r4 : Int) (r5 : Int) (r6 : Int) (r7 : Int) (r8 : Int) (r9 : Int) (r10 : Int) (r11 : Int) (r12 : Int) (r13 : Int) (r14 : Int) (w : World) (hr0 : Kd.C (Kd.int .u8) w A0 l0.length l0) (hc0 : l0.length ≤ c0) (h : spec_DrawBodyPush.f k l0 = some (r1, r2, r3, r4, r5, r6, r7, r8, r9, r10, r11, r12, r13, r14)) :
    Calls Try.prog 25 #[.slice A0 l0.length c0] w fun e w' => e = .returned (.tuple #[.agg #[.int .i64 r1, .int .i64 r2, .int .i64 r3, .int .i64 r4, .int .i64 r5, .int .i64 r6, .int .i64 r7, .int .i64 r8, .int .i64 r9, .int .i64 r10, .int .i64 r11, .int .i64 r12], .agg #[.int .i64 r13, .int .i64 r14]]) ∧ Below w.heap.size w w' := by
  have hu40 := Try.underlying40
  have hu24 := Try.underlying24
  have HR0 := az hr0
  have HC0 := az hc0
  clear hr0 hc0
  have HB := az (Below.refl w.heap.size w)
  have H : ((spec_l1Open.f l0).bind fun bt678 => ((spec_l11AnyBody.f k bt678.1 bt678.2).bind fun bt681 => ((spec_l11Drive.f k bt678.1 bt681.2.2.2.2.2.2.2.2.2.2.2.2 3).bind fun bt695 => ((spec_l1Rd_pick.f k bt678.1 bt695.2.2 10).bind fun bt699 => (if bt699.1 = 0 then ((spec_l1Rd_one.f k bt678.1 bt699.2 (([20000000, 20000001] : List Int))).bind fun bt704 => (some (bt681.1, bt681.2.1, bt681.2.2.1, bt681.2.2.2.1, bt681.2.2.2.2.1, bt681.2.2.2.2.2.1, bt681.2.2.2.2.2.2.1, bt681.2.2.2.2.2.2.2.1, bt681.2.2.2.2.2.2.2.2.1, bt681.2.2.2.2.2.2.2.2.2.1, bt681.2.2.2.2.2.2.2.2.2.2.1, bt681.2.2.2.2.2.2.2.2.2.2.2.1, bt704.1, bt695.2.1))) else (if bt699.1 = 1 then ((spec_l1Rd_one.f k bt678.1 bt699.2 (([(-20000000), (-20000001)] : List Int))).bind fun bt709 => (some (bt681.1, bt681.2.1, bt681.2.2.1, bt681.2.2.2.1, bt681.2.2.2.2.1, bt681.2.2.2.2.2.1, bt681.2.2.2.2.2.2.1, bt681.2.2.2.2.2.2.2.1, bt681.2.2.2.2.2.2.2.2.1, bt681.2.2.2.2.2.2.2.2.2.1, bt681.2.2.2.2.2.2.2.2.2.2.1, bt681.2.2.2.2.2.2.2.2.2.2.2.1, bt695.1, bt709.1))) else (some (bt681.1, bt681.2.1, bt681.2.2.1, bt681.2.2.2.1, bt681.2.2.2.2.1, bt681.2.2.2.2.2.1, bt681.2.2.2.2.2.2.1, bt681.2.2.2.2.2.2.2.1, bt681.2.2.2.2.2.2.2.2.1, bt681.2.2.2.2.2.2.2.2.2.1, bt681.2.2.2.2.2.2.2.2.2.2.1, bt681.2.2.2.2.2.2.2.2.2.2.2.1, bt695.1, bt695.2.1)))))))) = some (r1, r2, r3, r4, r5, r6, r7, r8, r9, r10, r11, r12, r13, r14) := h
  clear h
  replace H := qH H
  obtain ⟨⟨t678, t679⟩, A2, H⟩ := H
  try dsimp only at H
  replace H := qH H
  obtain ⟨⟨t681, t682, t683, t684, t685, t686, t687, t688, t689, t690, t691, t692, t693⟩, A3, H⟩ := H
  try dsimp only at H
  replace H := qH H
  obtain ⟨⟨t695, t696, t697⟩, A4, H⟩ := H
  try dsimp only at H
  replace H := qH H
  obtain ⟨⟨t699, t700⟩, A5, H⟩ := H
  try dsimp only at H
  by_cases c6 : t699 = 0
  · rw [if_pos c6] at H
    have c6b0 : (t699 == 0) = true := beq_iff_eq.mpr c6
    have c6b1 : (t699 != 0) = false := bne_eq_false_iff_eq.mpr c6
    clear c6
    obtain ⟨y701, hy701⟩ : ∃ y_ : List Int, y_ = (([20000000, 20000001] : List Int)) := ⟨_, rfl⟩
    replace H : ((spec_l1Rd_one.f k t678 t700 y701).bind fun bt704 => (some (t681, t682, t683, t684, t685, t686, t687, t688, t689, t690, t691, t692, bt704.1, t696))) = some (r1, r2, r3, r4, r5, r6, r7, r8, r9, r10, r11, r12, r13, r14) := by first | (rw [hy701]; with_reducible exact H) | (have H2_ := (Option.bind_some _ _).symm.trans H; rw [hy701]; with_reducible exact H2_) | (have H2_ := (Option.bind_some _ _).symm.trans H; with_reducible exact H2_) | with_reducible exact H | (rw [hy701]; exact H) | exact H
    have Ny701 := az hy701
    clear hy701
    replace H := qH H
    obtain ⟨⟨t704, t705⟩, A7, H⟩ := H
    try dsimp only at H
    simp only [Option.some.injEq, Prod.mk.injEq] at H
    obtain ⟨rfl, rfl, rfl, rfl, rfl, rfl, rfl, rfl, rfl, rfl, rfl, rfl, rfl, rfl⟩ := H
    go_enter Try.func25, Try.ntmps25
    try go_wp2_with (first | ((with_reducible refine gate_dst (N := 2) rfl ?_); refine bx (N := 2) (cs := #[.int .i64 0, .int .i64 0, .int .i64 0, .int .i64 0, .int .i64 0, .int .i64 0, .int .i64 0, .int .i64 0, .int .i64 0, .int .i64 0, .int .i64 0, .int .i64 0]) (t := 40) ?_; intro gb676 hg w8 hbox hb; have BK676 := az hbox; have GW676 := az ((gE hg (qL HB) : w.heap.size ≤ gb676)); have GE676 := GW676; replace HB := bS HB hb; clear hb hbox hg) | ((with_reducible refine gate_dst (N := 3) rfl ?_); refine bx (N := 3) (cs := #[.int .i64 0, .int .i64 0]) (t := 24) ?_; intro gb677 hg w9 hbox hb; have BK677 := az hbox; have GW677 := az ((gE hg (qL HB) : w.heap.size ≤ gb677)); have GE677 := GW677; obtain ⟨NB676_677, NB677_676⟩ := nPB BK676 hg; replace BK676 := kBB BK676 hb; replace HB := bS HB hb; clear hb hbox hg) | ((with_reducible refine gate_callee (f := 59) rfl ?_); refine gl (some 8) Try.func59 #[.slice A0 l0.length c0] ?_; (with_reducible refine (spec_l1Open.calls _ _ l0 t678 t679 w _ ?side1 ?side2 ?side3 A2.out).mono ?_); (case side1 => exact qL HB); (case side2 => exact HR0.out); (case side3 => exact HC0.out); rintro e w10 ⟨g680, rfl, hi, hb, hb2⟩; refine ⟨_, rfl, ?_⟩; have HI680 := az hi; have NB680_676 := az (IsS95.ne_blk hi (blk_below (g := gb676) (o := .cells #[.int .i64 0, .int .i64 0, .int .i64 0, .int .i64 0, .int .i64 0, .int .i64 0, .int .i64 0, .int .i64 0, .int .i64 0, .int .i64 0, .int .i64 0, .int .i64 0] 40 (0, 0)) (qB BK676) hb2) (by decide)); have NB676_680 := az (Ne.symm (IsS95.ne_blk hi (blk_below (g := gb676) (o := .cells #[.int .i64 0, .int .i64 0, .int .i64 0, .int .i64 0, .int .i64 0, .int .i64 0, .int .i64 0, .int .i64 0, .int .i64 0, .int .i64 0, .int .i64 0, .int .i64 0] 40 (0, 0)) (qB BK676) hb2) (by decide))); have NB680_677 := az (IsS95.ne_blk hi (blk_below (g := gb677) (o := .cells #[.int .i64 0, .int .i64 0] 24 (0, 0)) (qB BK677) hb2) (by decide)); have NB677_680 := az (Ne.symm (IsS95.ne_blk hi (blk_below (g := gb677) (o := .cells #[.int .i64 0, .int .i64 0] 24 (0, 0)) (qB BK677) hb2) (by decide))); replace BK676 := az (blk_below (g := gb676) (o := .cells #[.int .i64 0, .int .i64 0, .int .i64 0, .int .i64 0, .int .i64 0, .int .i64 0, .int .i64 0, .int .i64 0, .int .i64 0, .int .i64 0, .int .i64 0, .int .i64 0] 40 (0, 0)) (qB BK676) hb2); replace BK677 := az (blk_below (g := gb677) (o := .cells #[.int .i64 0, .int .i64 0] 24 (0, 0)) (qB BK677) hb2); replace HB := az hb; clear hb2 hb hi) | ((with_reducible refine gate_callee (f := 60) rfl ?_); refine gl (some 10) Try.func60 #[.pointer (some ⟨g680, 0, none⟩)] ?_; (with_reducible refine (spec_l11AnyBody.calls k g680 t678 t679 t681 t682 t683 t684 t685 t686 t687 t688 t689 t690 t691 t692 t693 w _ ?side1 ?side2 A3.out).mono ?_); (case side1 => exact qI HI680); (case side2 => exact qL HB); rintro e w11 ⟨rfl, hi, hb, hk⟩; refine ⟨_, rfl, ?_⟩; replace BK676 := kKB BK676 hk NB676_680; replace BK677 := kKB BK677 hk NB677_680; replace HB := az hb; replace HI680 := az hi; clear hb hk hi) | ((with_reducible refine gate_dst (N := 5) rfl ?_); refine bx (N := 5) (cs := #[.int .i64 0, .int .i64 0, .int .i64 0, .int .i64 0, .int .i64 0, .int .i64 0, .int .i64 0, .int .i64 0, .int .i64 0, .int .i64 0, .int .i64 0, .int .i64 0]) (t := 40) ?_; intro gb694 hg w12 hbox hb; have BK694 := az hbox; have GW694 := az ((gE hg (qL HB) : w.heap.size ≤ gb694)); have GE694 := GW694; obtain ⟨NB676_694, NB694_676⟩ := nPB BK676 hg; obtain ⟨NB677_694, NB694_677⟩ := nPB BK677 hg; have NB680_694 := az ((by rw [hg]; exact Nat.ne_of_lt (IsS95.lt (show IsS95 w _ g680 t678 t693 from qI HI680)) : g680 ≠ gb694)); have NB694_680 := az ((by rw [hg]; exact Nat.ne_of_gt (IsS95.lt (show IsS95 w _ g680 t678 t693 from qI HI680)) : gb694 ≠ g680)); replace BK676 := kBB BK676 hb; replace BK677 := kBB BK677 hb; replace HI680 := az (IsS95.below (qI HI680) hb); replace HB := bS HB hb; clear hb hbox hg; have hnb13 := NB694_676.out; have hnc13 := NB676_694.out; have hnb14 := NB694_677.out; have hnc14 := NB677_694.out; have hnb15 := NB694_680.out; have hnc15 := NB680_694.out; obtain ⟨hcz16_0, hcz16_1, hcz16_2, hcz16_3, hcz16_4, hcz16_5, hcz16_6, hcz16_7, hcz16_8, hcz16_9, hcz16_10, hcz16_11⟩ := cz12 BK694.out; obtain ⟨hfz16_0, hfz16_1, hfz16_2, hfz16_3, hfz16_4, hfz16_5, hfz16_6, hfz16_7, hfz16_8, hfz16_9, hfz16_10, hfz16_11⟩ := fz12 BK694.out) | ((with_reducible refine gate_callee (f := 61) rfl ?_); refine gl (some 12) Try.func61 #[.pointer (some ⟨g680, 0, none⟩), .int .i64 3] ?_; (with_reducible refine (spec_l11Drive.calls k g680 t678 t693 3 t695 t696 t697 w _ ?side1 ?side2 A4.out).mono ?_); (case side1 => exact qI HI680); (case side2 => exact qL HB); rintro e w17 ⟨rfl, hi, hb, hk⟩; refine ⟨_, rfl, ?_⟩; replace BK676 := kKF BK676 hk NB676_680; replace BK677 := kKF BK677 hk NB677_680; replace BK694 := kKP (o' := .cells #[.int .i64 t681, .int .i64 t682, .int .i64 t683, .int .i64 t684, .int .i64 t685, .int .i64 t686, .int .i64 t687, .int .i64 t688, .int .i64 t689, .int .i64 t690, .int .i64 t691, .int .i64 t692] 40 (0, 0)) BK694 hk NB694_680; replace HB := az hb; replace HI680 := az hi; clear hb hk hi) | ((with_reducible refine gate_dst (N := 6) rfl ?_); refine bx (N := 6) (cs := #[.int .i64 0, .int .i64 0]) (t := 24) ?_; intro gb698 hg w18 hbox hb; have BK698 := az hbox; have GW698 := az ((gE hg (qL HB) : w.heap.size ≤ gb698)); have GE698 := GW698; obtain ⟨NB676_698, NB698_676⟩ := nPB BK676 hg; obtain ⟨NB677_698, NB698_677⟩ := nPB BK677 hg; obtain ⟨NB694_698, NB698_694⟩ := nPB BK694 hg; have NB680_698 := az ((by rw [hg]; exact Nat.ne_of_lt (IsS95.lt (show IsS95 w _ g680 t678 t697 from qI HI680)) : g680 ≠ gb698)); have NB698_680 := az ((by rw [hg]; exact Nat.ne_of_gt (IsS95.lt (show IsS95 w _ g680 t678 t697 from qI HI680)) : gb698 ≠ g680)); replace BK676 := kBB BK676 hb; replace BK677 := kBB BK677 hb; replace HI680 := az (IsS95.below (qI HI680) hb); replace BK694 := kBB BK694 hb; replace HB := bS HB hb; clear hb hbox hg; have hnb19 := NB698_676.out; have hnc19 := NB676_698.out; have hnb20 := NB698_677.out; have hnc20 := NB677_698.out; have hnb21 := NB698_694.out; have hnc21 := NB694_698.out; have hnb22 := NB698_680.out; have hnc22 := NB680_698.out; obtain ⟨hcz23_0, hcz23_1⟩ := cz2 BK698.out; have hfz23_0 := blk_frozen BK698.out 0; have hfz23_1 := blk_frozen BK698.out 1) | ((with_reducible refine gate_callee (f := 62) rfl ?_); refine gl (some 14) Try.func62 #[.pointer (some ⟨g680, 0, none⟩), .int .i64 10] ?_; (with_reducible refine (spec_l1Rd_pick.calls k g680 t678 t697 10 t699 t700 w _ ?side1 ?side2 A5.out).mono ?_); (case side1 => exact qI HI680); (case side2 => exact qL HB); rintro e w24 ⟨rfl, hi, hb, hk⟩; refine ⟨_, rfl, ?_⟩; replace BK676 := kKF BK676 hk NB676_680; replace BK677 := kKF BK677 hk NB677_680; replace BK694 := kKF BK694 hk NB694_680; replace BK698 := kKP (o' := .cells #[.int .i64 t695, .int .i64 t696] 24 (0, 0)) BK698 hk NB698_680; replace HB := az hb; replace HI680 := az hi; clear hb hk hi) | ((with_reducible refine gate_dst (N := 18) rfl ?_); refine Kd.R_lit (Kd.int .i64) _ 3 ?hg (N := 18) ?hd (xs := ([20000000, 20000001] : List Int)) (inner := [.int .i64 20000000, .int .i64 20000001]) (ok := fun _ => True) (okp := fun _ => True) ?hr ?hp (fun _ hk => hk) trivial (Below.refl _ _) (Nat.le_refl _) (by simp) ?_; (case hd => rfl); (case hg => rfl); (case hr => first | (go_simp; done) | (go_simp; rfl)); (case hp => exact (Reps.one (show Kd.M (Kd.int .i64) _ _ _ 20000000 [.int .i64 20000000] from rfl) (Reps.one (show Kd.M (Kd.int .i64) _ _ _ 20000001 [.int .i64 20000001] from rfl) (Reps.none _ _)))); intro v702 w25 ho26 hb hg_ hnew_; clear hg_ hnew_; (first | rw [← Ny701.out] at ho26 | (simp only [Int.reduceToNat] at ho26; rw [← Ny701.out] at ho26)); have HO703 := az (Kd.R_lower ho26 (below_size (qL HB))); replace BK676 := kBB BK676 hb; replace BK677 := kBB BK677 hb; replace HI680 := az (IsS95.below (qI HI680) hb); replace BK694 := kBB BK694 hb; replace BK698 := kBB BK698 hb; replace HB := bS HB hb; clear hb ho26; obtain ⟨Ao27, co27, eo27⟩ := Kd.R_slice HO703.out; subst eo27) | ((with_reducible refine gate_callee (f := 63) rfl ?_); refine gl (some 19) Try.func63 #[.pointer (some ⟨g680, 0, none⟩), .slice Ao27 y701.length co27] ?_; (with_reducible refine (spec_l1Rd_one.calls k g680 t678 t700 _ _ y701 t704 t705 w _ ?side1 ?side2 ?side3 ?side4 ?side5 A7.out).mono ?_); (case side1 => exact qI HI680); (case side2 => exact qL HB); (case side3 => repeat (first | exact (Kd.R_reads' HO703.out).2.2 | (with_reducible refine Kd.C_alloc ?_ _) | (with_reducible refine Kd.C_drewN ?_ _) | (with_reducible refine Kd.C_drew ?_))); (case side4 => exact (Kd.R_reads' HO703.out).2.1); (case side5 => exact far_slice (IsS95.own_ne HI680.out HO703.out (by decide))); rintro e w28 ⟨rfl, hi, hb, hk⟩; refine ⟨_, rfl, ?_⟩; replace BK676 := kKB BK676 hk NB676_680; replace BK677 := kKB BK677 hk NB677_680; replace BK694 := kKB BK694 hk NB694_680; replace BK698 := kKB BK698 hk NB698_680; replace HO703 := az (Kd.R_mono (Kd.R_keep (IsS95.apart (show IsS95 w _ g680 t678 t700 from qI HI680) (by (with_reducible repeat (first | apply Kd.R_alloc | apply Kd.R_drewN | apply Kd.R_drew)); exact HO703.out) (by decide)) hk (fun _ h => h.2)) (fun _ h => h.1)); replace HB := az hb; replace HI680 := az hi; clear hb hk hi; obtain ⟨hcz29_0, hcz29_1⟩ := cz2 BK698.out; have hfz29_0 := blk_frozen BK698.out 0; have hfz29_1 := blk_frozen BK698.out 1))
    obtain ⟨w30, hw_⟩ : ∃ x, x = (w28.setCell ⟨gb698, 0, none⟩ (.int .i64 t704)) := ⟨_, rfl⟩
    replace HO703 : Aside0 (Kd.R (Kd.int .i64) 3 w30 w.heap.size (fun _ => True) (.slice Ao27 y701.length co27) y701) := ⟨by rw [hw_]; (with_reducible repeat (first | apply Kd.R_alloc | apply Kd.R_drewN | apply Kd.R_drew)); exact Kd.R_mono (Kd.R_far (p := ⟨gb698, 0, none⟩) (Kd.R_types HO703.out BK698.out (by decide)) (fun _ hk => hk.2) (.int .i64 t704)) (fun _ hk => trivial)⟩
    replace BK676 : Aside0 (w30.heap[gb676]? = some (.cells #[.int .i64 0, .int .i64 0, .int .i64 0, .int .i64 0, .int .i64 0, .int .i64 0, .int .i64 0, .int .i64 0, .int .i64 0, .int .i64 0, .int .i64 0, .int .i64 0] 40 (0, 0))) := ⟨by rw [hw_]; exact qF BK676⟩
    replace BK677 : Aside0 (w30.heap[gb677]? = some (.cells #[.int .i64 0, .int .i64 0] 24 (0, 0))) := ⟨by rw [hw_]; exact qF BK677⟩
    replace BK694 : Aside0 (w30.heap[gb694]? = some (.cells #[.int .i64 t681, .int .i64 t682, .int .i64 t683, .int .i64 t684, .int .i64 t685, .int .i64 t686, .int .i64 t687, .int .i64 t688, .int .i64 t689, .int .i64 t690, .int .i64 t691, .int .i64 t692] 40 (0, 0))) := ⟨by rw [hw_]; exact qF BK694⟩
    replace BK698 : Aside0 (w30.heap[gb698]? = some (.cells #[.int .i64 t704, .int .i64 t696] 24 (0, 0))) := ⟨by rw [hw_]; exact qP BK698⟩
    replace HB : Aside0 (Below w.heap.size w w30) := ⟨by rw [hw_]; exact qL HB⟩
    replace HI680 : Aside0 (IsS95 w w30 g680 t678 t705) := ⟨by rw [hw_]; exact qI HI680⟩
    rw [← hw_]
    clear hw_
    replace HO703 := az (Kd.R_drew HO703.out)
    replace BK676 := az (blk_drew BK676.out)
    replace BK677 := az (blk_drew BK677.out)
    replace BK694 := az (blk_drew BK694.out)
    replace BK698 := az (blk_drew BK698.out)
    replace HI680 := az (IsS95.drew HI680.out)
    replace HB := az (below_drew1 HB.out)
    refine start_ (n := 4) (S := fun w' => w'.cell? ⟨gb694, 0, none⟩ = some (.int .i64 t681) ∧ w'.cell? ⟨gb694, 1, none⟩ = some (.int .i64 t682) ∧ w'.cell? ⟨gb694, 2, none⟩ = some (.int .i64 t683) ∧ w'.cell? ⟨gb694, 3, none⟩ = some (.int .i64 t684) ∧ w'.cell? ⟨gb694, 4, none⟩ = some (.int .i64 t685) ∧ w'.cell? ⟨gb694, 5, none⟩ = some (.int .i64 t686) ∧ w'.cell? ⟨gb694, 6, none⟩ = some (.int .i64 t687) ∧ w'.cell? ⟨gb694, 7, none⟩ = some (.int .i64 t688) ∧ w'.cell? ⟨gb694, 8, none⟩ = some (.int .i64 t689) ∧ w'.cell? ⟨gb694, 9, none⟩ = some (.int .i64 t690) ∧ w'.cell? ⟨gb694, 10, none⟩ = some (.int .i64 t691) ∧ w'.cell? ⟨gb694, 11, none⟩ = some (.int .i64 t692) ∧ w'.cell? ⟨gb698, 0, none⟩ = some (.int .i64 t704) ∧ w'.cell? ⟨gb698, 1, none⟩ = some (.int .i64 t696)) (ds := []) #[false, false, false, false] (by kernel_rfl) rfl rfl ⟨bc BK694 0, bc BK694 1, bc BK694 2, bc BK694 3, bc BK694 4, bc BK694 5, bc BK694 6, bc BK694 7, bc BK694 8, bc BK694 9, bc BK694 10, bc BK694 11, bc BK698 0, bc BK698 1⟩ (fun hHeld => ?_)
    generalize w30.drew = w31 at HO703 BK676 BK677 BK694 BK698 HI680 HB hHeld ⊢
    refine take_ (i := 0) (N := some 27) (v := ?_) (a' := ?_) #[true, false, false, false] rfl rfl (by kernel_rfl) (fun _ _ _ h => h) (Or.inl ⟨by rfl, ?_⟩) hHeld ?_ ?_
    rotate_left
    · rintro w' ⟨s0, s1, s2, s3, s4, s5, s6, s7, s8, s9, s10, s11, s12, s13⟩
      go_simp
      with_reducible rfl
    rotate_left
    · simp only [Act.put, List.setIfInBounds_toArray, List.set_cons_zero, List.set_cons_succ, i64_w, i32_w]
      rfl
    refine take_ (i := 1) (N := some 28) (v := ?_) (a' := ?_) #[true, true, false, false] rfl rfl (by kernel_rfl) (fun _ _ _ h => h) (Or.inl ⟨by rfl, ?_⟩) hHeld ?_ ?_
    rotate_left
    · rintro w' ⟨s0, s1, s2, s3, s4, s5, s6, s7, s8, s9, s10, s11, s12, s13⟩
      go_simp
      with_reducible rfl
    rotate_left
    · simp only [Act.put, List.setIfInBounds_toArray, List.set_cons_zero, List.set_cons_succ, i64_w, i32_w]
      rfl
    refine one_ (i := 2) (N := none) #[true, true, true, false] rfl rfl (by kernel_rfl) (by decide) (fun K hK => ?_)
    have hs32 : w31.cell? ⟨gb676, 0, none⟩ = some (.int .i64 0) := bc BK676 0
    have hfs32 := blk_frozen BK676.out 0
    have hns32_1 := NB677_676.out
    have hns32_2 := NB694_676.out
    have hns32_3 := NB698_676.out
    have hms32_1 := NB676_677.out
    have hms32_2 := NB676_694.out
    have hms32_3 := NB676_698.out
    have hs33 : w31.cell? ⟨gb676, 1, none⟩ = some (.int .i64 0) := bc BK676 1
    have hfs33 := blk_frozen BK676.out 1
    have hns33_1 := NB677_676.out
    have hns33_2 := NB694_676.out
    have hns33_3 := NB698_676.out
    have hms33_1 := NB676_677.out
    have hms33_2 := NB676_694.out
    have hms33_3 := NB676_698.out
    have hs34 : w31.cell? ⟨gb676, 2, none⟩ = some (.int .i64 0) := bc BK676 2
    have hfs34 := blk_frozen BK676.out 2
    have hns34_1 := NB677_676.out
    have hns34_2 := NB694_676.out
    have hns34_3 := NB698_676.out
    have hms34_1 := NB676_677.out
    have hms34_2 := NB676_694.out
    have hms34_3 := NB676_698.out
    have hs35 : w31.cell? ⟨gb676, 3, none⟩ = some (.int .i64 0) := bc BK676 3
    have hfs35 := blk_frozen BK676.out 3
    have hns35_1 := NB677_676.out
    have hns35_2 := NB694_676.out
    have hns35_3 := NB698_676.out
    have hms35_1 := NB676_677.out
    have hms35_2 := NB676_694.out
    have hms35_3 := NB676_698.out
    have hs36 : w31.cell? ⟨gb676, 4, none⟩ = some (.int .i64 0) := bc BK676 4
    have hfs36 := blk_frozen BK676.out 4
    have hns36_1 := NB677_676.out
    have hns36_2 := NB694_676.out
    have hns36_3 := NB698_676.out
    have hms36_1 := NB676_677.out
    have hms36_2 := NB676_694.out
    have hms36_3 := NB676_698.out
    have hs37 : w31.cell? ⟨gb676, 5, none⟩ = some (.int .i64 0) := bc BK676 5
    have hfs37 := blk_frozen BK676.out 5
    have hns37_1 := NB677_676.out
    have hns37_2 := NB694_676.out
    have hns37_3 := NB698_676.out
    have hms37_1 := NB676_677.out
    have hms37_2 := NB676_694.out
    have hms37_3 := NB676_698.out
    have hs38 : w31.cell? ⟨gb676, 6, none⟩ = some (.int .i64 0) := bc BK676 6
    have hfs38 := blk_frozen BK676.out 6
    have hns38_1 := NB677_676.out
    have hns38_2 := NB694_676.out
    have hns38_3 := NB698_676.out
    have hms38_1 := NB676_677.out
    have hms38_2 := NB676_694.out
    have hms38_3 := NB676_698.out
    have hs39 : w31.cell? ⟨gb676, 7, none⟩ = some (.int .i64 0) := bc BK676 7
    have hfs39 := blk_frozen BK676.out 7
    have hns39_1 := NB677_676.out
    have hns39_2 := NB694_676.out
    have hns39_3 := NB698_676.out
    have hms39_1 := NB676_677.out
    have hms39_2 := NB676_694.out
    have hms39_3 := NB676_698.out
    have hs40 : w31.cell? ⟨gb676, 8, none⟩ = some (.int .i64 0) := bc BK676 8
    have hfs40 := blk_frozen BK676.out 8
    have hns40_1 := NB677_676.out
    have hns40_2 := NB694_676.out
    have hns40_3 := NB698_676.out
    have hms40_1 := NB676_677.out
    have hms40_2 := NB676_694.out
    have hms40_3 := NB676_698.out
    have hs41 : w31.cell? ⟨gb676, 9, none⟩ = some (.int .i64 0) := bc BK676 9
    have hfs41 := blk_frozen BK676.out 9
    have hns41_1 := NB677_676.out
    have hns41_2 := NB694_676.out
    have hns41_3 := NB698_676.out
    have hms41_1 := NB676_677.out
    have hms41_2 := NB676_694.out
    have hms41_3 := NB676_698.out
    have hs42 : w31.cell? ⟨gb676, 10, none⟩ = some (.int .i64 0) := bc BK676 10
    have hfs42 := blk_frozen BK676.out 10
    have hns42_1 := NB677_676.out
    have hns42_2 := NB694_676.out
    have hns42_3 := NB698_676.out
    have hms42_1 := NB676_677.out
    have hms42_2 := NB676_694.out
    have hms42_3 := NB676_698.out
    have hs43 : w31.cell? ⟨gb676, 11, none⟩ = some (.int .i64 0) := bc BK676 11
    have hfs43 := blk_frozen BK676.out 11
    have hns43_1 := NB677_676.out
    have hns43_2 := NB694_676.out
    have hns43_3 := NB698_676.out
    have hms43_1 := NB676_677.out
    have hms43_2 := NB676_694.out
    have hms43_3 := NB676_698.out
    refine skip_ (w1 := ?_) ?hw ?hn ?_ ?_; (case hw => unfold Region.wanted; rfl); (case hn => rfl)
    rotate_left
    · go_simp
      rfl
    refine hK.out _ _ ⟨(cf NB694_676 ((cf NB694_676 ((cf NB694_676 ((cf NB694_676 ((cf NB694_676 ((cf NB694_676 ((cf NB694_676 ((cf NB694_676 ((cf NB694_676 ((cf NB694_676 ((cf NB694_676 ((cf NB694_676 (hHeld.1)))))))))))))))))))))))), (cf NB694_676 ((cf NB694_676 ((cf NB694_676 ((cf NB694_676 ((cf NB694_676 ((cf NB694_676 ((cf NB694_676 ((cf NB694_676 ((cf NB694_676 ((cf NB694_676 ((cf NB694_676 ((cf NB694_676 (hHeld.2.1)))))))))))))))))))))))), (cf NB694_676 ((cf NB694_676 ((cf NB694_676 ((cf NB694_676 ((cf NB694_676 ((cf NB694_676 ((cf NB694_676 ((cf NB694_676 ((cf NB694_676 ((cf NB694_676 ((cf NB694_676 ((cf NB694_676 (hHeld.2.2.1)))))))))))))))))))))))), (cf NB694_676 ((cf NB694_676 ((cf NB694_676 ((cf NB694_676 ((cf NB694_676 ((cf NB694_676 ((cf NB694_676 ((cf NB694_676 ((cf NB694_676 ((cf NB694_676 ((cf NB694_676 ((cf NB694_676 (hHeld.2.2.2.1)))))))))))))))))))))))), (cf NB694_676 ((cf NB694_676 ((cf NB694_676 ((cf NB694_676 ((cf NB694_676 ((cf NB694_676 ((cf NB694_676 ((cf NB694_676 ((cf NB694_676 ((cf NB694_676 ((cf NB694_676 ((cf NB694_676 (hHeld.2.2.2.2.1)))))))))))))))))))))))), (cf NB694_676 ((cf NB694_676 ((cf NB694_676 ((cf NB694_676 ((cf NB694_676 ((cf NB694_676 ((cf NB694_676 ((cf NB694_676 ((cf NB694_676 ((cf NB694_676 ((cf NB694_676 ((cf NB694_676 (hHeld.2.2.2.2.2.1)))))))))))))))))))))))), (cf NB694_676 ((cf NB694_676 ((cf NB694_676 ((cf NB694_676 ((cf NB694_676 ((cf NB694_676 ((cf NB694_676 ((cf NB694_676 ((cf NB694_676 ((cf NB694_676 ((cf NB694_676 ((cf NB694_676 (hHeld.2.2.2.2.2.2.1)))))))))))))))))))))))), (cf NB694_676 ((cf NB694_676 ((cf NB694_676 ((cf NB694_676 ((cf NB694_676 ((cf NB694_676 ((cf NB694_676 ((cf NB694_676 ((cf NB694_676 ((cf NB694_676 ((cf NB694_676 ((cf NB694_676 (hHeld.2.2.2.2.2.2.2.1)))))))))))))))))))))))), (cf NB694_676 ((cf NB694_676 ((cf NB694_676 ((cf NB694_676 ((cf NB694_676 ((cf NB694_676 ((cf NB694_676 ((cf NB694_676 ((cf NB694_676 ((cf NB694_676 ((cf NB694_676 ((cf NB694_676 (hHeld.2.2.2.2.2.2.2.2.1)))))))))))))))))))))))), (cf NB694_676 ((cf NB694_676 ((cf NB694_676 ((cf NB694_676 ((cf NB694_676 ((cf NB694_676 ((cf NB694_676 ((cf NB694_676 ((cf NB694_676 ((cf NB694_676 ((cf NB694_676 ((cf NB694_676 (hHeld.2.2.2.2.2.2.2.2.2.1)))))))))))))))))))))))), (cf NB694_676 ((cf NB694_676 ((cf NB694_676 ((cf NB694_676 ((cf NB694_676 ((cf NB694_676 ((cf NB694_676 ((cf NB694_676 ((cf NB694_676 ((cf NB694_676 ((cf NB694_676 ((cf NB694_676 (hHeld.2.2.2.2.2.2.2.2.2.2.1)))))))))))))))))))))))), (cf NB694_676 ((cf NB694_676 ((cf NB694_676 ((cf NB694_676 ((cf NB694_676 ((cf NB694_676 ((cf NB694_676 ((cf NB694_676 ((cf NB694_676 ((cf NB694_676 ((cf NB694_676 ((cf NB694_676 (hHeld.2.2.2.2.2.2.2.2.2.2.2.1)))))))))))))))))))))))), (cf NB698_676 ((cf NB698_676 ((cf NB698_676 ((cf NB698_676 ((cf NB698_676 ((cf NB698_676 ((cf NB698_676 ((cf NB698_676 ((cf NB698_676 ((cf NB698_676 ((cf NB698_676 ((cf NB698_676 (hHeld.2.2.2.2.2.2.2.2.2.2.2.2.1)))))))))))))))))))))))), (cf NB698_676 ((cf NB698_676 ((cf NB698_676 ((cf NB698_676 ((cf NB698_676 ((cf NB698_676 ((cf NB698_676 ((cf NB698_676 ((cf NB698_676 ((cf NB698_676 ((cf NB698_676 ((cf NB698_676 (hHeld.2.2.2.2.2.2.2.2.2.2.2.2.2))))))))))))))))))))))))⟩ (fun hHeld => ?_)
    clear hK K
    refine one_ (i := 3) (N := none) #[true, true, true, true] rfl rfl (by kernel_rfl) (by decide) (fun K hK => ?_)
    have hs44 : w31.cell? ⟨gb677, 0, none⟩ = some (.int .i64 0) := bc BK677 0
    have hfs44 := blk_frozen BK677.out 0
    have hns44_0 := NB676_677.out
    have hns44_2 := NB694_677.out
    have hns44_3 := NB698_677.out
    have hms44_0 := NB677_676.out
    have hms44_2 := NB677_694.out
    have hms44_3 := NB677_698.out
    have hs45 : w31.cell? ⟨gb677, 1, none⟩ = some (.int .i64 0) := bc BK677 1
    have hfs45 := blk_frozen BK677.out 1
    have hns45_0 := NB676_677.out
    have hns45_2 := NB694_677.out
    have hns45_3 := NB698_677.out
    have hms45_0 := NB677_676.out
    have hms45_2 := NB677_694.out
    have hms45_3 := NB677_698.out
    refine skip_ (w1 := ?_) ?hw ?hn ?_ ?_; (case hw => unfold Region.wanted; rfl); (case hn => rfl)
    rotate_left
    · go_simp
      rfl
    refine hK.out _ _ ⟨(cf NB694_677 ((cf NB694_677 (hHeld.1)))), (cf NB694_677 ((cf NB694_677 (hHeld.2.1)))), (cf NB694_677 ((cf NB694_677 (hHeld.2.2.1)))), (cf NB694_677 ((cf NB694_677 (hHeld.2.2.2.1)))), (cf NB694_677 ((cf NB694_677 (hHeld.2.2.2.2.1)))), (cf NB694_677 ((cf NB694_677 (hHeld.2.2.2.2.2.1)))), (cf NB694_677 ((cf NB694_677 (hHeld.2.2.2.2.2.2.1)))), (cf NB694_677 ((cf NB694_677 (hHeld.2.2.2.2.2.2.2.1)))), (cf NB694_677 ((cf NB694_677 (hHeld.2.2.2.2.2.2.2.2.1)))), (cf NB694_677 ((cf NB694_677 (hHeld.2.2.2.2.2.2.2.2.2.1)))), (cf NB694_677 ((cf NB694_677 (hHeld.2.2.2.2.2.2.2.2.2.2.1)))), (cf NB694_677 ((cf NB694_677 (hHeld.2.2.2.2.2.2.2.2.2.2.2.1)))), (cf NB698_677 ((cf NB698_677 (hHeld.2.2.2.2.2.2.2.2.2.2.2.2.1)))), (cf NB698_677 ((cf NB698_677 (hHeld.2.2.2.2.2.2.2.2.2.2.2.2.2))))⟩ (fun hHeld => ?_)
    clear hK K
    refine done_ (by kernel_rfl) ?_
    try go_wp2
    refine bodyPost_ret (results_cc rfl _ _ gb676 gb677 40 24 #[.int .i64 t681, .int .i64 t682, .int .i64 t683, .int .i64 t684, .int .i64 t685, .int .i64 t686, .int .i64 t687, .int .i64 t688, .int .i64 t689, .int .i64 t690, .int .i64 t691, .int .i64 t692] #[.int .i64 t704, .int .i64 t696] (0, 0) (0, 0) _ _ rfl (qP BK676) Try.underlying40 rfl (by kernel_rfl) rfl (qP BK677) Try.underlying24 rfl (by kernel_rfl)) rfl ?_
    exact ⟨qE, qL HB⟩
  rw [if_neg c6] at H
  have c6b0 : (t699 == 0) = false := beq_eq_false_iff_ne.mpr c6
  have c6b1 : (t699 != 0) = true := bne_iff_ne.mpr c6
  by_cases c46 : t699 = 1
  · rw [if_pos c46] at H
    have c46b0 : (t699 == 1) = true := beq_iff_eq.mpr c46
    have c46b1 : (t699 != 1) = false := bne_eq_false_iff_eq.mpr c46
    clear c46
    obtain ⟨y706, hy706⟩ : ∃ y_ : List Int, y_ = (([(-20000000), (-20000001)] : List Int)) := ⟨_, rfl⟩
    replace H : ((spec_l1Rd_one.f k t678 t700 y706).bind fun bt709 => (some (t681, t682, t683, t684, t685, t686, t687, t688, t689, t690, t691, t692, t695, bt709.1))) = some (r1, r2, r3, r4, r5, r6, r7, r8, r9, r10, r11, r12, r13, r14) := by first | (rw [hy706]; with_reducible exact H) | (have H2_ := (Option.bind_some _ _).symm.trans H; rw [hy706]; with_reducible exact H2_) | (have H2_ := (Option.bind_some _ _).symm.trans H; with_reducible exact H2_) | with_reducible exact H | (rw [hy706]; exact H) | exact H
    have Ny706 := az hy706
    clear hy706
    replace H := qH H
    obtain ⟨⟨t709, t710⟩, A47, H⟩ := H
    try dsimp only at H
    simp only [Option.some.injEq, Prod.mk.injEq] at H
    obtain ⟨rfl, rfl, rfl, rfl, rfl, rfl, rfl, rfl, rfl, rfl, rfl, rfl, rfl, rfl⟩ := H
    go_enter Try.func25, Try.ntmps25
    try go_wp2_with (first | ((with_reducible refine gate_dst (N := 2) rfl ?_); refine bx (N := 2) (cs := #[.int .i64 0, .int .i64 0, .int .i64 0, .int .i64 0, .int .i64 0, .int .i64 0, .int .i64 0, .int .i64 0, .int .i64 0, .int .i64 0, .int .i64 0, .int .i64 0]) (t := 40) ?_; intro gb676 hg w48 hbox hb; have BK676 := az hbox; have GW676 := az ((gE hg (qL HB) : w.heap.size ≤ gb676)); have GE676 := GW676; replace HB := bS HB hb; clear hb hbox hg) | ((with_reducible refine gate_dst (N := 3) rfl ?_); refine bx (N := 3) (cs := #[.int .i64 0, .int .i64 0]) (t := 24) ?_; intro gb677 hg w49 hbox hb; have BK677 := az hbox; have GW677 := az ((gE hg (qL HB) : w.heap.size ≤ gb677)); have GE677 := GW677; obtain ⟨NB676_677, NB677_676⟩ := nPB BK676 hg; replace BK676 := kBB BK676 hb; replace HB := bS HB hb; clear hb hbox hg) | ((with_reducible refine gate_callee (f := 59) rfl ?_); refine gl (some 8) Try.func59 #[.slice A0 l0.length c0] ?_; (with_reducible refine (spec_l1Open.calls _ _ l0 t678 t679 w _ ?side1 ?side2 ?side3 A2.out).mono ?_); (case side1 => exact qL HB); (case side2 => exact HR0.out); (case side3 => exact HC0.out); rintro e w50 ⟨g680, rfl, hi, hb, hb2⟩; refine ⟨_, rfl, ?_⟩; have HI680 := az hi; have NB680_676 := az (IsS95.ne_blk hi (blk_below (g := gb676) (o := .cells #[.int .i64 0, .int .i64 0, .int .i64 0, .int .i64 0, .int .i64 0, .int .i64 0, .int .i64 0, .int .i64 0, .int .i64 0, .int .i64 0, .int .i64 0, .int .i64 0] 40 (0, 0)) (qB BK676) hb2) (by decide)); have NB676_680 := az (Ne.symm (IsS95.ne_blk hi (blk_below (g := gb676) (o := .cells #[.int .i64 0, .int .i64 0, .int .i64 0, .int .i64 0, .int .i64 0, .int .i64 0, .int .i64 0, .int .i64 0, .int .i64 0, .int .i64 0, .int .i64 0, .int .i64 0] 40 (0, 0)) (qB BK676) hb2) (by decide))); have NB680_677 := az (IsS95.ne_blk hi (blk_below (g := gb677) (o := .cells #[.int .i64 0, .int .i64 0] 24 (0, 0)) (qB BK677) hb2) (by decide)); have NB677_680 := az (Ne.symm (IsS95.ne_blk hi (blk_below (g := gb677) (o := .cells #[.int .i64 0, .int .i64 0] 24 (0, 0)) (qB BK677) hb2) (by decide))); replace BK676 := az (blk_below (g := gb676) (o := .cells #[.int .i64 0, .int .i64 0, .int .i64 0, .int .i64 0, .int .i64 0, .int .i64 0, .int .i64 0, .int .i64 0, .int .i64 0, .int .i64 0, .int .i64 0, .int .i64 0] 40 (0, 0)) (qB BK676) hb2); replace BK677 := az (blk_below (g := gb677) (o := .cells #[.int .i64 0, .int .i64 0] 24 (0, 0)) (qB BK677) hb2); replace HB := az hb; clear hb2 hb hi) | ((with_reducible refine gate_callee (f := 60) rfl ?_); refine gl (some 10) Try.func60 #[.pointer (some ⟨g680, 0, none⟩)] ?_; (with_reducible refine (spec_l11AnyBody.calls k g680 t678 t679 t681 t682 t683 t684 t685 t686 t687 t688 t689 t690 t691 t692 t693 w _ ?side1 ?side2 A3.out).mono ?_); (case side1 => exact qI HI680); (case side2 => exact qL HB); rintro e w51 ⟨rfl, hi, hb, hk⟩; refine ⟨_, rfl, ?_⟩; replace BK676 := kKB BK676 hk NB676_680; replace BK677 := kKB BK677 hk NB677_680; replace HB := az hb; replace HI680 := az hi; clear hb hk hi) | ((with_reducible refine gate_dst (N := 5) rfl ?_); refine bx (N := 5) (cs := #[.int .i64 0, .int .i64 0, .int .i64 0, .int .i64 0, .int .i64 0, .int .i64 0, .int .i64 0, .int .i64 0, .int .i64 0, .int .i64 0, .int .i64 0, .int .i64 0]) (t := 40) ?_; intro gb694 hg w52 hbox hb; have BK694 := az hbox; have GW694 := az ((gE hg (qL HB) : w.heap.size ≤ gb694)); have GE694 := GW694; obtain ⟨NB676_694, NB694_676⟩ := nPB BK676 hg; obtain ⟨NB677_694, NB694_677⟩ := nPB BK677 hg; have NB680_694 := az ((by rw [hg]; exact Nat.ne_of_lt (IsS95.lt (show IsS95 w _ g680 t678 t693 from qI HI680)) : g680 ≠ gb694)); have NB694_680 := az ((by rw [hg]; exact Nat.ne_of_gt (IsS95.lt (show IsS95 w _ g680 t678 t693 from qI HI680)) : gb694 ≠ g680)); replace BK676 := kBB BK676 hb; replace BK677 := kBB BK677 hb; replace HI680 := az (IsS95.below (qI HI680) hb); replace HB := bS HB hb; clear hb hbox hg; have hnb53 := NB694_676.out; have hnc53 := NB676_694.out; have hnb54 := NB694_677.out; have hnc54 := NB677_694.out; have hnb55 := NB694_680.out; have hnc55 := NB680_694.out; obtain ⟨hcz56_0, hcz56_1, hcz56_2, hcz56_3, hcz56_4, hcz56_5, hcz56_6, hcz56_7, hcz56_8, hcz56_9, hcz56_10, hcz56_11⟩ := cz12 BK694.out; obtain ⟨hfz56_0, hfz56_1, hfz56_2, hfz56_3, hfz56_4, hfz56_5, hfz56_6, hfz56_7, hfz56_8, hfz56_9, hfz56_10, hfz56_11⟩ := fz12 BK694.out) | ((with_reducible refine gate_callee (f := 61) rfl ?_); refine gl (some 12) Try.func61 #[.pointer (some ⟨g680, 0, none⟩), .int .i64 3] ?_; (with_reducible refine (spec_l11Drive.calls k g680 t678 t693 3 t695 t696 t697 w _ ?side1 ?side2 A4.out).mono ?_); (case side1 => exact qI HI680); (case side2 => exact qL HB); rintro e w57 ⟨rfl, hi, hb, hk⟩; refine ⟨_, rfl, ?_⟩; replace BK676 := kKF BK676 hk NB676_680; replace BK677 := kKF BK677 hk NB677_680; replace BK694 := kKP (o' := .cells #[.int .i64 t681, .int .i64 t682, .int .i64 t683, .int .i64 t684, .int .i64 t685, .int .i64 t686, .int .i64 t687, .int .i64 t688, .int .i64 t689, .int .i64 t690, .int .i64 t691, .int .i64 t692] 40 (0, 0)) BK694 hk NB694_680; replace HB := az hb; replace HI680 := az hi; clear hb hk hi) | ((with_reducible refine gate_dst (N := 6) rfl ?_); refine bx (N := 6) (cs := #[.int .i64 0, .int .i64 0]) (t := 24) ?_; intro gb698 hg w58 hbox hb; have BK698 := az hbox; have GW698 := az ((gE hg (qL HB) : w.heap.size ≤ gb698)); have GE698 := GW698; obtain ⟨NB676_698, NB698_676⟩ := nPB BK676 hg; obtain ⟨NB677_698, NB698_677⟩ := nPB BK677 hg; obtain ⟨NB694_698, NB698_694⟩ := nPB BK694 hg; have NB680_698 := az ((by rw [hg]; exact Nat.ne_of_lt (IsS95.lt (show IsS95 w _ g680 t678 t697 from qI HI680)) : g680 ≠ gb698)); have NB698_680 := az ((by rw [hg]; exact Nat.ne_of_gt (IsS95.lt (show IsS95 w _ g680 t678 t697 from qI HI680)) : gb698 ≠ g680)); replace BK676 := kBB BK676 hb; replace BK677 := kBB BK677 hb; replace HI680 := az (IsS95.below (qI HI680) hb); replace BK694 := kBB BK694 hb; replace HB := bS HB hb; clear hb hbox hg; have hnb59 := NB698_676.out; have hnc59 := NB676_698.out; have hnb60 := NB698_677.out; have hnc60 := NB677_698.out; have hnb61 := NB698_694.out; have hnc61 := NB694_698.out; have hnb62 := NB698_680.out; have hnc62 := NB680_698.out; obtain ⟨hcz63_0, hcz63_1⟩ := cz2 BK698.out; have hfz63_0 := blk_frozen BK698.out 0; have hfz63_1 := blk_frozen BK698.out 1) | ((with_reducible refine gate_callee (f := 62) rfl ?_); refine gl (some 14) Try.func62 #[.pointer (some ⟨g680, 0, none⟩), .int .i64 10] ?_; (with_reducible refine (spec_l1Rd_pick.calls k g680 t678 t697 10 t699 t700 w _ ?side1 ?side2 A5.out).mono ?_); (case side1 => exact qI HI680); (case side2 => exact qL HB); rintro e w64 ⟨rfl, hi, hb, hk⟩; refine ⟨_, rfl, ?_⟩; replace BK676 := kKF BK676 hk NB676_680; replace BK677 := kKF BK677 hk NB677_680; replace BK694 := kKF BK694 hk NB694_680; replace BK698 := kKP (o' := .cells #[.int .i64 t695, .int .i64 t696] 24 (0, 0)) BK698 hk NB698_680; replace HB := az hb; replace HI680 := az hi; clear hb hk hi) | ((with_reducible refine gate_dst (N := 24) rfl ?_); refine Kd.R_lit (Kd.int .i64) _ 3 ?hg (N := 24) ?hd (xs := ([(-20000000), (-20000001)] : List Int)) (inner := [.int .i64 (-20000000), .int .i64 (-20000001)]) (ok := fun _ => True) (okp := fun _ => True) ?hr ?hp (fun _ hk => hk) trivial (Below.refl _ _) (Nat.le_refl _) (by simp) ?_; (case hd => rfl); (case hg => rfl); (case hr => first | (go_simp; done) | (go_simp; rfl)); (case hp => exact (Reps.one (show Kd.M (Kd.int .i64) _ _ _ (-20000000) [.int .i64 (-20000000)] from rfl) (Reps.one (show Kd.M (Kd.int .i64) _ _ _ (-20000001) [.int .i64 (-20000001)] from rfl) (Reps.none _ _)))); intro v707 w65 ho66 hb hg_ hnew_; clear hg_ hnew_; (first | rw [← Ny706.out] at ho66 | (simp only [Int.reduceToNat] at ho66; rw [← Ny706.out] at ho66)); have HO708 := az (Kd.R_lower ho66 (below_size (qL HB))); replace BK676 := kBB BK676 hb; replace BK677 := kBB BK677 hb; replace HI680 := az (IsS95.below (qI HI680) hb); replace BK694 := kBB BK694 hb; replace BK698 := kBB BK698 hb; replace HB := bS HB hb; clear hb ho66; obtain ⟨Ao67, co67, eo67⟩ := Kd.R_slice HO708.out; subst eo67) | ((with_reducible refine gate_callee (f := 63) rfl ?_); refine gl (some 25) Try.func63 #[.pointer (some ⟨g680, 0, none⟩), .slice Ao67 y706.length co67] ?_; (with_reducible refine (spec_l1Rd_one.calls k g680 t678 t700 _ _ y706 t709 t710 w _ ?side1 ?side2 ?side3 ?side4 ?side5 A47.out).mono ?_); (case side1 => exact qI HI680); (case side2 => exact qL HB); (case side3 => repeat (first | exact (Kd.R_reads' HO708.out).2.2 | (with_reducible refine Kd.C_alloc ?_ _) | (with_reducible refine Kd.C_drewN ?_ _) | (with_reducible refine Kd.C_drew ?_))); (case side4 => exact (Kd.R_reads' HO708.out).2.1); (case side5 => exact far_slice (IsS95.own_ne HI680.out HO708.out (by decide))); rintro e w68 ⟨rfl, hi, hb, hk⟩; refine ⟨_, rfl, ?_⟩; replace BK676 := kKB BK676 hk NB676_680; replace BK677 := kKB BK677 hk NB677_680; replace BK694 := kKB BK694 hk NB694_680; replace BK698 := kKB BK698 hk NB698_680; replace HO708 := az (Kd.R_mono (Kd.R_keep (IsS95.apart (show IsS95 w _ g680 t678 t700 from qI HI680) (by (with_reducible repeat (first | apply Kd.R_alloc | apply Kd.R_drewN | apply Kd.R_drew)); exact HO708.out) (by decide)) hk (fun _ h => h.2)) (fun _ h => h.1)); replace HB := az hb; replace HI680 := az hi; clear hb hk hi; obtain ⟨hcz69_0, hcz69_1⟩ := cz2 BK698.out; have hfz69_0 := blk_frozen BK698.out 0; have hfz69_1 := blk_frozen BK698.out 1))
    obtain ⟨w70, hw_⟩ : ∃ x, x = (w68.setCell ⟨gb698, 1, none⟩ (.int .i64 t709)) := ⟨_, rfl⟩
    replace HO708 : Aside0 (Kd.R (Kd.int .i64) 3 w70 w.heap.size (fun _ => True) (.slice Ao67 y706.length co67) y706) := ⟨by rw [hw_]; (with_reducible repeat (first | apply Kd.R_alloc | apply Kd.R_drewN | apply Kd.R_drew)); exact Kd.R_mono (Kd.R_far (p := ⟨gb698, 1, none⟩) (Kd.R_types HO708.out BK698.out (by decide)) (fun _ hk => hk.2) (.int .i64 t709)) (fun _ hk => trivial)⟩
    replace BK676 : Aside0 (w70.heap[gb676]? = some (.cells #[.int .i64 0, .int .i64 0, .int .i64 0, .int .i64 0, .int .i64 0, .int .i64 0, .int .i64 0, .int .i64 0, .int .i64 0, .int .i64 0, .int .i64 0, .int .i64 0] 40 (0, 0))) := ⟨by rw [hw_]; exact qF BK676⟩
    replace BK677 : Aside0 (w70.heap[gb677]? = some (.cells #[.int .i64 0, .int .i64 0] 24 (0, 0))) := ⟨by rw [hw_]; exact qF BK677⟩
    replace BK694 : Aside0 (w70.heap[gb694]? = some (.cells #[.int .i64 t681, .int .i64 t682, .int .i64 t683, .int .i64 t684, .int .i64 t685, .int .i64 t686, .int .i64 t687, .int .i64 t688, .int .i64 t689, .int .i64 t690, .int .i64 t691, .int .i64 t692] 40 (0, 0))) := ⟨by rw [hw_]; exact qF BK694⟩
    replace BK698 : Aside0 (w70.heap[gb698]? = some (.cells #[.int .i64 t695, .int .i64 t709] 24 (0, 0))) := ⟨by rw [hw_]; exact qP BK698⟩
    replace HB : Aside0 (Below w.heap.size w w70) := ⟨by rw [hw_]; exact qL HB⟩
    replace HI680 : Aside0 (IsS95 w w70 g680 t678 t710) := ⟨by rw [hw_]; exact qI HI680⟩
    rw [← hw_]
    clear hw_
    replace HO708 := az (Kd.R_drew HO708.out)
    replace BK676 := az (blk_drew BK676.out)
    replace BK677 := az (blk_drew BK677.out)
    replace BK694 := az (blk_drew BK694.out)
    replace BK698 := az (blk_drew BK698.out)
    replace HI680 := az (IsS95.drew HI680.out)
    replace HB := az (below_drew1 HB.out)
    refine start_ (n := 4) (S := fun w' => w'.cell? ⟨gb694, 0, none⟩ = some (.int .i64 t681) ∧ w'.cell? ⟨gb694, 1, none⟩ = some (.int .i64 t682) ∧ w'.cell? ⟨gb694, 2, none⟩ = some (.int .i64 t683) ∧ w'.cell? ⟨gb694, 3, none⟩ = some (.int .i64 t684) ∧ w'.cell? ⟨gb694, 4, none⟩ = some (.int .i64 t685) ∧ w'.cell? ⟨gb694, 5, none⟩ = some (.int .i64 t686) ∧ w'.cell? ⟨gb694, 6, none⟩ = some (.int .i64 t687) ∧ w'.cell? ⟨gb694, 7, none⟩ = some (.int .i64 t688) ∧ w'.cell? ⟨gb694, 8, none⟩ = some (.int .i64 t689) ∧ w'.cell? ⟨gb694, 9, none⟩ = some (.int .i64 t690) ∧ w'.cell? ⟨gb694, 10, none⟩ = some (.int .i64 t691) ∧ w'.cell? ⟨gb694, 11, none⟩ = some (.int .i64 t692) ∧ w'.cell? ⟨gb698, 0, none⟩ = some (.int .i64 t695) ∧ w'.cell? ⟨gb698, 1, none⟩ = some (.int .i64 t709)) (ds := []) #[false, false, false, false] (by kernel_rfl) rfl rfl ⟨bc BK694 0, bc BK694 1, bc BK694 2, bc BK694 3, bc BK694 4, bc BK694 5, bc BK694 6, bc BK694 7, bc BK694 8, bc BK694 9, bc BK694 10, bc BK694 11, bc BK698 0, bc BK698 1⟩ (fun hHeld => ?_)
    generalize w70.drew = w71 at HO708 BK676 BK677 BK694 BK698 HI680 HB hHeld ⊢
    refine take_ (i := 0) (N := some 27) (v := ?_) (a' := ?_) #[true, false, false, false] rfl rfl (by kernel_rfl) (fun _ _ _ h => h) (Or.inl ⟨by rfl, ?_⟩) hHeld ?_ ?_
    rotate_left
    · rintro w' ⟨s0, s1, s2, s3, s4, s5, s6, s7, s8, s9, s10, s11, s12, s13⟩
      go_simp
      with_reducible rfl
    rotate_left
    · simp only [Act.put, List.setIfInBounds_toArray, List.set_cons_zero, List.set_cons_succ, i64_w, i32_w]
      rfl
    refine take_ (i := 1) (N := some 28) (v := ?_) (a' := ?_) #[true, true, false, false] rfl rfl (by kernel_rfl) (fun _ _ _ h => h) (Or.inl ⟨by rfl, ?_⟩) hHeld ?_ ?_
    rotate_left
    · rintro w' ⟨s0, s1, s2, s3, s4, s5, s6, s7, s8, s9, s10, s11, s12, s13⟩
      go_simp
      with_reducible rfl
    rotate_left
    · simp only [Act.put, List.setIfInBounds_toArray, List.set_cons_zero, List.set_cons_succ, i64_w, i32_w]
      rfl
    refine one_ (i := 2) (N := none) #[true, true, true, false] rfl rfl (by kernel_rfl) (by decide) (fun K hK => ?_)
    have hs72 : w71.cell? ⟨gb676, 0, none⟩ = some (.int .i64 0) := bc BK676 0
    have hfs72 := blk_frozen BK676.out 0
    have hns72_1 := NB677_676.out
    have hns72_2 := NB694_676.out
    have hns72_3 := NB698_676.out
    have hms72_1 := NB676_677.out
    have hms72_2 := NB676_694.out
    have hms72_3 := NB676_698.out
    have hs73 : w71.cell? ⟨gb676, 1, none⟩ = some (.int .i64 0) := bc BK676 1
    have hfs73 := blk_frozen BK676.out 1
    have hns73_1 := NB677_676.out
    have hns73_2 := NB694_676.out
    have hns73_3 := NB698_676.out
    have hms73_1 := NB676_677.out
    have hms73_2 := NB676_694.out
    have hms73_3 := NB676_698.out
    have hs74 : w71.cell? ⟨gb676, 2, none⟩ = some (.int .i64 0) := bc BK676 2
    have hfs74 := blk_frozen BK676.out 2
    have hns74_1 := NB677_676.out
    have hns74_2 := NB694_676.out
    have hns74_3 := NB698_676.out
    have hms74_1 := NB676_677.out
    have hms74_2 := NB676_694.out
    have hms74_3 := NB676_698.out
    have hs75 : w71.cell? ⟨gb676, 3, none⟩ = some (.int .i64 0) := bc BK676 3
    have hfs75 := blk_frozen BK676.out 3
    have hns75_1 := NB677_676.out
    have hns75_2 := NB694_676.out
    have hns75_3 := NB698_676.out
    have hms75_1 := NB676_677.out
    have hms75_2 := NB676_694.out
    have hms75_3 := NB676_698.out
    have hs76 : w71.cell? ⟨gb676, 4, none⟩ = some (.int .i64 0) := bc BK676 4
    have hfs76 := blk_frozen BK676.out 4
    have hns76_1 := NB677_676.out
    have hns76_2 := NB694_676.out
    have hns76_3 := NB698_676.out
    have hms76_1 := NB676_677.out
    have hms76_2 := NB676_694.out
    have hms76_3 := NB676_698.out
    have hs77 : w71.cell? ⟨gb676, 5, none⟩ = some (.int .i64 0) := bc BK676 5
    have hfs77 := blk_frozen BK676.out 5
    have hns77_1 := NB677_676.out
    have hns77_2 := NB694_676.out
    have hns77_3 := NB698_676.out
    have hms77_1 := NB676_677.out
    have hms77_2 := NB676_694.out
    have hms77_3 := NB676_698.out
    have hs78 : w71.cell? ⟨gb676, 6, none⟩ = some (.int .i64 0) := bc BK676 6
    have hfs78 := blk_frozen BK676.out 6
    have hns78_1 := NB677_676.out
    have hns78_2 := NB694_676.out
    have hns78_3 := NB698_676.out
    have hms78_1 := NB676_677.out
    have hms78_2 := NB676_694.out
    have hms78_3 := NB676_698.out
    have hs79 : w71.cell? ⟨gb676, 7, none⟩ = some (.int .i64 0) := bc BK676 7
    have hfs79 := blk_frozen BK676.out 7
    have hns79_1 := NB677_676.out
    have hns79_2 := NB694_676.out
    have hns79_3 := NB698_676.out
    have hms79_1 := NB676_677.out
    have hms79_2 := NB676_694.out
    have hms79_3 := NB676_698.out
    have hs80 : w71.cell? ⟨gb676, 8, none⟩ = some (.int .i64 0) := bc BK676 8
    have hfs80 := blk_frozen BK676.out 8
    have hns80_1 := NB677_676.out
    have hns80_2 := NB694_676.out
    have hns80_3 := NB698_676.out
    have hms80_1 := NB676_677.out
    have hms80_2 := NB676_694.out
    have hms80_3 := NB676_698.out
    have hs81 : w71.cell? ⟨gb676, 9, none⟩ = some (.int .i64 0) := bc BK676 9
    have hfs81 := blk_frozen BK676.out 9
    have hns81_1 := NB677_676.out
    have hns81_2 := NB694_676.out
    have hns81_3 := NB698_676.out
    have hms81_1 := NB676_677.out
    have hms81_2 := NB676_694.out
    have hms81_3 := NB676_698.out
    have hs82 : w71.cell? ⟨gb676, 10, none⟩ = some (.int .i64 0) := bc BK676 10
    have hfs82 := blk_frozen BK676.out 10
    have hns82_1 := NB677_676.out
    have hns82_2 := NB694_676.out
    have hns82_3 := NB698_676.out
    have hms82_1 := NB676_677.out
    have hms82_2 := NB676_694.out
    have hms82_3 := NB676_698.out
    have hs83 : w71.cell? ⟨gb676, 11, none⟩ = some (.int .i64 0) := bc BK676 11
    have hfs83 := blk_frozen BK676.out 11
    have hns83_1 := NB677_676.out
    have hns83_2 := NB694_676.out
    have hns83_3 := NB698_676.out
    have hms83_1 := NB676_677.out
    have hms83_2 := NB676_694.out
    have hms83_3 := NB676_698.out
    refine skip_ (w1 := ?_) ?hw ?hn ?_ ?_; (case hw => unfold Region.wanted; rfl); (case hn => rfl)
    rotate_left
    · go_simp
      rfl
    refine hK.out _ _ ⟨(cf NB694_676 ((cf NB694_676 ((cf NB694_676 ((cf NB694_676 ((cf NB694_676 ((cf NB694_676 ((cf NB694_676 ((cf NB694_676 ((cf NB694_676 ((cf NB694_676 ((cf NB694_676 ((cf NB694_676 (hHeld.1)))))))))))))))))))))))), (cf NB694_676 ((cf NB694_676 ((cf NB694_676 ((cf NB694_676 ((cf NB694_676 ((cf NB694_676 ((cf NB694_676 ((cf NB694_676 ((cf NB694_676 ((cf NB694_676 ((cf NB694_676 ((cf NB694_676 (hHeld.2.1)))))))))))))))))))))))), (cf NB694_676 ((cf NB694_676 ((cf NB694_676 ((cf NB694_676 ((cf NB694_676 ((cf NB694_676 ((cf NB694_676 ((cf NB694_676 ((cf NB694_676 ((cf NB694_676 ((cf NB694_676 ((cf NB694_676 (hHeld.2.2.1)))))))))))))))))))))))), (cf NB694_676 ((cf NB694_676 ((cf NB694_676 ((cf NB694_676 ((cf NB694_676 ((cf NB694_676 ((cf NB694_676 ((cf NB694_676 ((cf NB694_676 ((cf NB694_676 ((cf NB694_676 ((cf NB694_676 (hHeld.2.2.2.1)))))))))))))))))))))))), (cf NB694_676 ((cf NB694_676 ((cf NB694_676 ((cf NB694_676 ((cf NB694_676 ((cf NB694_676 ((cf NB694_676 ((cf NB694_676 ((cf NB694_676 ((cf NB694_676 ((cf NB694_676 ((cf NB694_676 (hHeld.2.2.2.2.1)))))))))))))))))))))))), (cf NB694_676 ((cf NB694_676 ((cf NB694_676 ((cf NB694_676 ((cf NB694_676 ((cf NB694_676 ((cf NB694_676 ((cf NB694_676 ((cf NB694_676 ((cf NB694_676 ((cf NB694_676 ((cf NB694_676 (hHeld.2.2.2.2.2.1)))))))))))))))))))))))), (cf NB694_676 ((cf NB694_676 ((cf NB694_676 ((cf NB694_676 ((cf NB694_676 ((cf NB694_676 ((cf NB694_676 ((cf NB694_676 ((cf NB694_676 ((cf NB694_676 ((cf NB694_676 ((cf NB694_676 (hHeld.2.2.2.2.2.2.1)))))))))))))))))))))))), (cf NB694_676 ((cf NB694_676 ((cf NB694_676 ((cf NB694_676 ((cf NB694_676 ((cf NB694_676 ((cf NB694_676 ((cf NB694_676 ((cf NB694_676 ((cf NB694_676 ((cf NB694_676 ((cf NB694_676 (hHeld.2.2.2.2.2.2.2.1)))))))))))))))))))))))), (cf NB694_676 ((cf NB694_676 ((cf NB694_676 ((cf NB694_676 ((cf NB694_676 ((cf NB694_676 ((cf NB694_676 ((cf NB694_676 ((cf NB694_676 ((cf NB694_676 ((cf NB694_676 ((cf NB694_676 (hHeld.2.2.2.2.2.2.2.2.1)))))))))))))))))))))))), (cf NB694_676 ((cf NB694_676 ((cf NB694_676 ((cf NB694_676 ((cf NB694_676 ((cf NB694_676 ((cf NB694_676 ((cf NB694_676 ((cf NB694_676 ((cf NB694_676 ((cf NB694_676 ((cf NB694_676 (hHeld.2.2.2.2.2.2.2.2.2.1)))))))))))))))))))))))), (cf NB694_676 ((cf NB694_676 ((cf NB694_676 ((cf NB694_676 ((cf NB694_676 ((cf NB694_676 ((cf NB694_676 ((cf NB694_676 ((cf NB694_676 ((cf NB694_676 ((cf NB694_676 ((cf NB694_676 (hHeld.2.2.2.2.2.2.2.2.2.2.1)))))))))))))))))))))))), (cf NB694_676 ((cf NB694_676 ((cf NB694_676 ((cf NB694_676 ((cf NB694_676 ((cf NB694_676 ((cf NB694_676 ((cf NB694_676 ((cf NB694_676 ((cf NB694_676 ((cf NB694_676 ((cf NB694_676 (hHeld.2.2.2.2.2.2.2.2.2.2.2.1)))))))))))))))))))))))), (cf NB698_676 ((cf NB698_676 ((cf NB698_676 ((cf NB698_676 ((cf NB698_676 ((cf NB698_676 ((cf NB698_676 ((cf NB698_676 ((cf NB698_676 ((cf NB698_676 ((cf NB698_676 ((cf NB698_676 (hHeld.2.2.2.2.2.2.2.2.2.2.2.2.1)))))))))))))))))))))))), (cf NB698_676 ((cf NB698_676 ((cf NB698_676 ((cf NB698_676 ((cf NB698_676 ((cf NB698_676 ((cf NB698_676 ((cf NB698_676 ((cf NB698_676 ((cf NB698_676 ((cf NB698_676 ((cf NB698_676 (hHeld.2.2.2.2.2.2.2.2.2.2.2.2.2))))))))))))))))))))))))⟩ (fun hHeld => ?_)
    clear hK K
    refine one_ (i := 3) (N := none) #[true, true, true, true] rfl rfl (by kernel_rfl) (by decide) (fun K hK => ?_)
    have hs84 : w71.cell? ⟨gb677, 0, none⟩ = some (.int .i64 0) := bc BK677 0
    have hfs84 := blk_frozen BK677.out 0
    have hns84_0 := NB676_677.out
    have hns84_2 := NB694_677.out
    have hns84_3 := NB698_677.out
    have hms84_0 := NB677_676.out
    have hms84_2 := NB677_694.out
    have hms84_3 := NB677_698.out
    have hs85 : w71.cell? ⟨gb677, 1, none⟩ = some (.int .i64 0) := bc BK677 1
    have hfs85 := blk_frozen BK677.out 1
    have hns85_0 := NB676_677.out
    have hns85_2 := NB694_677.out
    have hns85_3 := NB698_677.out
    have hms85_0 := NB677_676.out
    have hms85_2 := NB677_694.out
    have hms85_3 := NB677_698.out
    refine skip_ (w1 := ?_) ?hw ?hn ?_ ?_; (case hw => unfold Region.wanted; rfl); (case hn => rfl)
    rotate_left
    · go_simp
      rfl
    refine hK.out _ _ ⟨(cf NB694_677 ((cf NB694_677 (hHeld.1)))), (cf NB694_677 ((cf NB694_677 (hHeld.2.1)))), (cf NB694_677 ((cf NB694_677 (hHeld.2.2.1)))), (cf NB694_677 ((cf NB694_677 (hHeld.2.2.2.1)))), (cf NB694_677 ((cf NB694_677 (hHeld.2.2.2.2.1)))), (cf NB694_677 ((cf NB694_677 (hHeld.2.2.2.2.2.1)))), (cf NB694_677 ((cf NB694_677 (hHeld.2.2.2.2.2.2.1)))), (cf NB694_677 ((cf NB694_677 (hHeld.2.2.2.2.2.2.2.1)))), (cf NB694_677 ((cf NB694_677 (hHeld.2.2.2.2.2.2.2.2.1)))), (cf NB694_677 ((cf NB694_677 (hHeld.2.2.2.2.2.2.2.2.2.1)))), (cf NB694_677 ((cf NB694_677 (hHeld.2.2.2.2.2.2.2.2.2.2.1)))), (cf NB694_677 ((cf NB694_677 (hHeld.2.2.2.2.2.2.2.2.2.2.2.1)))), (cf NB698_677 ((cf NB698_677 (hHeld.2.2.2.2.2.2.2.2.2.2.2.2.1)))), (cf NB698_677 ((cf NB698_677 (hHeld.2.2.2.2.2.2.2.2.2.2.2.2.2))))⟩ (fun hHeld => ?_)
    clear hK K
    refine done_ (by kernel_rfl) ?_
    try go_wp2
    refine bodyPost_ret (results_cc rfl _ _ gb676 gb677 40 24 #[.int .i64 t681, .int .i64 t682, .int .i64 t683, .int .i64 t684, .int .i64 t685, .int .i64 t686, .int .i64 t687, .int .i64 t688, .int .i64 t689, .int .i64 t690, .int .i64 t691, .int .i64 t692] #[.int .i64 t695, .int .i64 t709] (0, 0) (0, 0) _ _ rfl (qP BK676) Try.underlying40 rfl (by kernel_rfl) rfl (qP BK677) Try.underlying24 rfl (by kernel_rfl)) rfl ?_
    exact ⟨qE, qL HB⟩
  rw [if_neg c46] at H
  have c46b0 : (t699 == 1) = false := beq_eq_false_iff_ne.mpr c46
  have c46b1 : (t699 != 1) = true := bne_iff_ne.mpr c46
  simp only [Option.some.injEq, Prod.mk.injEq] at H
  obtain ⟨rfl, rfl, rfl, rfl, rfl, rfl, rfl, rfl, rfl, rfl, rfl, rfl, rfl, rfl⟩ := H
  go_enter Try.func25, Try.ntmps25
  try go_wp2_with (first | ((with_reducible refine gate_dst (N := 2) rfl ?_); refine bx (N := 2) (cs := #[.int .i64 0, .int .i64 0, .int .i64 0, .int .i64 0, .int .i64 0, .int .i64 0, .int .i64 0, .int .i64 0, .int .i64 0, .int .i64 0, .int .i64 0, .int .i64 0]) (t := 40) ?_; intro gb676 hg w86 hbox hb; have BK676 := az hbox; have GW676 := az ((gE hg (qL HB) : w.heap.size ≤ gb676)); have GE676 := GW676; replace HB := bS HB hb; clear hb hbox hg) | ((with_reducible refine gate_dst (N := 3) rfl ?_); refine bx (N := 3) (cs := #[.int .i64 0, .int .i64 0]) (t := 24) ?_; intro gb677 hg w87 hbox hb; have BK677 := az hbox; have GW677 := az ((gE hg (qL HB) : w.heap.size ≤ gb677)); have GE677 := GW677; obtain ⟨NB676_677, NB677_676⟩ := nPB BK676 hg; replace BK676 := kBB BK676 hb; replace HB := bS HB hb; clear hb hbox hg) | ((with_reducible refine gate_callee (f := 59) rfl ?_); refine gl (some 8) Try.func59 #[.slice A0 l0.length c0] ?_; (with_reducible refine (spec_l1Open.calls _ _ l0 t678 t679 w _ ?side1 ?side2 ?side3 A2.out).mono ?_); (case side1 => exact qL HB); (case side2 => exact HR0.out); (case side3 => exact HC0.out); rintro e w88 ⟨g680, rfl, hi, hb, hb2⟩; refine ⟨_, rfl, ?_⟩; have HI680 := az hi; have NB680_676 := az (IsS95.ne_blk hi (blk_below (g := gb676) (o := .cells #[.int .i64 0, .int .i64 0, .int .i64 0, .int .i64 0, .int .i64 0, .int .i64 0, .int .i64 0, .int .i64 0, .int .i64 0, .int .i64 0, .int .i64 0, .int .i64 0] 40 (0, 0)) (qB BK676) hb2) (by decide)); have NB676_680 := az (Ne.symm (IsS95.ne_blk hi (blk_below (g := gb676) (o := .cells #[.int .i64 0, .int .i64 0, .int .i64 0, .int .i64 0, .int .i64 0, .int .i64 0, .int .i64 0, .int .i64 0, .int .i64 0, .int .i64 0, .int .i64 0, .int .i64 0] 40 (0, 0)) (qB BK676) hb2) (by decide))); have NB680_677 := az (IsS95.ne_blk hi (blk_below (g := gb677) (o := .cells #[.int .i64 0, .int .i64 0] 24 (0, 0)) (qB BK677) hb2) (by decide)); have NB677_680 := az (Ne.symm (IsS95.ne_blk hi (blk_below (g := gb677) (o := .cells #[.int .i64 0, .int .i64 0] 24 (0, 0)) (qB BK677) hb2) (by decide))); replace BK676 := az (blk_below (g := gb676) (o := .cells #[.int .i64 0, .int .i64 0, .int .i64 0, .int .i64 0, .int .i64 0, .int .i64 0, .int .i64 0, .int .i64 0, .int .i64 0, .int .i64 0, .int .i64 0, .int .i64 0] 40 (0, 0)) (qB BK676) hb2); replace BK677 := az (blk_below (g := gb677) (o := .cells #[.int .i64 0, .int .i64 0] 24 (0, 0)) (qB BK677) hb2); replace HB := az hb; clear hb2 hb hi) | ((with_reducible refine gate_callee (f := 60) rfl ?_); refine gl (some 10) Try.func60 #[.pointer (some ⟨g680, 0, none⟩)] ?_; (with_reducible refine (spec_l11AnyBody.calls k g680 t678 t679 t681 t682 t683 t684 t685 t686 t687 t688 t689 t690 t691 t692 t693 w _ ?side1 ?side2 A3.out).mono ?_); (case side1 => exact qI HI680); (case side2 => exact qL HB); rintro e w89 ⟨rfl, hi, hb, hk⟩; refine ⟨_, rfl, ?_⟩; replace BK676 := kKB BK676 hk NB676_680; replace BK677 := kKB BK677 hk NB677_680; replace HB := az hb; replace HI680 := az hi; clear hb hk hi) | ((with_reducible refine gate_dst (N := 5) rfl ?_); refine bx (N := 5) (cs := #[.int .i64 0, .int .i64 0, .int .i64 0, .int .i64 0, .int .i64 0, .int .i64 0, .int .i64 0, .int .i64 0, .int .i64 0, .int .i64 0, .int .i64 0, .int .i64 0]) (t := 40) ?_; intro gb694 hg w90 hbox hb; have BK694 := az hbox; have GW694 := az ((gE hg (qL HB) : w.heap.size ≤ gb694)); have GE694 := GW694; obtain ⟨NB676_694, NB694_676⟩ := nPB BK676 hg; obtain ⟨NB677_694, NB694_677⟩ := nPB BK677 hg; have NB680_694 := az ((by rw [hg]; exact Nat.ne_of_lt (IsS95.lt (show IsS95 w _ g680 t678 t693 from qI HI680)) : g680 ≠ gb694)); have NB694_680 := az ((by rw [hg]; exact Nat.ne_of_gt (IsS95.lt (show IsS95 w _ g680 t678 t693 from qI HI680)) : gb694 ≠ g680)); replace BK676 := kBB BK676 hb; replace BK677 := kBB BK677 hb; replace HI680 := az (IsS95.below (qI HI680) hb); replace HB := bS HB hb; clear hb hbox hg; have hnb91 := NB694_676.out; have hnc91 := NB676_694.out; have hnb92 := NB694_677.out; have hnc92 := NB677_694.out; have hnb93 := NB694_680.out; have hnc93 := NB680_694.out; obtain ⟨hcz94_0, hcz94_1, hcz94_2, hcz94_3, hcz94_4, hcz94_5, hcz94_6, hcz94_7, hcz94_8, hcz94_9, hcz94_10, hcz94_11⟩ := cz12 BK694.out; obtain ⟨hfz94_0, hfz94_1, hfz94_2, hfz94_3, hfz94_4, hfz94_5, hfz94_6, hfz94_7, hfz94_8, hfz94_9, hfz94_10, hfz94_11⟩ := fz12 BK694.out) | ((with_reducible refine gate_callee (f := 61) rfl ?_); refine gl (some 12) Try.func61 #[.pointer (some ⟨g680, 0, none⟩), .int .i64 3] ?_; (with_reducible refine (spec_l11Drive.calls k g680 t678 t693 3 t695 t696 t697 w _ ?side1 ?side2 A4.out).mono ?_); (case side1 => exact qI HI680); (case side2 => exact qL HB); rintro e w95 ⟨rfl, hi, hb, hk⟩; refine ⟨_, rfl, ?_⟩; replace BK676 := kKF BK676 hk NB676_680; replace BK677 := kKF BK677 hk NB677_680; replace BK694 := kKP (o' := .cells #[.int .i64 t681, .int .i64 t682, .int .i64 t683, .int .i64 t684, .int .i64 t685, .int .i64 t686, .int .i64 t687, .int .i64 t688, .int .i64 t689, .int .i64 t690, .int .i64 t691, .int .i64 t692] 40 (0, 0)) BK694 hk NB694_680; replace HB := az hb; replace HI680 := az hi; clear hb hk hi) | ((with_reducible refine gate_dst (N := 6) rfl ?_); refine bx (N := 6) (cs := #[.int .i64 0, .int .i64 0]) (t := 24) ?_; intro gb698 hg w96 hbox hb; have BK698 := az hbox; have GW698 := az ((gE hg (qL HB) : w.heap.size ≤ gb698)); have GE698 := GW698; obtain ⟨NB676_698, NB698_676⟩ := nPB BK676 hg; obtain ⟨NB677_698, NB698_677⟩ := nPB BK677 hg; obtain ⟨NB694_698, NB698_694⟩ := nPB BK694 hg; have NB680_698 := az ((by rw [hg]; exact Nat.ne_of_lt (IsS95.lt (show IsS95 w _ g680 t678 t697 from qI HI680)) : g680 ≠ gb698)); have NB698_680 := az ((by rw [hg]; exact Nat.ne_of_gt (IsS95.lt (show IsS95 w _ g680 t678 t697 from qI HI680)) : gb698 ≠ g680)); replace BK676 := kBB BK676 hb; replace BK677 := kBB BK677 hb; replace HI680 := az (IsS95.below (qI HI680) hb); replace BK694 := kBB BK694 hb; replace HB := bS HB hb; clear hb hbox hg; have hnb97 := NB698_676.out; have hnc97 := NB676_698.out; have hnb98 := NB698_677.out; have hnc98 := NB677_698.out; have hnb99 := NB698_694.out; have hnc99 := NB694_698.out; have hnb100 := NB698_680.out; have hnc100 := NB680_698.out; obtain ⟨hcz101_0, hcz101_1⟩ := cz2 BK698.out; have hfz101_0 := blk_frozen BK698.out 0; have hfz101_1 := blk_frozen BK698.out 1) | ((with_reducible refine gate_callee (f := 62) rfl ?_); refine gl (some 14) Try.func62 #[.pointer (some ⟨g680, 0, none⟩), .int .i64 10] ?_; (with_reducible refine (spec_l1Rd_pick.calls k g680 t678 t697 10 t699 t700 w _ ?side1 ?side2 A5.out).mono ?_); (case side1 => exact qI HI680); (case side2 => exact qL HB); rintro e w102 ⟨rfl, hi, hb, hk⟩; refine ⟨_, rfl, ?_⟩; replace BK676 := kKF BK676 hk NB676_680; replace BK677 := kKF BK677 hk NB677_680; replace BK694 := kKF BK694 hk NB694_680; replace BK698 := kKP (o' := .cells #[.int .i64 t695, .int .i64 t696] 24 (0, 0)) BK698 hk NB698_680; replace HB := az hb; replace HI680 := az hi; clear hb hk hi))
  replace BK676 := az (blk_drew BK676.out)
  replace BK677 := az (blk_drew BK677.out)
  replace BK694 := az (blk_drew BK694.out)
  replace BK698 := az (blk_drew BK698.out)
  replace HI680 := az (IsS95.drew HI680.out)
  replace HB := az (below_drew1 HB.out)
  refine start_ (n := 4) (S := fun w' => w'.cell? ⟨gb694, 0, none⟩ = some (.int .i64 t681) ∧ w'.cell? ⟨gb694, 1, none⟩ = some (.int .i64 t682) ∧ w'.cell? ⟨gb694, 2, none⟩ = some (.int .i64 t683) ∧ w'.cell? ⟨gb694, 3, none⟩ = some (.int .i64 t684) ∧ w'.cell? ⟨gb694, 4, none⟩ = some (.int .i64 t685) ∧ w'.cell? ⟨gb694, 5, none⟩ = some (.int .i64 t686) ∧ w'.cell? ⟨gb694, 6, none⟩ = some (.int .i64 t687) ∧ w'.cell? ⟨gb694, 7, none⟩ = some (.int .i64 t688) ∧ w'.cell? ⟨gb694, 8, none⟩ = some (.int .i64 t689) ∧ w'.cell? ⟨gb694, 9, none⟩ = some (.int .i64 t690) ∧ w'.cell? ⟨gb694, 10, none⟩ = some (.int .i64 t691) ∧ w'.cell? ⟨gb694, 11, none⟩ = some (.int .i64 t692) ∧ w'.cell? ⟨gb698, 0, none⟩ = some (.int .i64 t695) ∧ w'.cell? ⟨gb698, 1, none⟩ = some (.int .i64 t696)) (ds := []) #[false, false, false, false] (by kernel_rfl) rfl rfl ⟨bc BK694 0, bc BK694 1, bc BK694 2, bc BK694 3, bc BK694 4, bc BK694 5, bc BK694 6, bc BK694 7, bc BK694 8, bc BK694 9, bc BK694 10, bc BK694 11, bc BK698 0, bc BK698 1⟩ (fun hHeld => ?_)
  generalize w102.drew = w103 at BK676 BK677 BK694 BK698 HI680 HB hHeld ⊢
  refine take_ (i := 0) (N := some 27) (v := ?_) (a' := ?_) #[true, false, false, false] rfl rfl (by kernel_rfl) (fun _ _ _ h => h) (Or.inl ⟨by rfl, ?_⟩) hHeld ?_ ?_
  rotate_left
  · rintro w' ⟨s0, s1, s2, s3, s4, s5, s6, s7, s8, s9, s10, s11, s12, s13⟩
    go_simp
    with_reducible rfl
  rotate_left
  · simp only [Act.put, List.setIfInBounds_toArray, List.set_cons_zero, List.set_cons_succ, i64_w, i32_w]
    rfl
  refine take_ (i := 1) (N := some 28) (v := ?_) (a' := ?_) #[true, true, false, false] rfl rfl (by kernel_rfl) (fun _ _ _ h => h) (Or.inl ⟨by rfl, ?_⟩) hHeld ?_ ?_
  rotate_left
  · rintro w' ⟨s0, s1, s2, s3, s4, s5, s6, s7, s8, s9, s10, s11, s12, s13⟩
    go_simp
    with_reducible rfl
  rotate_left
  · simp only [Act.put, List.setIfInBounds_toArray, List.set_cons_zero, List.set_cons_succ, i64_w, i32_w]
    rfl
  refine one_ (i := 2) (N := none) #[true, true, true, false] rfl rfl (by kernel_rfl) (by decide) (fun K hK => ?_)
  have hs104 : w103.cell? ⟨gb676, 0, none⟩ = some (.int .i64 0) := bc BK676 0
  have hfs104 := blk_frozen BK676.out 0
  have hns104_1 := NB677_676.out
  have hns104_2 := NB694_676.out
  have hns104_3 := NB698_676.out
  have hms104_1 := NB676_677.out
  have hms104_2 := NB676_694.out
  have hms104_3 := NB676_698.out
  have hs105 : w103.cell? ⟨gb676, 1, none⟩ = some (.int .i64 0) := bc BK676 1
  have hfs105 := blk_frozen BK676.out 1
  have hns105_1 := NB677_676.out
  have hns105_2 := NB694_676.out
  have hns105_3 := NB698_676.out
  have hms105_1 := NB676_677.out
  have hms105_2 := NB676_694.out
  have hms105_3 := NB676_698.out
  have hs106 : w103.cell? ⟨gb676, 2, none⟩ = some (.int .i64 0) := bc BK676 2
  have hfs106 := blk_frozen BK676.out 2
  have hns106_1 := NB677_676.out
  have hns106_2 := NB694_676.out
  have hns106_3 := NB698_676.out
  have hms106_1 := NB676_677.out
  have hms106_2 := NB676_694.out
  have hms106_3 := NB676_698.out
  have hs107 : w103.cell? ⟨gb676, 3, none⟩ = some (.int .i64 0) := bc BK676 3
  have hfs107 := blk_frozen BK676.out 3
  have hns107_1 := NB677_676.out
  have hns107_2 := NB694_676.out
  have hns107_3 := NB698_676.out
  have hms107_1 := NB676_677.out
  have hms107_2 := NB676_694.out
  have hms107_3 := NB676_698.out
  have hs108 : w103.cell? ⟨gb676, 4, none⟩ = some (.int .i64 0) := bc BK676 4
  have hfs108 := blk_frozen BK676.out 4
  have hns108_1 := NB677_676.out
  have hns108_2 := NB694_676.out
  have hns108_3 := NB698_676.out
  have hms108_1 := NB676_677.out
  have hms108_2 := NB676_694.out
  have hms108_3 := NB676_698.out
  have hs109 : w103.cell? ⟨gb676, 5, none⟩ = some (.int .i64 0) := bc BK676 5
  have hfs109 := blk_frozen BK676.out 5
  have hns109_1 := NB677_676.out
  have hns109_2 := NB694_676.out
  have hns109_3 := NB698_676.out
  have hms109_1 := NB676_677.out
  have hms109_2 := NB676_694.out
  have hms109_3 := NB676_698.out
  have hs110 : w103.cell? ⟨gb676, 6, none⟩ = some (.int .i64 0) := bc BK676 6
  have hfs110 := blk_frozen BK676.out 6
  have hns110_1 := NB677_676.out
  have hns110_2 := NB694_676.out
  have hns110_3 := NB698_676.out
  have hms110_1 := NB676_677.out
  have hms110_2 := NB676_694.out
  have hms110_3 := NB676_698.out
  have hs111 : w103.cell? ⟨gb676, 7, none⟩ = some (.int .i64 0) := bc BK676 7
  have hfs111 := blk_frozen BK676.out 7
  have hns111_1 := NB677_676.out
  have hns111_2 := NB694_676.out
  have hns111_3 := NB698_676.out
  have hms111_1 := NB676_677.out
  have hms111_2 := NB676_694.out
  have hms111_3 := NB676_698.out
  have hs112 : w103.cell? ⟨gb676, 8, none⟩ = some (.int .i64 0) := bc BK676 8
  have hfs112 := blk_frozen BK676.out 8
  have hns112_1 := NB677_676.out
  have hns112_2 := NB694_676.out
  have hns112_3 := NB698_676.out
  have hms112_1 := NB676_677.out
  have hms112_2 := NB676_694.out
  have hms112_3 := NB676_698.out
  have hs113 : w103.cell? ⟨gb676, 9, none⟩ = some (.int .i64 0) := bc BK676 9
  have hfs113 := blk_frozen BK676.out 9
  have hns113_1 := NB677_676.out
  have hns113_2 := NB694_676.out
  have hns113_3 := NB698_676.out
  have hms113_1 := NB676_677.out
  have hms113_2 := NB676_694.out
  have hms113_3 := NB676_698.out
  have hs114 : w103.cell? ⟨gb676, 10, none⟩ = some (.int .i64 0) := bc BK676 10
  have hfs114 := blk_frozen BK676.out 10
  have hns114_1 := NB677_676.out
  have hns114_2 := NB694_676.out
  have hns114_3 := NB698_676.out
  have hms114_1 := NB676_677.out
  have hms114_2 := NB676_694.out
  have hms114_3 := NB676_698.out
  have hs115 : w103.cell? ⟨gb676, 11, none⟩ = some (.int .i64 0) := bc BK676 11
  have hfs115 := blk_frozen BK676.out 11
  have hns115_1 := NB677_676.out
  have hns115_2 := NB694_676.out
  have hns115_3 := NB698_676.out
  have hms115_1 := NB676_677.out
  have hms115_2 := NB676_694.out
  have hms115_3 := NB676_698.out
  refine skip_ (w1 := ?_) ?hw ?hn ?_ ?_; (case hw => unfold Region.wanted; rfl); (case hn => rfl)
  rotate_left
  · go_simp
    rfl
  refine hK.out _ _ ⟨(cf NB694_676 ((cf NB694_676 ((cf NB694_676 ((cf NB694_676 ((cf NB694_676 ((cf NB694_676 ((cf NB694_676 ((cf NB694_676 ((cf NB694_676 ((cf NB694_676 ((cf NB694_676 ((cf NB694_676 (hHeld.1)))))))))))))))))))))))), (cf NB694_676 ((cf NB694_676 ((cf NB694_676 ((cf NB694_676 ((cf NB694_676 ((cf NB694_676 ((cf NB694_676 ((cf NB694_676 ((cf NB694_676 ((cf NB694_676 ((cf NB694_676 ((cf NB694_676 (hHeld.2.1)))))))))))))))))))))))), (cf NB694_676 ((cf NB694_676 ((cf NB694_676 ((cf NB694_676 ((cf NB694_676 ((cf NB694_676 ((cf NB694_676 ((cf NB694_676 ((cf NB694_676 ((cf NB694_676 ((cf NB694_676 ((cf NB694_676 (hHeld.2.2.1)))))))))))))))))))))))), (cf NB694_676 ((cf NB694_676 ((cf NB694_676 ((cf NB694_676 ((cf NB694_676 ((cf NB694_676 ((cf NB694_676 ((cf NB694_676 ((cf NB694_676 ((cf NB694_676 ((cf NB694_676 ((cf NB694_676 (hHeld.2.2.2.1)))))))))))))))))))))))), (cf NB694_676 ((cf NB694_676 ((cf NB694_676 ((cf NB694_676 ((cf NB694_676 ((cf NB694_676 ((cf NB694_676 ((cf NB694_676 ((cf NB694_676 ((cf NB694_676 ((cf NB694_676 ((cf NB694_676 (hHeld.2.2.2.2.1)))))))))))))))))))))))), (cf NB694_676 ((cf NB694_676 ((cf NB694_676 ((cf NB694_676 ((cf NB694_676 ((cf NB694_676 ((cf NB694_676 ((cf NB694_676 ((cf NB694_676 ((cf NB694_676 ((cf NB694_676 ((cf NB694_676 (hHeld.2.2.2.2.2.1)))))))))))))))))))))))), (cf NB694_676 ((cf NB694_676 ((cf NB694_676 ((cf NB694_676 ((cf NB694_676 ((cf NB694_676 ((cf NB694_676 ((cf NB694_676 ((cf NB694_676 ((cf NB694_676 ((cf NB694_676 ((cf NB694_676 (hHeld.2.2.2.2.2.2.1)))))))))))))))))))))))), (cf NB694_676 ((cf NB694_676 ((cf NB694_676 ((cf NB694_676 ((cf NB694_676 ((cf NB694_676 ((cf NB694_676 ((cf NB694_676 ((cf NB694_676 ((cf NB694_676 ((cf NB694_676 ((cf NB694_676 (hHeld.2.2.2.2.2.2.2.1)))))))))))))))))))))))), (cf NB694_676 ((cf NB694_676 ((cf NB694_676 ((cf NB694_676 ((cf NB694_676 ((cf NB694_676 ((cf NB694_676 ((cf NB694_676 ((cf NB694_676 ((cf NB694_676 ((cf NB694_676 ((cf NB694_676 (hHeld.2.2.2.2.2.2.2.2.1)))))))))))))))))))))))), (cf NB694_676 ((cf NB694_676 ((cf NB694_676 ((cf NB694_676 ((cf NB694_676 ((cf NB694_676 ((cf NB694_676 ((cf NB694_676 ((cf NB694_676 ((cf NB694_676 ((cf NB694_676 ((cf NB694_676 (hHeld.2.2.2.2.2.2.2.2.2.1)))))))))))))))))))))))), (cf NB694_676 ((cf NB694_676 ((cf NB694_676 ((cf NB694_676 ((cf NB694_676 ((cf NB694_676 ((cf NB694_676 ((cf NB694_676 ((cf NB694_676 ((cf NB694_676 ((cf NB694_676 ((cf NB694_676 (hHeld.2.2.2.2.2.2.2.2.2.2.1)))))))))))))))))))))))), (cf NB694_676 ((cf NB694_676 ((cf NB694_676 ((cf NB694_676 ((cf NB694_676 ((cf NB694_676 ((cf NB694_676 ((cf NB694_676 ((cf NB694_676 ((cf NB694_676 ((cf NB694_676 ((cf NB694_676 (hHeld.2.2.2.2.2.2.2.2.2.2.2.1)))))))))))))))))))))))), (cf NB698_676 ((cf NB698_676 ((cf NB698_676 ((cf NB698_676 ((cf NB698_676 ((cf NB698_676 ((cf NB698_676 ((cf NB698_676 ((cf NB698_676 ((cf NB698_676 ((cf NB698_676 ((cf NB698_676 (hHeld.2.2.2.2.2.2.2.2.2.2.2.2.1)))))))))))))))))))))))), (cf NB698_676 ((cf NB698_676 ((cf NB698_676 ((cf NB698_676 ((cf NB698_676 ((cf NB698_676 ((cf NB698_676 ((cf NB698_676 ((cf NB698_676 ((cf NB698_676 ((cf NB698_676 ((cf NB698_676 (hHeld.2.2.2.2.2.2.2.2.2.2.2.2.2))))))))))))))))))))))))⟩ (fun hHeld => ?_)
  clear hK K
  refine one_ (i := 3) (N := none) #[true, true, true, true] rfl rfl (by kernel_rfl) (by decide) (fun K hK => ?_)
  have hs116 : w103.cell? ⟨gb677, 0, none⟩ = some (.int .i64 0) := bc BK677 0
  have hfs116 := blk_frozen BK677.out 0
  have hns116_0 := NB676_677.out
  have hns116_2 := NB694_677.out
  have hns116_3 := NB698_677.out
  have hms116_0 := NB677_676.out
  have hms116_2 := NB677_694.out
  have hms116_3 := NB677_698.out
  have hs117 : w103.cell? ⟨gb677, 1, none⟩ = some (.int .i64 0) := bc BK677 1
  have hfs117 := blk_frozen BK677.out 1
  have hns117_0 := NB676_677.out
  have hns117_2 := NB694_677.out
  have hns117_3 := NB698_677.out
  have hms117_0 := NB677_676.out
  have hms117_2 := NB677_694.out
  have hms117_3 := NB677_698.out
  refine skip_ (w1 := ?_) ?hw ?hn ?_ ?_; (case hw => unfold Region.wanted; rfl); (case hn => rfl)
  rotate_left
  · go_simp
    rfl
  refine hK.out _ _ ⟨(cf NB694_677 ((cf NB694_677 (hHeld.1)))), (cf NB694_677 ((cf NB694_677 (hHeld.2.1)))), (cf NB694_677 ((cf NB694_677 (hHeld.2.2.1)))), (cf NB694_677 ((cf NB694_677 (hHeld.2.2.2.1)))), (cf NB694_677 ((cf NB694_677 (hHeld.2.2.2.2.1)))), (cf NB694_677 ((cf NB694_677 (hHeld.2.2.2.2.2.1)))), (cf NB694_677 ((cf NB694_677 (hHeld.2.2.2.2.2.2.1)))), (cf NB694_677 ((cf NB694_677 (hHeld.2.2.2.2.2.2.2.1)))), (cf NB694_677 ((cf NB694_677 (hHeld.2.2.2.2.2.2.2.2.1)))), (cf NB694_677 ((cf NB694_677 (hHeld.2.2.2.2.2.2.2.2.2.1)))), (cf NB694_677 ((cf NB694_677 (hHeld.2.2.2.2.2.2.2.2.2.2.1)))), (cf NB694_677 ((cf NB694_677 (hHeld.2.2.2.2.2.2.2.2.2.2.2.1)))), (cf NB698_677 ((cf NB698_677 (hHeld.2.2.2.2.2.2.2.2.2.2.2.2.1)))), (cf NB698_677 ((cf NB698_677 (hHeld.2.2.2.2.2.2.2.2.2.2.2.2.2))))⟩ (fun hHeld => ?_)
  clear hK K
  refine done_ (by kernel_rfl) ?_
  try go_wp2
  refine bodyPost_ret (results_cc rfl _ _ gb676 gb677 40 24 #[.int .i64 t681, .int .i64 t682, .int .i64 t683, .int .i64 t684, .int .i64 t685, .int .i64 t686, .int .i64 t687, .int .i64 t688, .int .i64 t689, .int .i64 t690, .int .i64 t691, .int .i64 t692] #[.int .i64 t695, .int .i64 t696] (0, 0) (0, 0) _ _ rfl (qP BK676) Try.underlying40 rfl (by kernel_rfl) rfl (qP BK677) Try.underlying24 rfl (by kernel_rfl)) rfl ?_
  exact ⟨qE, qL HB⟩
end Go.Proofs.Ytihajbjkjclmoaa.PBig
