/- What these functions compute, each walked once: spec_DrawTouch; for all arguments and worlds, under the conditions that each theorem names. -/
import Derived.Test.YtihajbjkjclmoaaSq
import Derived.Test.YtihajbjkjclmoaaPBigx901
import Derived.Test.YtihajbjkjclmoaaPBigx906
import Derived.Test.YtihajbjkjclmoaaPBigx916
namespace Go.Proofs.Ytihajbjkjclmoaa.PBig
open Go.RowKit Go.Proofs.YtihajbjkjclmoaaW.PrintWords Go.Proofs.YtihajbjkjclmoaaW.PrintLast Go.Proofs.YtihajbjkjclmoaaW.PrintMore
attribute [local go_sem] max2_int min2_int max_two min_two max_three min_three max_four min_four   -- for this text's walks alone
set_option linter.unusedVariables false
set_option linter.unusedSimpArgs false

/-! ### spec_DrawTouch: function 37 -/
def spec_DrawTouch.j0 : Nat → Int → Bool → List Int → Int → Int → Int → Int → Int → Int → Int → Int → Int → Int → Int → Option (Int × Int × Int × Int × Int × Int × Int × Int × Int × Int)
  | 0, _, _, _, _, _, _, _, _, _, _, _, _, _, _ => none
  | k + 1, x22, x23, x1150000, x1150001, x1155000, x1155001, x1155002, x1159000, x1159001, x1164000, x1164001, x1164002, x1168000, x1168001 => if x23 = true then ((spec_l1Rd_pick.f k x1150000 x1150001 256).bind fun bt1170 => ((spec_l1Rd_one.f k x1150000 bt1170.2 (([1, 4] : List Int))).bind fun bt1175 => ((spec_l1Rd_pick.f k x1150000 bt1175.2 256).bind fun bt1177 => ((spec_l1Rd_one.f k x1150000 bt1177.2 (([1, 4] : List Int))).bind fun bt1182 => (some (x1155000, x1155001, x1155002, x1159000, x1159001, x1164000, x1164001, x1164002, wrap64 ((wrap64 (x1159000 + (wrap64 (bt1170.1 * bt1175.1)))) - 256), wrap64 ((wrap64 (x1159001 + (wrap64 (bt1177.1 * bt1182.1)))) - 256))))))) else (if x22 = 2 then ((spec_l1Rd_pick.f k x1150000 x1150001 3).bind fun bt1184 => ((spec_l1Rd_pick.f k x1150000 bt1184.2 3).bind fun bt1186 => (some (x1155000, x1155001, x1155002, x1159000, x1159001, x1164000, x1164001, x1164002, wrap64 ((wrap64 ((wrap64 ((wrap64 (x1159000 + x1155001)) + x1164001)) + bt1184.1)) - 1), wrap64 ((wrap64 (x1159001 + bt1186.1)) - 1))))) else (some (x1155000, x1155001, x1155002, x1159000, x1159001, x1164000, x1164001, x1164002, x1168000, x1168001)))
def spec_DrawTouch.f (k : Nat) (l0 : List Int) : Option (Int × Int × Int × Int × Int × Int × Int × Int × Int × Int) := (spec_l1Open.f l0).bind fun bt1147 => ((spec_l11AnyShape.f k bt1147.1 bt1147.2).bind fun bt1150 => ((spec_l11AnyPlace.f k bt1147.1 bt1150.2.2.2).bind fun bt1155 => ((spec_l11AnyShape.f k bt1147.1 bt1155.2.2).bind fun bt1159 => ((spec_l11AnyPlace.f k bt1147.1 bt1159.2.2.2).bind fun bt1164 => ((spec_l1Rd_pick.f k bt1147.1 bt1164.2.2 4).bind fun bt1168 => (if bt1168.1 = 0 then (spec_DrawTouch.j0 k bt1168.1 (bt1168.1 == 0) bt1147.1 bt1168.2 bt1150.1 bt1150.2.1 bt1150.2.2.1 bt1155.1 bt1155.2.1 bt1159.1 bt1159.2.1 bt1159.2.2.1 bt1164.1 bt1164.2.1) else (spec_DrawTouch.j0 k bt1168.1 (bt1168.1 == 1) bt1147.1 bt1168.2 bt1150.1 bt1150.2.1 bt1150.2.2.1 bt1155.1 bt1155.2.1 bt1159.1 bt1159.2.1 bt1159.2.2.1 bt1164.1 bt1164.2.1)))))))
theorem spec_DrawTouch.mono_l : ∀ k, (∀ y0 y1 y2 y3 y4 y5 y6 y7 y8 y9 y10 y11 y12 y13, LeO (spec_DrawTouch.j0 k y0 y1 y2 y3 y4 y5 y6 y7 y8 y9 y10 y11 y12 y13) (spec_DrawTouch.j0 (k + 1) y0 y1 y2 y3 y4 y5 y6 y7 y8 y9 y10 y11 y12 y13))
  | 0 => fun _ _ _ _ _ _ _ _ _ _ _ _ _ _ r h => by simp [spec_DrawTouch.j0] at h
  | k + 1 => by
    have ih0 := spec_DrawTouch.mono_l k
    · intro y0 y1 y2 y3 y4 y5 y6 y7 y8 y9 y10 y11 y12 y13
      unfold spec_DrawTouch.j0
      repeat' first
      | (with_reducible exact ih0 _ _ _ _ _ _ _ _ _ _ _ _ _ _)
      | (with_reducible exact spec_l11AnyPlace.mono _ _ _)
      | (with_reducible exact spec_l11AnyShape.mono _ _ _)
      | (with_reducible exact spec_l1Rd_one.mono _ _ _ _)
      | (with_reducible exact spec_l1Rd_pick.mono _ _ _ _)
      | (with_reducible exact LeO.refl _)
      | (with_reducible exact LeO.none _)
      | (with_reducible refine LeO.ite ?_ ?_)
      | (with_reducible refine LeO.bind ?_ (fun _ => ?_))
theorem spec_DrawTouch.mono : ∀ a0 k, LeO (spec_DrawTouch.f k a0) (spec_DrawTouch.f (k + 1) a0) := by
  intro a0 k
  have ih0 := spec_DrawTouch.mono_l k
  unfold spec_DrawTouch.f
  repeat' first
      | (with_reducible exact ih0 _ _ _ _ _ _ _ _ _ _ _ _ _ _)
      | (with_reducible exact spec_l11AnyPlace.mono _ _ _)
      | (with_reducible exact spec_l11AnyShape.mono _ _ _)
      | (with_reducible exact spec_l1Rd_one.mono _ _ _ _)
      | (with_reducible exact spec_l1Rd_pick.mono _ _ _ _)
      | (with_reducible exact LeO.refl _)
      | (with_reducible exact LeO.none _)
      | (with_reducible refine LeO.ite ?_ ?_)
      | (with_reducible refine LeO.bind ?_ (fun _ => ?_))
def spec_DrawTouch.T9 : Bool × List (List Nat × List Nat) := (true, [([], []), ([0], [0]), ([], []), ([2], [2]), ([], []), ([], []), ([4, 5, 3], [4, 5]), ([3, 6], [3, 6]), ([1, 7], [1, 7]), ([8], [8]), ([], []), ([10], [10]), ([], []), ([12, 6], [12]), ([], []), ([], []), ([14, 15, 13], [14, 15]), ([13, 16], [13, 16]), ([11, 17], [11, 17]), ([18], [18]), ([9, 19], [9, 19]), ([20, 16, 0, 1, 2, 3, 4, 5, 6, 7, 8, 9, 10, 11, 12, 13, 14, 15, 16, 17, 18, 19, 20], [20])])
def spec_DrawTouch.B9 : List Nat := [0, 1, 0, 4, 0, 0, 60, 124, 255, 511, 0, 1024, 0, 4220, 0, 0, 61564, 127100, 261244, 523388, 1048575, 2097151]
theorem spec_DrawTouch.tab9 : rtab .any (opsOf Try.f37 9) = spec_DrawTouch.T9 := by kernel_rfl
theorem spec_DrawTouch.bits9 : waitsOk spec_DrawTouch.T9.2 spec_DrawTouch.B9 = true := by kernel_rfl
def spec_DrawTouch.T11 : Bool × List (List Nat × List Nat) := (true, [([], []), ([0], [0]), ([], []), ([2], [2]), ([1, 3], [1, 3]), ([], []), ([5], [5]), ([4, 6], [4, 6]), ([], []), ([8], [8]), ([7, 9], [7, 9]), ([10], [10]), ([], []), ([12], [12]), ([], []), ([14, 9], [14]), ([13, 15], [13, 15]), ([16], [16]), ([11, 17], [11, 17]), ([18, 15, 0, 1, 2, 3, 4, 5, 6, 7, 8, 9, 10, 11, 12, 13, 14, 15, 16, 17, 18], [18])])
def spec_DrawTouch.B11 : List Nat := [0, 1, 0, 4, 15, 0, 32, 127, 0, 256, 1023, 2047, 0, 4096, 0, 17152, 62208, 127744, 262143, 524287]
theorem spec_DrawTouch.tab11 : rtab .any (opsOf Try.f37 11) = spec_DrawTouch.T11 := by kernel_rfl
theorem spec_DrawTouch.bits11 : waitsOk spec_DrawTouch.T11.2 spec_DrawTouch.B11 = true := by kernel_rfl
def spec_DrawTouch.T12 : Bool × List (List Nat × List Nat) := (true, [([], []), ([], []), ([], []), ([], []), ([0, 0], [0]), ([1, 4, 0, 1, 4], [1]), ([2, 5, 0, 1, 2, 4, 5], [2]), ([3, 6, 0, 1, 2, 3, 4, 5, 6], [3])])
def spec_DrawTouch.B12 : List Nat := [0, 0, 0, 0, 1, 19, 55, 127]
theorem spec_DrawTouch.tab12 : rtab .any (opsOf Try.f37 12) = spec_DrawTouch.T12 := by kernel_rfl
theorem spec_DrawTouch.bits12 : waitsOk spec_DrawTouch.T12.2 spec_DrawTouch.B12 = true := by kernel_rfl
set_option maxHeartbeats 8000000 in
set_option maxRecDepth 100000 in
theorem spec_DrawTouch.calls (k : Nat) (A0 : Option Addr) (c0 : Nat) (l0 : List Int) (r1 : Int) (r2 : Int) (r3 : Int) (r4 : Int) (r5 : Int) (r6 : Int) (r7 : Int) (r8 : Int) (r9 : Int) (r10 : Int) (w : World) (hr0 : Kd.C (Kd.int .u8) w A0 l0.length l0) (hc0 : l0.length ≤ c0) (h : spec_DrawTouch.f k l0 = some (r1, r2, r3, r4, r5, r6, r7, r8, r9, r10)) :
    Calls Try.prog 37 #[.slice A0 l0.length c0] w fun e w' => e = .returned (.tuple #[.agg #[.int .i64 r1, .int .i64 r2, .int .i64 r3], .agg #[.int .i64 r4, .int .i64 r5], .agg #[.int .i64 r6, .int .i64 r7, .int .i64 r8], .agg #[.int .i64 r9, .int .i64 r10]]) ∧ Below w.heap.size w w' := by
  have hu38 := Try.underlying38
  have hu24 := Try.underlying24
  have HR0 := az hr0
  have HC0 := az hc0
  clear hr0 hc0
  have HB := az (Below.refl w.heap.size w)
  have H : ((spec_l1Open.f l0).bind fun bt1147 => ((spec_l11AnyShape.f k bt1147.1 bt1147.2).bind fun bt1150 => ((spec_l11AnyPlace.f k bt1147.1 bt1150.2.2.2).bind fun bt1155 => ((spec_l11AnyShape.f k bt1147.1 bt1155.2.2).bind fun bt1159 => ((spec_l11AnyPlace.f k bt1147.1 bt1159.2.2.2).bind fun bt1164 => ((spec_l1Rd_pick.f k bt1147.1 bt1164.2.2 4).bind fun bt1168 => (if bt1168.1 = 0 then (spec_DrawTouch.j0 k bt1168.1 (bt1168.1 == 0) bt1147.1 bt1168.2 bt1150.1 bt1150.2.1 bt1150.2.2.1 bt1155.1 bt1155.2.1 bt1159.1 bt1159.2.1 bt1159.2.2.1 bt1164.1 bt1164.2.1) else (spec_DrawTouch.j0 k bt1168.1 (bt1168.1 == 1) bt1147.1 bt1168.2 bt1150.1 bt1150.2.1 bt1150.2.2.1 bt1155.1 bt1155.2.1 bt1159.1 bt1159.2.1 bt1159.2.2.1 bt1164.1 bt1164.2.1)))))))) = some (r1, r2, r3, r4, r5, r6, r7, r8, r9, r10) := h
  clear h
  replace H := qH H
  obtain ⟨⟨t1147, t1148⟩, A2, H⟩ := H
  try dsimp only at H
  replace H := qH H
  obtain ⟨⟨t1150, t1151, t1152, t1153⟩, A3, H⟩ := H
  try dsimp only at H
  replace H := qH H
  obtain ⟨⟨t1155, t1156, t1157⟩, A4, H⟩ := H
  try dsimp only at H
  replace H := qH H
  obtain ⟨⟨t1159, t1160, t1161, t1162⟩, A5, H⟩ := H
  try dsimp only at H
  replace H := qH H
  obtain ⟨⟨t1164, t1165, t1166⟩, A6, H⟩ := H
  try dsimp only at H
  replace H := qH H
  obtain ⟨⟨t1168, t1169⟩, A7, H⟩ := H
  try dsimp only at H
  have HC8 := az H
  clear H
  go_enter Try.func37, Try.ntmps37
  go_upto_if 23 with (first | ((with_reducible refine gate_dst (N := 2) rfl ?_); refine bx (N := 2) (cs := #[.int .i64 0, .int .i64 0, .int .i64 0]) (t := 38) ?_; intro gb1143 hg w9 hbox hb; have BK1143 := az hbox; have GW1143 := az ((gE hg (qL HB) : w.heap.size ≤ gb1143)); have GE1143 := GW1143; replace HB := bS HB hb; clear hb hbox hg) | ((with_reducible refine gate_dst (N := 3) rfl ?_); refine bx (N := 3) (cs := #[.int .i64 0, .int .i64 0]) (t := 24) ?_; intro gb1144 hg w10 hbox hb; have BK1144 := az hbox; have GW1144 := az ((gE hg (qL HB) : w.heap.size ≤ gb1144)); have GE1144 := GW1144; obtain ⟨NB1143_1144, NB1144_1143⟩ := nPB BK1143 hg; replace BK1143 := kBB BK1143 hb; replace HB := bS HB hb; clear hb hbox hg) | ((with_reducible refine gate_dst (N := 4) rfl ?_); refine bx (N := 4) (cs := #[.int .i64 0, .int .i64 0, .int .i64 0]) (t := 38) ?_; intro gb1145 hg w11 hbox hb; have BK1145 := az hbox; have GW1145 := az ((gE hg (qL HB) : w.heap.size ≤ gb1145)); have GE1145 := GW1145; obtain ⟨NB1143_1145, NB1145_1143⟩ := nPB BK1143 hg; obtain ⟨NB1144_1145, NB1145_1144⟩ := nPB BK1144 hg; replace BK1143 := kBB BK1143 hb; replace BK1144 := kBB BK1144 hb; replace HB := bS HB hb; clear hb hbox hg) | ((with_reducible refine gate_dst (N := 5) rfl ?_); refine bx (N := 5) (cs := #[.int .i64 0, .int .i64 0]) (t := 24) ?_; intro gb1146 hg w12 hbox hb; have BK1146 := az hbox; have GW1146 := az ((gE hg (qL HB) : w.heap.size ≤ gb1146)); have GE1146 := GW1146; obtain ⟨NB1143_1146, NB1146_1143⟩ := nPB BK1143 hg; obtain ⟨NB1144_1146, NB1146_1144⟩ := nPB BK1144 hg; obtain ⟨NB1145_1146, NB1146_1145⟩ := nPB BK1145 hg; replace BK1143 := kBB BK1143 hb; replace BK1144 := kBB BK1144 hb; replace BK1145 := kBB BK1145 hb; replace HB := bS HB hb; clear hb hbox hg) | ((with_reducible refine gate_callee (f := 59) rfl ?_); refine gl (some 12) Try.func59 #[.slice A0 l0.length c0] ?_; (with_reducible refine (spec_l1Open.calls _ _ l0 t1147 t1148 w _ ?side1 ?side2 ?side3 A2.out).mono ?_); (case side1 => exact qL HB); (case side2 => exact HR0.out); (case side3 => exact HC0.out); rintro e w13 ⟨g1149, rfl, hi, hb, hb2⟩; refine ⟨_, rfl, ?_⟩; have HI1149 := az hi; have NB1149_1143 := az (IsS95.ne_blk hi (blk_below (g := gb1143) (o := .cells #[.int .i64 0, .int .i64 0, .int .i64 0] 38 (0, 0)) (qB BK1143) hb2) (by decide)); have NB1143_1149 := az (Ne.symm (IsS95.ne_blk hi (blk_below (g := gb1143) (o := .cells #[.int .i64 0, .int .i64 0, .int .i64 0] 38 (0, 0)) (qB BK1143) hb2) (by decide))); have NB1149_1144 := az (IsS95.ne_blk hi (blk_below (g := gb1144) (o := .cells #[.int .i64 0, .int .i64 0] 24 (0, 0)) (qB BK1144) hb2) (by decide)); have NB1144_1149 := az (Ne.symm (IsS95.ne_blk hi (blk_below (g := gb1144) (o := .cells #[.int .i64 0, .int .i64 0] 24 (0, 0)) (qB BK1144) hb2) (by decide))); have NB1149_1145 := az (IsS95.ne_blk hi (blk_below (g := gb1145) (o := .cells #[.int .i64 0, .int .i64 0, .int .i64 0] 38 (0, 0)) (qB BK1145) hb2) (by decide)); have NB1145_1149 := az (Ne.symm (IsS95.ne_blk hi (blk_below (g := gb1145) (o := .cells #[.int .i64 0, .int .i64 0, .int .i64 0] 38 (0, 0)) (qB BK1145) hb2) (by decide))); have NB1149_1146 := az (IsS95.ne_blk hi (blk_below (g := gb1146) (o := .cells #[.int .i64 0, .int .i64 0] 24 (0, 0)) (qB BK1146) hb2) (by decide)); have NB1146_1149 := az (Ne.symm (IsS95.ne_blk hi (blk_below (g := gb1146) (o := .cells #[.int .i64 0, .int .i64 0] 24 (0, 0)) (qB BK1146) hb2) (by decide))); replace BK1143 := az (blk_below (g := gb1143) (o := .cells #[.int .i64 0, .int .i64 0, .int .i64 0] 38 (0, 0)) (qB BK1143) hb2); replace BK1144 := az (blk_below (g := gb1144) (o := .cells #[.int .i64 0, .int .i64 0] 24 (0, 0)) (qB BK1144) hb2); replace BK1145 := az (blk_below (g := gb1145) (o := .cells #[.int .i64 0, .int .i64 0, .int .i64 0] 38 (0, 0)) (qB BK1145) hb2); replace BK1146 := az (blk_below (g := gb1146) (o := .cells #[.int .i64 0, .int .i64 0] 24 (0, 0)) (qB BK1146) hb2); replace HB := az hb; clear hb2 hb hi) | ((with_reducible refine gate_callee (f := 79) rfl ?_); refine gl (some 14) Try.func79 #[.pointer (some ⟨g1149, 0, none⟩)] ?_; (with_reducible refine (spec_l11AnyShape.calls k g1149 t1147 t1148 t1150 t1151 t1152 t1153 w _ ?side1 ?side2 A3.out).mono ?_); (case side1 => exact qI HI1149); (case side2 => exact qL HB); rintro e w14 ⟨rfl, hi, hb, hk⟩; refine ⟨_, rfl, ?_⟩; replace BK1143 := kKB BK1143 hk NB1143_1149; replace BK1144 := kKB BK1144 hk NB1144_1149; replace BK1145 := kKB BK1145 hk NB1145_1149; replace BK1146 := kKB BK1146 hk NB1146_1149; replace HB := az hb; replace HI1149 := az hi; clear hb hk hi) | ((with_reducible refine gate_dst (N := 7) rfl ?_); refine bx (N := 7) (cs := #[.int .i64 0, .int .i64 0, .int .i64 0]) (t := 38) ?_; intro gb1154 hg w15 hbox hb; have BK1154 := az hbox; have GW1154 := az ((gE hg (qL HB) : w.heap.size ≤ gb1154)); have GE1154 := GW1154; obtain ⟨NB1143_1154, NB1154_1143⟩ := nPB BK1143 hg; obtain ⟨NB1144_1154, NB1154_1144⟩ := nPB BK1144 hg; obtain ⟨NB1145_1154, NB1154_1145⟩ := nPB BK1145 hg; obtain ⟨NB1146_1154, NB1154_1146⟩ := nPB BK1146 hg; have NB1149_1154 := az ((by rw [hg]; exact Nat.ne_of_lt (IsS95.lt (show IsS95 w _ g1149 t1147 t1153 from qI HI1149)) : g1149 ≠ gb1154)); have NB1154_1149 := az ((by rw [hg]; exact Nat.ne_of_gt (IsS95.lt (show IsS95 w _ g1149 t1147 t1153 from qI HI1149)) : gb1154 ≠ g1149)); replace BK1143 := kBB BK1143 hb; replace BK1144 := kBB BK1144 hb; replace BK1145 := kBB BK1145 hb; replace BK1146 := kBB BK1146 hb; replace HI1149 := az (IsS95.below (qI HI1149) hb); replace HB := bS HB hb; clear hb hbox hg; have hnb16 := NB1154_1143.out; have hnc16 := NB1143_1154.out; have hnb17 := NB1154_1144.out; have hnc17 := NB1144_1154.out; have hnb18 := NB1154_1145.out; have hnc18 := NB1145_1154.out; have hnb19 := NB1154_1146.out; have hnc19 := NB1146_1154.out; have hnb20 := NB1154_1149.out; have hnc20 := NB1149_1154.out; obtain ⟨hcz21_0, hcz21_1, hcz21_2⟩ := cz3 BK1154.out; obtain ⟨hfz21_0, hfz21_1, hfz21_2⟩ := fz3 BK1154.out) | ((with_reducible refine gate_callee (f := 80) rfl ?_); refine gl (some 16) Try.func80 #[.pointer (some ⟨g1149, 0, none⟩)] ?_; (with_reducible refine (spec_l11AnyPlace.calls k g1149 t1147 t1153 t1155 t1156 t1157 w _ ?side1 ?side2 A4.out).mono ?_); (case side1 => exact qI HI1149); (case side2 => exact qL HB); rintro e w22 ⟨rfl, hi, hb, hk⟩; refine ⟨_, rfl, ?_⟩; replace BK1143 := kKF BK1143 hk NB1143_1149; replace BK1144 := kKF BK1144 hk NB1144_1149; replace BK1145 := kKF BK1145 hk NB1145_1149; replace BK1146 := kKF BK1146 hk NB1146_1149; replace BK1154 := kKP (o' := .cells #[.int .i64 t1150, .int .i64 t1151, .int .i64 t1152] 38 (0, 0)) BK1154 hk NB1154_1149; replace HB := az hb; replace HI1149 := az hi; clear hb hk hi) | ((with_reducible refine gate_dst (N := 8) rfl ?_); refine bx (N := 8) (cs := #[.int .i64 0, .int .i64 0]) (t := 24) ?_; intro gb1158 hg w23 hbox hb; have BK1158 := az hbox; have GW1158 := az ((gE hg (qL HB) : w.heap.size ≤ gb1158)); have GE1158 := GW1158; obtain ⟨NB1143_1158, NB1158_1143⟩ := nPB BK1143 hg; obtain ⟨NB1144_1158, NB1158_1144⟩ := nPB BK1144 hg; obtain ⟨NB1145_1158, NB1158_1145⟩ := nPB BK1145 hg; obtain ⟨NB1146_1158, NB1158_1146⟩ := nPB BK1146 hg; obtain ⟨NB1154_1158, NB1158_1154⟩ := nPB BK1154 hg; have NB1149_1158 := az ((by rw [hg]; exact Nat.ne_of_lt (IsS95.lt (show IsS95 w _ g1149 t1147 t1157 from qI HI1149)) : g1149 ≠ gb1158)); have NB1158_1149 := az ((by rw [hg]; exact Nat.ne_of_gt (IsS95.lt (show IsS95 w _ g1149 t1147 t1157 from qI HI1149)) : gb1158 ≠ g1149)); replace BK1143 := kBB BK1143 hb; replace BK1144 := kBB BK1144 hb; replace BK1145 := kBB BK1145 hb; replace BK1146 := kBB BK1146 hb; replace HI1149 := az (IsS95.below (qI HI1149) hb); replace BK1154 := kBB BK1154 hb; replace HB := bS HB hb; clear hb hbox hg; have hnb24 := NB1158_1143.out; have hnc24 := NB1143_1158.out; have hnb25 := NB1158_1144.out; have hnc25 := NB1144_1158.out; have hnb26 := NB1158_1145.out; have hnc26 := NB1145_1158.out; have hnb27 := NB1158_1146.out; have hnc27 := NB1146_1158.out; have hnb28 := NB1158_1154.out; have hnc28 := NB1154_1158.out; have hnb29 := NB1158_1149.out; have hnc29 := NB1149_1158.out; obtain ⟨hcz30_0, hcz30_1⟩ := cz2 BK1158.out; have hfz30_0 := blk_frozen BK1158.out 0; have hfz30_1 := blk_frozen BK1158.out 1) | ((with_reducible refine gate_callee (f := 79) rfl ?_); refine gl (some 18) Try.func79 #[.pointer (some ⟨g1149, 0, none⟩)] ?_; (with_reducible refine (spec_l11AnyShape.calls k g1149 t1147 t1157 t1159 t1160 t1161 t1162 w _ ?side1 ?side2 A5.out).mono ?_); (case side1 => exact qI HI1149); (case side2 => exact qL HB); rintro e w31 ⟨rfl, hi, hb, hk⟩; refine ⟨_, rfl, ?_⟩; replace BK1143 := kKF BK1143 hk NB1143_1149; replace BK1144 := kKF BK1144 hk NB1144_1149; replace BK1145 := kKF BK1145 hk NB1145_1149; replace BK1146 := kKF BK1146 hk NB1146_1149; replace BK1154 := kKF BK1154 hk NB1154_1149; replace BK1158 := kKP (o' := .cells #[.int .i64 t1155, .int .i64 t1156] 24 (0, 0)) BK1158 hk NB1158_1149; replace HB := az hb; replace HI1149 := az hi; clear hb hk hi) | ((with_reducible refine gate_dst (N := 9) rfl ?_); refine bx (N := 9) (cs := #[.int .i64 0, .int .i64 0, .int .i64 0]) (t := 38) ?_; intro gb1163 hg w32 hbox hb; have BK1163 := az hbox; have GW1163 := az ((gE hg (qL HB) : w.heap.size ≤ gb1163)); have GE1163 := GW1163; obtain ⟨NB1143_1163, NB1163_1143⟩ := nPB BK1143 hg; obtain ⟨NB1144_1163, NB1163_1144⟩ := nPB BK1144 hg; obtain ⟨NB1145_1163, NB1163_1145⟩ := nPB BK1145 hg; obtain ⟨NB1146_1163, NB1163_1146⟩ := nPB BK1146 hg; obtain ⟨NB1154_1163, NB1163_1154⟩ := nPB BK1154 hg; obtain ⟨NB1158_1163, NB1163_1158⟩ := nPB BK1158 hg; have NB1149_1163 := az ((by rw [hg]; exact Nat.ne_of_lt (IsS95.lt (show IsS95 w _ g1149 t1147 t1162 from qI HI1149)) : g1149 ≠ gb1163)); have NB1163_1149 := az ((by rw [hg]; exact Nat.ne_of_gt (IsS95.lt (show IsS95 w _ g1149 t1147 t1162 from qI HI1149)) : gb1163 ≠ g1149)); replace BK1143 := kBB BK1143 hb; replace BK1144 := kBB BK1144 hb; replace BK1145 := kBB BK1145 hb; replace BK1146 := kBB BK1146 hb; replace HI1149 := az (IsS95.below (qI HI1149) hb); replace BK1154 := kBB BK1154 hb; replace BK1158 := kBB BK1158 hb; replace HB := bS HB hb; clear hb hbox hg; have hnb33 := NB1163_1143.out; have hnc33 := NB1143_1163.out; have hnb34 := NB1163_1144.out; have hnc34 := NB1144_1163.out; have hnb35 := NB1163_1145.out; have hnc35 := NB1145_1163.out; have hnb36 := NB1163_1146.out; have hnc36 := NB1146_1163.out; have hnb37 := NB1163_1154.out; have hnc37 := NB1154_1163.out; have hnb38 := NB1163_1158.out; have hnc38 := NB1158_1163.out; have hnb39 := NB1163_1149.out; have hnc39 := NB1149_1163.out; obtain ⟨hcz40_0, hcz40_1, hcz40_2⟩ := cz3 BK1163.out; obtain ⟨hfz40_0, hfz40_1, hfz40_2⟩ := fz3 BK1163.out) | ((with_reducible refine gate_callee (f := 80) rfl ?_); refine gl (some 20) Try.func80 #[.pointer (some ⟨g1149, 0, none⟩)] ?_; (with_reducible refine (spec_l11AnyPlace.calls k g1149 t1147 t1162 t1164 t1165 t1166 w _ ?side1 ?side2 A6.out).mono ?_); (case side1 => exact qI HI1149); (case side2 => exact qL HB); rintro e w41 ⟨rfl, hi, hb, hk⟩; refine ⟨_, rfl, ?_⟩; replace BK1143 := kKF BK1143 hk NB1143_1149; replace BK1144 := kKF BK1144 hk NB1144_1149; replace BK1145 := kKF BK1145 hk NB1145_1149; replace BK1146 := kKF BK1146 hk NB1146_1149; replace BK1154 := kKF BK1154 hk NB1154_1149; replace BK1158 := kKF BK1158 hk NB1158_1149; replace BK1163 := kKP (o' := .cells #[.int .i64 t1159, .int .i64 t1160, .int .i64 t1161] 38 (0, 0)) BK1163 hk NB1163_1149; replace HB := az hb; replace HI1149 := az hi; clear hb hk hi) | ((with_reducible refine gate_dst (N := 10) rfl ?_); refine bx (N := 10) (cs := #[.int .i64 0, .int .i64 0]) (t := 24) ?_; intro gb1167 hg w42 hbox hb; have BK1167 := az hbox; have GW1167 := az ((gE hg (qL HB) : w.heap.size ≤ gb1167)); have GE1167 := GW1167; obtain ⟨NB1143_1167, NB1167_1143⟩ := nPB BK1143 hg; obtain ⟨NB1144_1167, NB1167_1144⟩ := nPB BK1144 hg; obtain ⟨NB1145_1167, NB1167_1145⟩ := nPB BK1145 hg; obtain ⟨NB1146_1167, NB1167_1146⟩ := nPB BK1146 hg; obtain ⟨NB1154_1167, NB1167_1154⟩ := nPB BK1154 hg; obtain ⟨NB1158_1167, NB1167_1158⟩ := nPB BK1158 hg; obtain ⟨NB1163_1167, NB1167_1163⟩ := nPB BK1163 hg; have NB1149_1167 := az ((by rw [hg]; exact Nat.ne_of_lt (IsS95.lt (show IsS95 w _ g1149 t1147 t1166 from qI HI1149)) : g1149 ≠ gb1167)); have NB1167_1149 := az ((by rw [hg]; exact Nat.ne_of_gt (IsS95.lt (show IsS95 w _ g1149 t1147 t1166 from qI HI1149)) : gb1167 ≠ g1149)); replace BK1143 := kBB BK1143 hb; replace BK1144 := kBB BK1144 hb; replace BK1145 := kBB BK1145 hb; replace BK1146 := kBB BK1146 hb; replace HI1149 := az (IsS95.below (qI HI1149) hb); replace BK1154 := kBB BK1154 hb; replace BK1158 := kBB BK1158 hb; replace BK1163 := kBB BK1163 hb; replace HB := bS HB hb; clear hb hbox hg; have hnb43 := NB1167_1143.out; have hnc43 := NB1143_1167.out; have hnb44 := NB1167_1144.out; have hnc44 := NB1144_1167.out; have hnb45 := NB1167_1145.out; have hnc45 := NB1145_1167.out; have hnb46 := NB1167_1146.out; have hnc46 := NB1146_1167.out; have hnb47 := NB1167_1154.out; have hnc47 := NB1154_1167.out; have hnb48 := NB1167_1158.out; have hnc48 := NB1158_1167.out; have hnb49 := NB1167_1163.out; have hnc49 := NB1163_1167.out; have hnb50 := NB1167_1149.out; have hnc50 := NB1149_1167.out; obtain ⟨hcz51_0, hcz51_1⟩ := cz2 BK1167.out; have hfz51_0 := blk_frozen BK1167.out 0; have hfz51_1 := blk_frozen BK1167.out 1) | ((with_reducible refine gate_callee (f := 62) rfl ?_); refine gl (some 22) Try.func62 #[.pointer (some ⟨g1149, 0, none⟩), .int .i64 4] ?_; (with_reducible refine (spec_l1Rd_pick.calls k g1149 t1147 t1166 4 t1168 t1169 w _ ?side1 ?side2 A7.out).mono ?_); (case side1 => exact qI HI1149); (case side2 => exact qL HB); rintro e w52 ⟨rfl, hi, hb, hk⟩; refine ⟨_, rfl, ?_⟩; replace BK1143 := kKF BK1143 hk NB1143_1149; replace BK1144 := kKF BK1144 hk NB1144_1149; replace BK1145 := kKF BK1145 hk NB1145_1149; replace BK1146 := kKF BK1146 hk NB1146_1149; replace BK1154 := kKF BK1154 hk NB1154_1149; replace BK1158 := kKF BK1158 hk NB1158_1149; replace BK1163 := kKF BK1163 hk NB1163_1149; replace BK1167 := kKP (o' := .cells #[.int .i64 t1164, .int .i64 t1165] 24 (0, 0)) BK1167 hk NB1167_1149; replace HB := az hb; replace HI1149 := az hi; clear hb hk hi))
  (try simp only [Act.put, List.setIfInBounds_toArray, List.set_cons_zero, List.set_cons_succ])
  go_cut [23] (fun v23 wc => ∃ (kq : Nat) (x23_7 : Bool), v23 = .bool x23_7 ∧ Aside0 (spec_DrawTouch.j0 kq t1168 x23_7 t1147 t1169 t1150 t1151 t1152 t1155 t1156 t1159 t1160 t1161 t1164 t1165 = some (r1, r2, r3, r4, r5, r6, r7, r8, r9, r10)) ∧ Aside0 (kq ≤ k) ∧ Aside0 (wc.heap[gb1143]? = some (.cells #[.int .i64 0, .int .i64 0, .int .i64 0] 38 (0, 0))) ∧ Aside0 (wc.heap[gb1144]? = some (.cells #[.int .i64 0, .int .i64 0] 24 (0, 0))) ∧ Aside0 (wc.heap[gb1145]? = some (.cells #[.int .i64 0, .int .i64 0, .int .i64 0] 38 (0, 0))) ∧ Aside0 (wc.heap[gb1146]? = some (.cells #[.int .i64 0, .int .i64 0] 24 (0, 0))) ∧ Aside0 (wc.heap[gb1154]? = some (.cells #[.int .i64 t1150, .int .i64 t1151, .int .i64 t1152] 38 (0, 0))) ∧ Aside0 (wc.heap[gb1158]? = some (.cells #[.int .i64 t1155, .int .i64 t1156] 24 (0, 0))) ∧ Aside0 (wc.heap[gb1163]? = some (.cells #[.int .i64 t1159, .int .i64 t1160, .int .i64 t1161] 38 (0, 0))) ∧ Aside0 (wc.heap[gb1167]? = some (.cells #[.int .i64 t1164, .int .i64 t1165] 24 (0, 0))) ∧ Aside0 (IsS95 w wc g1149 t1147 t1169) ∧ Aside0 (Below w.heap.size w wc))
  case first =>
    have H := HC8.out
    clear HC8
    by_cases c53 : t1168 = 0
    · rw [if_pos c53] at H
      have c53b0 : (t1168 == 0) = true := beq_iff_eq.mpr c53
      have c53b1 : (t1168 != 0) = false := bne_eq_false_iff_eq.mpr c53
      clear c53
      (first | rw [c53b0] | (simp only [i64_w, i32_w]; rw [c53b0]) | skip)
      have H' := az H
      clear H
      go_wp2
      go_meet
      case rel => exact ⟨_, ((t1168 == 0)), (by first | rfl | (simp; done) | (simp [*]; done)), H', ⟨by first | omega | exact Nat.le_refl _⟩, ⟨qF BK1143⟩, ⟨qF BK1144⟩, ⟨qF BK1145⟩, ⟨qF BK1146⟩, ⟨qF BK1154⟩, ⟨qF BK1158⟩, ⟨qF BK1163⟩, ⟨qF BK1167⟩, ⟨qI HI1149⟩, ⟨qL HB⟩⟩
    rw [if_neg c53] at H
    have c53b0 : (t1168 == 0) = false := beq_eq_false_iff_ne.mpr c53
    have c53b1 : (t1168 != 0) = true := bne_iff_ne.mpr c53
    (first | rw [c53b0] | (simp only [i64_w, i32_w]; rw [c53b0]) | skip)
    have H' := az H
    clear H
    go_wp2
    go_meet
    case rel => exact ⟨_, ((t1168 == 1)), (by first | rfl | (simp; done) | (simp [*]; done)), H', ⟨by first | omega | exact Nat.le_refl _⟩, ⟨qF BK1143⟩, ⟨qF BK1144⟩, ⟨qF BK1145⟩, ⟨qF BK1146⟩, ⟨qF BK1154⟩, ⟨qF BK1158⟩, ⟨qF BK1163⟩, ⟨qF BK1167⟩, ⟨qI HI1149⟩, ⟨qL HB⟩⟩
  case rest =>
    clear HC8
    (try clear hcz21_0); (try clear hcz21_1); (try clear hcz21_2); (try clear hcz30_0); (try clear hcz30_1); (try clear hcz40_0); (try clear hcz40_1); (try clear hcz40_2); (try clear hcz51_0); (try clear hcz51_1); (try clear hfz21_0); (try clear hfz21_1); (try clear hfz21_2); (try clear hfz30_0); (try clear hfz30_1); (try clear hfz40_0); (try clear hfz40_1); (try clear hfz40_2); (try clear hfz51_0); (try clear hfz51_1)
    obtain ⟨kq, x23_7, rfl, HA, HJ7, BK1143, BK1144, BK1145, BK1146, BK1154, BK1158, BK1163, BK1167, HI1149, HB⟩ := hcut
    cases kq with
    | zero => exact absurd HA.out (by simp [spec_DrawTouch.j0])
    | succ kj7 => ?_
    have H := HA.out
    clear HA
    simp only [spec_DrawTouch.j0] at H
    by_cases c54 : x23_7 = true
    · subst c54
      replace H := qT H
      replace H := qH H
      obtain ⟨⟨t1170, t1171⟩, A55, H⟩ := H
      try dsimp only at H
      obtain ⟨y1172, hy1172⟩ : ∃ y_ : List Int, y_ = (([1, 4] : List Int)) := ⟨_, rfl⟩
      replace H : ((spec_l1Rd_one.f kj7 t1147 t1171 y1172).bind fun bt1175 => ((spec_l1Rd_pick.f kj7 t1147 bt1175.2 256).bind fun bt1177 => ((spec_l1Rd_one.f kj7 t1147 bt1177.2 (([1, 4] : List Int))).bind fun bt1182 => (some (t1150, t1151, t1152, t1155, t1156, t1159, t1160, t1161, wrap64 ((wrap64 (t1155 + (wrap64 (t1170 * bt1175.1)))) - 256), wrap64 ((wrap64 (t1156 + (wrap64 (bt1177.1 * bt1182.1)))) - 256)))))) = some (r1, r2, r3, r4, r5, r6, r7, r8, r9, r10) := by first | (rw [hy1172]; with_reducible exact H) | (have H2_ := (Option.bind_some _ _).symm.trans H; rw [hy1172]; with_reducible exact H2_) | (have H2_ := (Option.bind_some _ _).symm.trans H; with_reducible exact H2_) | with_reducible exact H | (rw [hy1172]; exact H) | exact H
      have Ny1172 := az hy1172
      clear hy1172
      replace H := qH H
      obtain ⟨⟨t1175, t1176⟩, A56, H⟩ := H
      try dsimp only at H
      replace H := qH H
      obtain ⟨⟨t1177, t1178⟩, A57, H⟩ := H
      try dsimp only at H
      obtain ⟨y1179, hy1179⟩ : ∃ y_ : List Int, y_ = (([1, 4] : List Int)) := ⟨_, rfl⟩
      replace H : ((spec_l1Rd_one.f kj7 t1147 t1178 y1179).bind fun bt1182 => (some (t1150, t1151, t1152, t1155, t1156, t1159, t1160, t1161, wrap64 ((wrap64 (t1155 + (wrap64 (t1170 * t1175)))) - 256), wrap64 ((wrap64 (t1156 + (wrap64 (t1177 * bt1182.1)))) - 256)))) = some (r1, r2, r3, r4, r5, r6, r7, r8, r9, r10) := by first | (rw [hy1179]; with_reducible exact H) | (have H2_ := (Option.bind_some _ _).symm.trans H; rw [hy1179]; with_reducible exact H2_) | (have H2_ := (Option.bind_some _ _).symm.trans H; with_reducible exact H2_) | with_reducible exact H | (rw [hy1179]; exact H) | exact H
      have Ny1179 := az hy1179
      clear hy1179
      replace H := qH H
      obtain ⟨⟨t1182, t1183⟩, A58, H⟩ := H
      try dsimp only at H
      simp only [Option.some.injEq, Prod.mk.injEq] at H
      obtain ⟨rfl, rfl, rfl, rfl, rfl, rfl, rfl, rfl, rfl, rfl⟩ := H
      try go_wp2
      replace BK1143 := az (blk_drew BK1143.out)
      replace BK1144 := az (blk_drew BK1144.out)
      replace BK1145 := az (blk_drew BK1145.out)
      replace BK1146 := az (blk_drew BK1146.out)
      replace BK1154 := az (blk_drew BK1154.out)
      replace BK1158 := az (blk_drew BK1158.out)
      replace BK1163 := az (blk_drew BK1163.out)
      replace BK1167 := az (blk_drew BK1167.out)
      replace HI1149 := az (IsS95.drew HI1149.out)
      replace HB := az (below_drew1 HB.out)
      refine start_ (n := 22) (S := fun w' => True) (ds := []) #[false, false, false, false, false, false, false, false, false, false, false, false, false, false, false, false, false, false, false, false, false, false] (by kernel_rfl) rfl rfl trivial (fun hHeld => ?_); refine with_tabW spec_DrawTouch.tab9 spec_DrawTouch.bits9 (fun HT_ HW_ => ?_)
      generalize wc.drew = w59 at BK1143 BK1144 BK1145 BK1146 BK1154 BK1158 BK1163 BK1167 HI1149 HB hHeld ⊢
      refine pu 0 (some 26) (fl 22 1) HT_ ?_
      refine pu 2 (some 28) (fl 22 5) HT_ ?_
      refine pu 4 (some 30) (fl 22 21) HT_ ?_
      refine pu 10 (some 36) (fl 22 1045) HT_ ?_
      refine pu 12 (some 38) (fl 22 5141) HT_ ?_
      refine pu 14 (some 40) (fl 22 21525) HT_ ?_
      refine inv_at [1, 3, 5, 6, 7, 8, 9, 11, 13, 15, 16, 17, 18, 19, 20, 21] (fun a0_ b a w' => ∃ (v1173 : Value) (v1180 : Value), a = putSel a0_ b [(1, 27, .int .i64 t1155), (3, 29, .int .i64 t1170), (5, 31, v1173), (6, 32, .int .i64 t1175), (7, 33, .int .i64 (wrap64 (t1170 * t1175))), (8, 34, .int .i64 (wrap64 (t1155 + (wrap64 (t1170 * t1175))))), (9, 35, .int .i64 (wrap64 ((wrap64 (t1155 + (wrap64 (t1170 * t1175)))) - 256))), (11, 37, .int .i64 t1156), (13, 39, .int .i64 t1177), (15, 41, v1180), (16, 42, .int .i64 t1182), (17, 43, .int .i64 (wrap64 (t1177 * t1182))), (18, 44, .int .i64 (wrap64 (t1156 + (wrap64 (t1177 * t1182))))), (19, 45, .int .i64 (wrap64 ((wrap64 (t1156 + (wrap64 (t1177 * t1182)))) - 256))), (20, 46, .agg #[.int .i64 (wrap64 ((wrap64 (t1155 + (wrap64 (t1170 * t1175)))) - 256)), .int .i64 (wrap64 ((wrap64 (t1156 + (wrap64 (t1177 * t1182)))) - 256))])] ∧ (w'.heap[gb1143]? = some (.cells #[.int .i64 0, .int .i64 0, .int .i64 0] 38 (0, 0))) ∧ (w'.heap[gb1144]? = some (.cells #[.int .i64 0, .int .i64 0] 24 (0, 0))) ∧ (w'.heap[gb1145]? = some (.cells #[.int .i64 0, .int .i64 0, .int .i64 0] 38 (0, 0))) ∧ (w'.heap[gb1146]? = some (.cells #[.int .i64 0, .int .i64 0] 24 (0, 0))) ∧ (w'.heap[gb1154]? = some (.cells #[.int .i64 t1150, .int .i64 t1151, .int .i64 t1152] 38 (0, 0))) ∧ (w'.heap[gb1158]? = some (.cells #[.int .i64 t1155, .int .i64 t1156] 24 (0, 0))) ∧ (w'.heap[gb1163]? = some (.cells #[.int .i64 t1159, .int .i64 t1160, .int .i64 t1161] 38 (0, 0))) ∧ (b 21 = false → w'.heap[gb1167]? = some (.cells #[.int .i64 t1164, .int .i64 t1165] 24 (0, 0))) ∧ (b 3 = false → IsS95 w w' g1149 t1147 t1169) ∧ (Below w.heap.size w w') ∧ (b 3 = true → b 6 = false → IsS95 w w' g1149 t1147 t1171) ∧ (b 5 = true → Kd.R (Kd.int .i64) 3 w' w.heap.size (fun _ => True) v1173 y1172) ∧ (b 6 = true → b 13 = false → IsS95 w w' g1149 t1147 t1176) ∧ (b 13 = true → b 16 = false → IsS95 w w' g1149 t1147 t1178) ∧ (b 15 = true → Kd.R (Kd.int .i64) 3 w' w.heap.size (fun _ => True) v1180 y1179) ∧ (b 16 = true → IsS95 w w' g1149 t1147 t1183) ∧ (b 21 = true → w'.heap[gb1167]? = some (.cells #[.int .i64 (wrap64 ((wrap64 (t1155 + (wrap64 (t1170 * t1175)))) - 256)), .int .i64 (wrap64 ((wrap64 (t1156 + (wrap64 (t1177 * t1182)))) - 256))] 24 (0, 0)))) HT_.out HW_.out (by kernel_rfl) (by kernel_rfl) ?_ ?_ ?_
      · exact ⟨.bool false, .bool false, by simp only [putSel, Bool.false_eq_true, if_false], BK1143.out, BK1144.out, BK1145.out, BK1146.out, BK1154.out, BK1158.out, BK1163.out, fun _ => BK1167.out, fun _ => HI1149.out, HB.out, fun h_ => absurd h_ (by decide), fun h_ => absurd h_ (by decide), fun h_ => absurd h_ (by decide), fun h_ => absurd h_ (by decide), fun h_ => absurd h_ (by decide), fun h_ => absurd h_ (by decide), fun h_ => absurd h_ (by decide)⟩
      · skip
        clear BK1143 BK1144 BK1145 BK1146 BK1154 BK1158 BK1163 BK1167 HB HI1149
        refine steps_cons ?_ ?_
        · rintro b a w' ⟨v1173, v1180, ha, Q_BK1143, Q_BK1144, Q_BK1145, Q_BK1146, Q_BK1154, Q_BK1158, Q_BK1163, Q_BK1167, Q_HI1149, Q_HB, Q_HI1149_e3, Q_HO1174, Q_HI1149_e6, Q_HI1149_e13, Q_HO1181, Q_HI1149_e16, Q_BK1167_e21⟩ hb_ hon hoff
          refine ⟨_, rfl, fun K hK => ?_⟩
          have e26 : a.tmps[26]? = some (.pointer (some ⟨gb1158, 0, none⟩)) := by rw [ha]; exact (putSel_off rfl).trans rfl
          replace ha := az ha
          have BK1143 := az Q_BK1143
          have BK1144 := az Q_BK1144
          have BK1145 := az Q_BK1145
          have BK1146 := az Q_BK1146
          have BK1154 := az Q_BK1154
          have BK1158 := az Q_BK1158
          have BK1163 := az Q_BK1163
          have BK1167 := az (Q_BK1167 (hoff 21 (by kernel_rfl)))
          have HB := az Q_HB
          have hc0_ : w'.cell? ⟨gb1158, 0, none⟩ = some (.int .i64 t1155) := bc BK1158 0
          have hc1_ : w'.cell? ⟨gb1158, 1, none⟩ = some (.int .i64 t1156) := bc BK1158 1
          refine value_ (w1 := w') (v := .int .i64 t1155) (by rfl) rfl ?_ ?_
          · go_simp
            (try simp only [i64_w])
            try rfl
          refine hK.out _ _ ⟨v1173, v1180, (by rw [ha.out]; exact putSel_upk 0 hb_ rfl rfl rfl), Q_BK1143, Q_BK1144, Q_BK1145, Q_BK1146, Q_BK1154, Q_BK1158, Q_BK1163, Q_BK1167, Q_HI1149, Q_HB, Q_HI1149_e3, Q_HO1174, Q_HI1149_e6, Q_HI1149_e13, Q_HO1181, Q_HI1149_e16, fun h0_ => absurd ((hoff 21 (by kernel_rfl)).symm.trans h0_) (by decide)⟩
        refine steps_cons ?_ ?_
        · rintro b a w' ⟨v1173, v1180, ha, Q_BK1143, Q_BK1144, Q_BK1145, Q_BK1146, Q_BK1154, Q_BK1158, Q_BK1163, Q_BK1167, Q_HI1149, Q_HB, Q_HI1149_e3, Q_HO1174, Q_HI1149_e6, Q_HI1149_e13, Q_HO1181, Q_HI1149_e16, Q_BK1167_e21⟩ hb_ hon hoff
          refine ⟨_, rfl, fun K hK => ?_⟩
          have e28 : a.tmps[28]? = some (.pointer (some ⟨g1149, 0, none⟩)) := by rw [ha]; exact (putSel_off rfl).trans rfl
          replace ha := az ha
          have BK1143 := az Q_BK1143
          have BK1144 := az Q_BK1144
          have BK1145 := az Q_BK1145
          have BK1146 := az Q_BK1146
          have BK1154 := az Q_BK1154
          have BK1158 := az Q_BK1158
          have BK1163 := az Q_BK1163
          have BK1167 := az (Q_BK1167 (hoff 21 (by kernel_rfl)))
          have HI1149 := az (Q_HI1149 hb_)
          have HB := az Q_HB
          refine goes_ Try.func62 (by kernel_rfl) rfl #[.pointer (some ⟨g1149, 0, none⟩), .int .i64 256] (by rfl) rfl rfl (by first | (simp only [List.map_toArray, List.map_cons, List.map_nil, Act.eval, Array.getD_eq_getD_getElem?, Option.getD_some, e28]; done) | (simp only [List.map_toArray, List.map_cons, List.map_nil, Act.eval, Array.getD_eq_getD_getElem?, Option.getD_some, e28]; rfl)) ?_
          with_reducible refine (spec_l1Rd_pick.calls kj7 g1149 t1147 t1169 256 t1170 t1171 w _ ?side1 ?side2 A55.out).mono ?_
          (case side1 => exact qI HI1149)
          (case side2 => exact qL HB)
          rintro e w60 ⟨rfl, hi, hb, hk⟩
          refine ⟨_, rfl, ?_⟩
          have n0_ := kKB BK1143 hk NB1143_1149
          have n1_ := kKB BK1144 hk NB1144_1149
          have n2_ := kKB BK1145 hk NB1145_1149
          have n3_ := kKB BK1146 hk NB1146_1149
          have n4_ := kKB BK1154 hk NB1154_1149
          have n5_ := kKB BK1158 hk NB1158_1149
          have n6_ := kKB BK1163 hk NB1163_1149
          have n7_ := kKB BK1167 hk NB1167_1149
          have n8_ := az hb
          have n9_ := az hi
          have z_HO1174 := fun (h0_ : b 5 = true) => (show Kd.R (Kd.int .i64) 3 w60 w.heap.size (fun _ => True) v1173 y1172 from by first | exact (Kd.R_mono (Kd.R_keep (IsS95.apart (show IsS95 w _ g1149 t1147 t1169 from qI HI1149) (by (with_reducible repeat (first | apply Kd.R_alloc | apply Kd.R_drewN | apply Kd.R_drew)); exact (Q_HO1174 h0_)) (by decide)) hk (fun _ h => h.2)) (fun _ h => h.1)) | exact Kd.R_mono (Kd.R_mono (Kd.R_keep (IsS95.apart (show IsS95 w _ g1149 t1147 t1169 from qI HI1149) (by (with_reducible repeat (first | apply Kd.R_alloc | apply Kd.R_drewN | apply Kd.R_drew)); exact (Q_HO1174 h0_)) (by decide)) hk (fun _ h => h.2)) (fun _ h => h.1)) (fun _ h_ => by first | trivial | exact h_ | exact h_.1))
          have z_HO1181 := fun (h0_ : b 15 = true) => (show Kd.R (Kd.int .i64) 3 w60 w.heap.size (fun _ => True) v1180 y1179 from by first | exact (Kd.R_mono (Kd.R_keep (IsS95.apart (show IsS95 w _ g1149 t1147 t1169 from qI HI1149) (by (with_reducible repeat (first | apply Kd.R_alloc | apply Kd.R_drewN | apply Kd.R_drew)); exact (Q_HO1181 h0_)) (by decide)) hk (fun _ h => h.2)) (fun _ h => h.1)) | exact Kd.R_mono (Kd.R_mono (Kd.R_keep (IsS95.apart (show IsS95 w _ g1149 t1147 t1169 from qI HI1149) (by (with_reducible repeat (first | apply Kd.R_alloc | apply Kd.R_drewN | apply Kd.R_drew)); exact (Q_HO1181 h0_)) (by decide)) hk (fun _ h => h.2)) (fun _ h => h.1)) (fun _ h_ => by first | trivial | exact h_ | exact h_.1))
          clear BK1143
          clear BK1144
          clear BK1145
          clear BK1146
          clear BK1154
          clear BK1158
          clear BK1163
          clear BK1167
          clear HB
          clear HI1149
          have BK1143 := n0_
          have BK1144 := n1_
          have BK1145 := n2_
          have BK1146 := n3_
          have BK1154 := n4_
          have BK1158 := n5_
          have BK1163 := n6_
          have BK1167 := n7_
          have HB := n8_
          have HI1149 := n9_
          clear n0_ n1_ n2_ n3_ n4_ n5_ n6_ n7_ n8_ n9_
          clear hb hk hi
          refine hK.out _ _ ⟨v1173, v1180, (by rw [ha.out]; exact putSel_upk 1 hb_ rfl rfl rfl), (qB BK1143), (qB BK1144), (qB BK1145), (qB BK1146), (qB BK1154), (qB BK1158), (qB BK1163), fun _ => (qB BK1167), fun h0_ => absurd ((up_self b 3).symm.trans h0_) (by decide), (qL HB), fun _ _ => (qI HI1149), z_HO1174, fun h0_ _ => absurd ((hoff 6 (by kernel_rfl)).symm.trans h0_) (by decide), fun h0_ _ => absurd ((hoff 13 (by kernel_rfl)).symm.trans h0_) (by decide), z_HO1181, fun h0_ => absurd ((hoff 16 (by kernel_rfl)).symm.trans h0_) (by decide), fun h0_ => absurd ((hoff 21 (by kernel_rfl)).symm.trans h0_) (by decide)⟩
        refine steps_cons ?_ ?_
        · rintro b a w' ⟨v1173, v1180, ha, Q_BK1143, Q_BK1144, Q_BK1145, Q_BK1146, Q_BK1154, Q_BK1158, Q_BK1163, Q_BK1167, Q_HI1149, Q_HB, Q_HI1149_e3, Q_HO1174, Q_HI1149_e6, Q_HI1149_e13, Q_HO1181, Q_HI1149_e16, Q_BK1167_e21⟩ hb_ hon hoff
          refine ⟨_, rfl, fun K hK => ?_⟩
          replace ha := az ha
          have BK1143 := az Q_BK1143
          have BK1144 := az Q_BK1144
          have BK1145 := az Q_BK1145
          have BK1146 := az Q_BK1146
          have BK1154 := az Q_BK1154
          have BK1158 := az Q_BK1158
          have BK1163 := az Q_BK1163
          have BK1167 := az (Q_BK1167 (hoff 21 (by kernel_rfl)))
          have HB := az Q_HB
          refine Kd.R_lit_step (Kd.int .i64) _ 3 ?hg (N := 31) ?hd (xs := ([1, 4] : List Int)) (inner := [.int .i64 1, .int .i64 4]) (ok := fun _ => True) (okp := fun _ => True) ?hr ?hp (fun _ hk => hk) trivial (Below.refl _ _) (Nat.le_refl _) (by simp) ?_; (case hd => rfl); (case hg => rfl); (case hr => first | (go_simp; done) | (go_simp; rfl)); (case hp => exact (Reps.one (show Kd.M (Kd.int .i64) _ _ _ 1 [.int .i64 1] from rfl) (Reps.one (show Kd.M (Kd.int .i64) _ _ _ 4 [.int .i64 4] from rfl) (Reps.none _ _))))
          intro v1173 w60 ho61 hb hg_ hnew_
          clear hg_ hnew_
          (first | rw [← Ny1172.out] at ho61 | (simp only [Int.reduceToNat] at ho61; rw [← Ny1172.out] at ho61))
          have n0_ := az (Kd.R_lower ho61 (below_size (qL HB)))
          have n1_ := kBB BK1143 hb
          have n2_ := kBB BK1144 hb
          have n3_ := kBB BK1145 hb
          have n4_ := kBB BK1146 hb
          have n5_ := kBB BK1154 hb
          have n6_ := kBB BK1158 hb
          have n7_ := kBB BK1163 hb
          have n8_ := kBB BK1167 hb
          have n10_ := bS HB hb
          have z_HI1149 := fun (h0_ : b 3 = false) => (show IsS95 w w60 g1149 t1147 t1169 from by first | exact (IsS95.below (by repeat (first | (with_reducible first | exact (Q_HI1149 h0_) | apply IsS95.alloc | apply IsS95.drewN | apply IsS95.drew | apply IsS95.set_1 | refine IsS95.far ?_ NB1149_1143.out _ | refine IsS95.far ?_ NB1149_1144.out _ | refine IsS95.far ?_ NB1149_1145.out _ | refine IsS95.far ?_ NB1149_1146.out _ | refine IsS95.far ?_ NB1149_1154.out _ | refine IsS95.far ?_ NB1149_1158.out _ | refine IsS95.far ?_ NB1149_1163.out _ | refine IsS95.far ?_ NB1149_1167.out _) | exact (Q_HI1149 h0_))) hb))
          have z_HI1149_e3 := fun (h0_ : b 3 = true) (h1_ : b 6 = false) => (show IsS95 w w60 g1149 t1147 t1171 from by first | exact (IsS95.below (by repeat (first | (with_reducible first | exact (Q_HI1149_e3 h0_ h1_) | apply IsS95.alloc | apply IsS95.drewN | apply IsS95.drew | apply IsS95.set_1 | refine IsS95.far ?_ NB1149_1143.out _ | refine IsS95.far ?_ NB1149_1144.out _ | refine IsS95.far ?_ NB1149_1145.out _ | refine IsS95.far ?_ NB1149_1146.out _ | refine IsS95.far ?_ NB1149_1154.out _ | refine IsS95.far ?_ NB1149_1158.out _ | refine IsS95.far ?_ NB1149_1163.out _ | refine IsS95.far ?_ NB1149_1167.out _) | exact (Q_HI1149_e3 h0_ h1_))) hb))
          have z_HO1181 := fun (h0_ : b 15 = true) => (show Kd.R (Kd.int .i64) 3 w60 w.heap.size (fun _ => True) v1180 y1179 from by first | exact (Kd.R_elder' (by (with_reducible repeat (first | apply Kd.R_alloc | apply Kd.R_drewN | apply Kd.R_drew)); exact (Q_HO1181 h0_)) (Kd.R_base ho61) hb) | exact Kd.R_mono (Kd.R_elder' (by (with_reducible repeat (first | apply Kd.R_alloc | apply Kd.R_drewN | apply Kd.R_drew)); exact (Q_HO1181 h0_)) (Kd.R_base ho61) hb) (fun _ h_ => by first | trivial | exact h_ | exact h_.1))
          clear BK1143
          clear BK1144
          clear BK1145
          clear BK1146
          clear BK1154
          clear BK1158
          clear BK1163
          clear BK1167
          clear HB
          have HO1174 := n0_
          have BK1143 := n1_
          have BK1144 := n2_
          have BK1145 := n3_
          have BK1146 := n4_
          have BK1154 := n5_
          have BK1158 := n6_
          have BK1163 := n7_
          have BK1167 := n8_
          have HB := n10_
          clear n0_ n1_ n2_ n3_ n4_ n5_ n6_ n7_ n8_ n10_
          clear hb ho61
          refine hK.out _ _ ⟨v1173, v1180, (by rw [ha.out]; exact putSel_upk 2 hb_ rfl rfl rfl), (qB BK1143), (qB BK1144), (qB BK1145), (qB BK1146), (qB BK1154), (qB BK1158), (qB BK1163), fun _ => (qB BK1167), z_HI1149, (qL HB), z_HI1149_e3, fun _ => (by (with_reducible repeat (first | apply Kd.R_alloc | apply Kd.R_drewN | apply Kd.R_drew)); exact HO1174.out), fun h0_ _ => absurd ((hoff 6 (by kernel_rfl)).symm.trans h0_) (by decide), fun h0_ _ => absurd ((hoff 13 (by kernel_rfl)).symm.trans h0_) (by decide), z_HO1181, fun h0_ => absurd ((hoff 16 (by kernel_rfl)).symm.trans h0_) (by decide), fun h0_ => absurd ((hoff 21 (by kernel_rfl)).symm.trans h0_) (by decide)⟩
        refine steps_cons ?_ ?_
        · rintro b a w' ⟨v1173, v1180, ha, Q_BK1143, Q_BK1144, Q_BK1145, Q_BK1146, Q_BK1154, Q_BK1158, Q_BK1163, Q_BK1167, Q_HI1149, Q_HB, Q_HI1149_e3, Q_HO1174, Q_HI1149_e6, Q_HI1149_e13, Q_HO1181, Q_HI1149_e16, Q_BK1167_e21⟩ hb_ hon hoff
          refine ⟨_, rfl, fun K hK => ?_⟩
          have e30 : a.tmps[30]? = some (.pointer (some ⟨g1149, 0, none⟩)) := by rw [ha]; exact (putSel_off rfl).trans rfl
          have e31 : a.tmps[31]? = some (v1173) := by rw [ha]; exact putSel_on (e := (5, 31, v1173)) 2 rfl rfl (hon 5 (by kernel_rfl)) rfl
          replace ha := az ha
          have BK1143 := az Q_BK1143
          have BK1144 := az Q_BK1144
          have BK1145 := az Q_BK1145
          have BK1146 := az Q_BK1146
          have BK1154 := az Q_BK1154
          have BK1158 := az Q_BK1158
          have BK1163 := az Q_BK1163
          have BK1167 := az (Q_BK1167 (hoff 21 (by kernel_rfl)))
          have HB := az Q_HB
          have HI1149 := az (Q_HI1149_e3 (hon 3 (by kernel_rfl)) hb_)
          have HO1174 := az (Q_HO1174 (hon 5 (by kernel_rfl)))
          obtain ⟨Ao64, co64, eo64⟩ := Kd.R_slice HO1174.out
          (first | subst eo64 | (injection eo64 with f1_ f2_ f3_; have f4_ := f1_.symm; have f5_ := f3_.symm; clear f1_ f2_ f3_; subst f4_; subst f5_))
          refine goes_ Try.func63 (by kernel_rfl) rfl #[.pointer (some ⟨g1149, 0, none⟩), .slice Ao64 y1172.length co64] (by rfl) rfl rfl (by first | (simp only [List.map_toArray, List.map_cons, List.map_nil, Act.eval, Array.getD_eq_getD_getElem?, Option.getD_some, e30, e31]; done) | (simp only [List.map_toArray, List.map_cons, List.map_nil, Act.eval, Array.getD_eq_getD_getElem?, Option.getD_some, e30, e31]; rfl)) ?_
          with_reducible refine (spec_l1Rd_one.calls kj7 g1149 t1147 t1171 _ _ y1172 t1175 t1176 w _ ?side1 ?side2 ?side3 ?side4 ?side5 A56.out).mono ?_
          (case side1 => exact qI HI1149)
          (case side2 => exact qL HB)
          (case side3 => repeat (first | exact (Kd.R_reads' HO1174.out).2.2 | (with_reducible refine Kd.C_alloc ?_ _) | (with_reducible refine Kd.C_drewN ?_ _) | (with_reducible refine Kd.C_drew ?_)))
          (case side4 => exact (Kd.R_reads' HO1174.out).2.1)
          (case side5 => exact far_slice (IsS95.own_ne HI1149.out HO1174.out (by decide)))
          rintro e w65 ⟨rfl, hi, hb, hk⟩
          refine ⟨_, rfl, ?_⟩
          have n0_ := kKB BK1143 hk NB1143_1149
          have n1_ := kKB BK1144 hk NB1144_1149
          have n2_ := kKB BK1145 hk NB1145_1149
          have n3_ := kKB BK1146 hk NB1146_1149
          have n4_ := kKB BK1154 hk NB1154_1149
          have n5_ := kKB BK1158 hk NB1158_1149
          have n6_ := kKB BK1163 hk NB1163_1149
          have n7_ := kKB BK1167 hk NB1167_1149
          have n8_ := az (Kd.R_mono (Kd.R_keep (IsS95.apart (show IsS95 w _ g1149 t1147 t1171 from qI HI1149) (by (with_reducible repeat (first | apply Kd.R_alloc | apply Kd.R_drewN | apply Kd.R_drew)); exact HO1174.out) (by decide)) hk (fun _ h => h.2)) (fun _ h => h.1))
          have n9_ := az hb
          have n10_ := az hi
          have z_HO1181 := fun (h0_ : b 15 = true) => (show Kd.R (Kd.int .i64) 3 w65 w.heap.size (fun _ => True) v1180 y1179 from by first | exact (Kd.R_mono (Kd.R_keep (IsS95.apart (show IsS95 w _ g1149 t1147 t1171 from qI HI1149) (by (with_reducible repeat (first | apply Kd.R_alloc | apply Kd.R_drewN | apply Kd.R_drew)); exact (Q_HO1181 h0_)) (by decide)) hk (fun _ h => h.2)) (fun _ h => h.1)) | exact Kd.R_mono (Kd.R_mono (Kd.R_keep (IsS95.apart (show IsS95 w _ g1149 t1147 t1171 from qI HI1149) (by (with_reducible repeat (first | apply Kd.R_alloc | apply Kd.R_drewN | apply Kd.R_drew)); exact (Q_HO1181 h0_)) (by decide)) hk (fun _ h => h.2)) (fun _ h => h.1)) (fun _ h_ => by first | trivial | exact h_ | exact h_.1))
          clear BK1143
          clear BK1144
          clear BK1145
          clear BK1146
          clear BK1154
          clear BK1158
          clear BK1163
          clear BK1167
          clear HO1174
          clear HB
          clear HI1149
          have BK1143 := n0_
          have BK1144 := n1_
          have BK1145 := n2_
          have BK1146 := n3_
          have BK1154 := n4_
          have BK1158 := n5_
          have BK1163 := n6_
          have BK1167 := n7_
          have HO1174 := n8_
          have HB := n9_
          have HI1149 := n10_
          clear n0_ n1_ n2_ n3_ n4_ n5_ n6_ n7_ n8_ n9_ n10_
          clear hb hk hi
          refine hK.out _ _ ⟨.slice Ao64 y1172.length co64, v1180, (by rw [ha.out]; exact putSel_upk 3 hb_ rfl rfl rfl), (qB BK1143), (qB BK1144), (qB BK1145), (qB BK1146), (qB BK1154), (qB BK1158), (qB BK1163), fun _ => (qB BK1167), fun h0_ => absurd ((hon 3 (by kernel_rfl)).symm.trans h0_) (by decide), (qL HB), fun _ h1_ => absurd ((up_self b 6).symm.trans h1_) (by decide), fun _ => (by (with_reducible repeat (first | apply Kd.R_alloc | apply Kd.R_drewN | apply Kd.R_drew)); exact HO1174.out), fun _ _ => (qI HI1149), fun h0_ _ => absurd ((hoff 13 (by kernel_rfl)).symm.trans h0_) (by decide), z_HO1181, fun h0_ => absurd ((hoff 16 (by kernel_rfl)).symm.trans h0_) (by decide), fun h0_ => absurd ((hoff 21 (by kernel_rfl)).symm.trans h0_) (by decide)⟩
        refine steps_cons ?_ ?_
        · rintro b a w' ⟨v1173, v1180, ha, Q_BK1143, Q_BK1144, Q_BK1145, Q_BK1146, Q_BK1154, Q_BK1158, Q_BK1163, Q_BK1167, Q_HI1149, Q_HB, Q_HI1149_e3, Q_HO1174, Q_HI1149_e6, Q_HI1149_e13, Q_HO1181, Q_HI1149_e16, Q_BK1167_e21⟩ hb_ hon hoff
          refine ⟨_, rfl, fun K hK => ?_⟩
          have e29 : a.tmps[29]? = some (.int .i64 t1170) := by rw [ha]; exact putSel_on (e := (3, 29, .int .i64 t1170)) 1 rfl rfl (hon 3 (by kernel_rfl)) rfl
          have e32 : a.tmps[32]? = some (.int .i64 t1175) := by rw [ha]; exact putSel_on (e := (6, 32, .int .i64 t1175)) 3 rfl rfl (hon 6 (by kernel_rfl)) rfl
          replace ha := az ha
          have BK1143 := az Q_BK1143
          have BK1144 := az Q_BK1144
          have BK1145 := az Q_BK1145
          have BK1146 := az Q_BK1146
          have BK1154 := az Q_BK1154
          have BK1158 := az Q_BK1158
          have BK1163 := az Q_BK1163
          have BK1167 := az (Q_BK1167 (hoff 21 (by kernel_rfl)))
          have HB := az Q_HB
          have HO1174 := az (Q_HO1174 (hon 5 (by kernel_rfl)))
          refine value_ (w1 := w') (v := .int .i64 (wrap64 (t1170 * t1175))) (by rfl) rfl ?_ ?_
          · go_simp
            (try simp only [i64_w])
            try rfl
          refine hK.out _ _ ⟨v1173, v1180, (by rw [ha.out]; exact putSel_upk 4 hb_ rfl rfl rfl), Q_BK1143, Q_BK1144, Q_BK1145, Q_BK1146, Q_BK1154, Q_BK1158, Q_BK1163, Q_BK1167, fun h0_ => absurd ((hon 3 (by kernel_rfl)).symm.trans h0_) (by decide), Q_HB, fun _ h1_ => absurd ((hon 6 (by kernel_rfl)).symm.trans h1_) (by decide), Q_HO1174, Q_HI1149_e6, Q_HI1149_e13, Q_HO1181, Q_HI1149_e16, fun h0_ => absurd ((hoff 21 (by kernel_rfl)).symm.trans h0_) (by decide)⟩
        refine steps_cons ?_ ?_
        · rintro b a w' ⟨v1173, v1180, ha, Q_BK1143, Q_BK1144, Q_BK1145, Q_BK1146, Q_BK1154, Q_BK1158, Q_BK1163, Q_BK1167, Q_HI1149, Q_HB, Q_HI1149_e3, Q_HO1174, Q_HI1149_e6, Q_HI1149_e13, Q_HO1181, Q_HI1149_e16, Q_BK1167_e21⟩ hb_ hon hoff
          refine ⟨_, rfl, fun K hK => ?_⟩
          have e27 : a.tmps[27]? = some (.int .i64 t1155) := by rw [ha]; exact putSel_on (e := (1, 27, .int .i64 t1155)) 0 rfl rfl (hon 1 (by kernel_rfl)) rfl
          have e33 : a.tmps[33]? = some (.int .i64 (wrap64 (t1170 * t1175))) := by rw [ha]; exact putSel_on (e := (7, 33, .int .i64 (wrap64 (t1170 * t1175)))) 4 rfl rfl (hon 7 (by kernel_rfl)) rfl
          replace ha := az ha
          have BK1143 := az Q_BK1143
          have BK1144 := az Q_BK1144
          have BK1145 := az Q_BK1145
          have BK1146 := az Q_BK1146
          have BK1154 := az Q_BK1154
          have BK1158 := az Q_BK1158
          have BK1163 := az Q_BK1163
          have BK1167 := az (Q_BK1167 (hoff 21 (by kernel_rfl)))
          have HB := az Q_HB
          have HO1174 := az (Q_HO1174 (hon 5 (by kernel_rfl)))
          refine value_ (w1 := w') (v := .int .i64 (wrap64 (t1155 + (wrap64 (t1170 * t1175))))) (by rfl) rfl ?_ ?_
          · go_simp
            (try simp only [i64_w])
            try rfl
          refine hK.out _ _ ⟨v1173, v1180, (by rw [ha.out]; exact putSel_upk 5 hb_ rfl rfl rfl), Q_BK1143, Q_BK1144, Q_BK1145, Q_BK1146, Q_BK1154, Q_BK1158, Q_BK1163, Q_BK1167, fun h0_ => absurd ((hon 3 (by kernel_rfl)).symm.trans h0_) (by decide), Q_HB, fun _ h1_ => absurd ((hon 6 (by kernel_rfl)).symm.trans h1_) (by decide), Q_HO1174, Q_HI1149_e6, Q_HI1149_e13, Q_HO1181, Q_HI1149_e16, fun h0_ => absurd ((hoff 21 (by kernel_rfl)).symm.trans h0_) (by decide)⟩
        refine steps_cons ?_ ?_
        · rintro b a w' ⟨v1173, v1180, ha, Q_BK1143, Q_BK1144, Q_BK1145, Q_BK1146, Q_BK1154, Q_BK1158, Q_BK1163, Q_BK1167, Q_HI1149, Q_HB, Q_HI1149_e3, Q_HO1174, Q_HI1149_e6, Q_HI1149_e13, Q_HO1181, Q_HI1149_e16, Q_BK1167_e21⟩ hb_ hon hoff
          refine ⟨_, rfl, fun K hK => ?_⟩
          have e34 : a.tmps[34]? = some (.int .i64 (wrap64 (t1155 + (wrap64 (t1170 * t1175))))) := by rw [ha]; exact putSel_on (e := (8, 34, .int .i64 (wrap64 (t1155 + (wrap64 (t1170 * t1175)))))) 5 rfl rfl (hon 8 (by kernel_rfl)) rfl
          replace ha := az ha
          have BK1143 := az Q_BK1143
          have BK1144 := az Q_BK1144
          have BK1145 := az Q_BK1145
          have BK1146 := az Q_BK1146
          have BK1154 := az Q_BK1154
          have BK1158 := az Q_BK1158
          have BK1163 := az Q_BK1163
          have BK1167 := az (Q_BK1167 (hoff 21 (by kernel_rfl)))
          have HB := az Q_HB
          have HO1174 := az (Q_HO1174 (hon 5 (by kernel_rfl)))
          refine value_ (w1 := w') (v := .int .i64 (wrap64 ((wrap64 (t1155 + (wrap64 (t1170 * t1175)))) - 256))) (by rfl) rfl ?_ ?_
          · go_simp
            (try simp only [i64_w])
            try rfl
          refine hK.out _ _ ⟨v1173, v1180, (by rw [ha.out]; exact putSel_upk 6 hb_ rfl rfl rfl), Q_BK1143, Q_BK1144, Q_BK1145, Q_BK1146, Q_BK1154, Q_BK1158, Q_BK1163, Q_BK1167, fun h0_ => absurd ((hon 3 (by kernel_rfl)).symm.trans h0_) (by decide), Q_HB, fun _ h1_ => absurd ((hon 6 (by kernel_rfl)).symm.trans h1_) (by decide), Q_HO1174, Q_HI1149_e6, Q_HI1149_e13, Q_HO1181, Q_HI1149_e16, fun h0_ => absurd ((hoff 21 (by kernel_rfl)).symm.trans h0_) (by decide)⟩
        refine steps_cons ?_ ?_
        · rintro b a w' ⟨v1173, v1180, ha, Q_BK1143, Q_BK1144, Q_BK1145, Q_BK1146, Q_BK1154, Q_BK1158, Q_BK1163, Q_BK1167, Q_HI1149, Q_HB, Q_HI1149_e3, Q_HO1174, Q_HI1149_e6, Q_HI1149_e13, Q_HO1181, Q_HI1149_e16, Q_BK1167_e21⟩ hb_ hon hoff
          refine ⟨_, rfl, fun K hK => ?_⟩
          have e36 : a.tmps[36]? = some (.pointer (some ⟨gb1158, 1, none⟩)) := by rw [ha]; exact (putSel_off rfl).trans rfl
          replace ha := az ha
          have BK1143 := az Q_BK1143
          have BK1144 := az Q_BK1144
          have BK1145 := az Q_BK1145
          have BK1146 := az Q_BK1146
          have BK1154 := az Q_BK1154
          have BK1158 := az Q_BK1158
          have BK1163 := az Q_BK1163
          have BK1167 := az (Q_BK1167 (hoff 21 (by kernel_rfl)))
          have HB := az Q_HB
          have hc0_ : w'.cell? ⟨gb1158, 0, none⟩ = some (.int .i64 t1155) := bc BK1158 0
          have hc1_ : w'.cell? ⟨gb1158, 1, none⟩ = some (.int .i64 t1156) := bc BK1158 1
          refine value_ (w1 := w') (v := .int .i64 t1156) (by rfl) rfl ?_ ?_
          · go_simp
            (try simp only [i64_w])
            try rfl
          refine hK.out _ _ ⟨v1173, v1180, (by rw [ha.out]; exact putSel_upk 7 hb_ rfl rfl rfl), Q_BK1143, Q_BK1144, Q_BK1145, Q_BK1146, Q_BK1154, Q_BK1158, Q_BK1163, Q_BK1167, Q_HI1149, Q_HB, Q_HI1149_e3, Q_HO1174, Q_HI1149_e6, Q_HI1149_e13, Q_HO1181, Q_HI1149_e16, fun h0_ => absurd ((hoff 21 (by kernel_rfl)).symm.trans h0_) (by decide)⟩
        refine steps_cons ?_ ?_
        · rintro b a w' ⟨v1173, v1180, ha, Q_BK1143, Q_BK1144, Q_BK1145, Q_BK1146, Q_BK1154, Q_BK1158, Q_BK1163, Q_BK1167, Q_HI1149, Q_HB, Q_HI1149_e3, Q_HO1174, Q_HI1149_e6, Q_HI1149_e13, Q_HO1181, Q_HI1149_e16, Q_BK1167_e21⟩ hb_ hon hoff
          refine ⟨_, rfl, fun K hK => ?_⟩
          have e38 : a.tmps[38]? = some (.pointer (some ⟨g1149, 0, none⟩)) := by rw [ha]; exact (putSel_off rfl).trans rfl
          replace ha := az ha
          have BK1143 := az Q_BK1143
          have BK1144 := az Q_BK1144
          have BK1145 := az Q_BK1145
          have BK1146 := az Q_BK1146
          have BK1154 := az Q_BK1154
          have BK1158 := az Q_BK1158
          have BK1163 := az Q_BK1163
          have BK1167 := az (Q_BK1167 (hoff 21 (by kernel_rfl)))
          have HB := az Q_HB
          have HO1174 := az (Q_HO1174 (hon 5 (by kernel_rfl)))
          have HI1149 := az (Q_HI1149_e6 (hon 6 (by kernel_rfl)) hb_)
          refine goes_ Try.func62 (by kernel_rfl) rfl #[.pointer (some ⟨g1149, 0, none⟩), .int .i64 256] (by rfl) rfl rfl (by first | (simp only [List.map_toArray, List.map_cons, List.map_nil, Act.eval, Array.getD_eq_getD_getElem?, Option.getD_some, e38]; done) | (simp only [List.map_toArray, List.map_cons, List.map_nil, Act.eval, Array.getD_eq_getD_getElem?, Option.getD_some, e38]; rfl)) ?_
          with_reducible refine (spec_l1Rd_pick.calls kj7 g1149 t1147 t1176 256 t1177 t1178 w _ ?side1 ?side2 A57.out).mono ?_
          (case side1 => exact qI HI1149)
          (case side2 => exact qL HB)
          rintro e w66 ⟨rfl, hi, hb, hk⟩
          refine ⟨_, rfl, ?_⟩
          have n0_ := kKB BK1143 hk NB1143_1149
          have n1_ := kKB BK1144 hk NB1144_1149
          have n2_ := kKB BK1145 hk NB1145_1149
          have n3_ := kKB BK1146 hk NB1146_1149
          have n4_ := kKB BK1154 hk NB1154_1149
          have n5_ := kKB BK1158 hk NB1158_1149
          have n6_ := kKB BK1163 hk NB1163_1149
          have n7_ := kKB BK1167 hk NB1167_1149
          have n8_ := az (Kd.R_mono (Kd.R_keep (IsS95.apart (show IsS95 w _ g1149 t1147 t1176 from qI HI1149) (by (with_reducible repeat (first | apply Kd.R_alloc | apply Kd.R_drewN | apply Kd.R_drew)); exact HO1174.out) (by decide)) hk (fun _ h => h.2)) (fun _ h => h.1))
          have n9_ := az hb
          have n10_ := az hi
          have z_HO1181 := fun (h0_ : b 15 = true) => (show Kd.R (Kd.int .i64) 3 w66 w.heap.size (fun _ => True) v1180 y1179 from by first | exact (Kd.R_mono (Kd.R_keep (IsS95.apart (show IsS95 w _ g1149 t1147 t1176 from qI HI1149) (by (with_reducible repeat (first | apply Kd.R_alloc | apply Kd.R_drewN | apply Kd.R_drew)); exact (Q_HO1181 h0_)) (by decide)) hk (fun _ h => h.2)) (fun _ h => h.1)) | exact Kd.R_mono (Kd.R_mono (Kd.R_keep (IsS95.apart (show IsS95 w _ g1149 t1147 t1176 from qI HI1149) (by (with_reducible repeat (first | apply Kd.R_alloc | apply Kd.R_drewN | apply Kd.R_drew)); exact (Q_HO1181 h0_)) (by decide)) hk (fun _ h => h.2)) (fun _ h => h.1)) (fun _ h_ => by first | trivial | exact h_ | exact h_.1))
          clear BK1143
          clear BK1144
          clear BK1145
          clear BK1146
          clear BK1154
          clear BK1158
          clear BK1163
          clear BK1167
          clear HO1174
          clear HB
          clear HI1149
          have BK1143 := n0_
          have BK1144 := n1_
          have BK1145 := n2_
          have BK1146 := n3_
          have BK1154 := n4_
          have BK1158 := n5_
          have BK1163 := n6_
          have BK1167 := n7_
          have HO1174 := n8_
          have HB := n9_
          have HI1149 := n10_
          clear n0_ n1_ n2_ n3_ n4_ n5_ n6_ n7_ n8_ n9_ n10_
          clear hb hk hi
          refine hK.out _ _ ⟨v1173, v1180, (by rw [ha.out]; exact putSel_upk 8 hb_ rfl rfl rfl), (qB BK1143), (qB BK1144), (qB BK1145), (qB BK1146), (qB BK1154), (qB BK1158), (qB BK1163), fun _ => (qB BK1167), fun h0_ => absurd ((hon 3 (by kernel_rfl)).symm.trans h0_) (by decide), (qL HB), fun _ h1_ => absurd ((hon 6 (by kernel_rfl)).symm.trans h1_) (by decide), fun _ => (by (with_reducible repeat (first | apply Kd.R_alloc | apply Kd.R_drewN | apply Kd.R_drew)); exact HO1174.out), fun _ h1_ => absurd ((up_self b 13).symm.trans h1_) (by decide), fun _ _ => (qI HI1149), z_HO1181, fun h0_ => absurd ((hoff 16 (by kernel_rfl)).symm.trans h0_) (by decide), fun h0_ => absurd ((hoff 21 (by kernel_rfl)).symm.trans h0_) (by decide)⟩
        refine steps_cons ?_ ?_
        · rintro b a w' ⟨v1173, v1180, ha, Q_BK1143, Q_BK1144, Q_BK1145, Q_BK1146, Q_BK1154, Q_BK1158, Q_BK1163, Q_BK1167, Q_HI1149, Q_HB, Q_HI1149_e3, Q_HO1174, Q_HI1149_e6, Q_HI1149_e13, Q_HO1181, Q_HI1149_e16, Q_BK1167_e21⟩ hb_ hon hoff
          refine ⟨_, rfl, fun K hK => ?_⟩
          replace ha := az ha
          have BK1143 := az Q_BK1143
          have BK1144 := az Q_BK1144
          have BK1145 := az Q_BK1145
          have BK1146 := az Q_BK1146
          have BK1154 := az Q_BK1154
          have BK1158 := az Q_BK1158
          have BK1163 := az Q_BK1163
          have BK1167 := az (Q_BK1167 (hoff 21 (by kernel_rfl)))
          have HB := az Q_HB
          refine Kd.R_lit_step (Kd.int .i64) _ 3 ?hg (N := 41) ?hd (xs := ([1, 4] : List Int)) (inner := [.int .i64 1, .int .i64 4]) (ok := fun _ => True) (okp := fun _ => True) ?hr ?hp (fun _ hk => hk) trivial (Below.refl _ _) (Nat.le_refl _) (by simp) ?_; (case hd => rfl); (case hg => rfl); (case hr => first | (go_simp; done) | (go_simp; rfl)); (case hp => exact (Reps.one (show Kd.M (Kd.int .i64) _ _ _ 1 [.int .i64 1] from rfl) (Reps.one (show Kd.M (Kd.int .i64) _ _ _ 4 [.int .i64 4] from rfl) (Reps.none _ _))))
          intro v1180 w60 ho61 hb hg_ hnew_
          clear hg_ hnew_
          (first | rw [← Ny1179.out] at ho61 | (simp only [Int.reduceToNat] at ho61; rw [← Ny1179.out] at ho61))
          have n0_ := az (Kd.R_lower ho61 (below_size (qL HB)))
          have n1_ := kBB BK1143 hb
          have n2_ := kBB BK1144 hb
          have n3_ := kBB BK1145 hb
          have n4_ := kBB BK1146 hb
          have n5_ := kBB BK1154 hb
          have n6_ := kBB BK1158 hb
          have n7_ := kBB BK1163 hb
          have n8_ := kBB BK1167 hb
          have n10_ := bS HB hb
          have z_HI1149 := fun (h0_ : b 3 = false) => (show IsS95 w w60 g1149 t1147 t1169 from by first | exact (IsS95.below (by repeat (first | (with_reducible first | exact (Q_HI1149 h0_) | apply IsS95.alloc | apply IsS95.drewN | apply IsS95.drew | apply IsS95.set_1 | refine IsS95.far ?_ NB1149_1143.out _ | refine IsS95.far ?_ NB1149_1144.out _ | refine IsS95.far ?_ NB1149_1145.out _ | refine IsS95.far ?_ NB1149_1146.out _ | refine IsS95.far ?_ NB1149_1154.out _ | refine IsS95.far ?_ NB1149_1158.out _ | refine IsS95.far ?_ NB1149_1163.out _ | refine IsS95.far ?_ NB1149_1167.out _) | exact (Q_HI1149 h0_))) hb))
          have z_HI1149_e3 := fun (h0_ : b 3 = true) (h1_ : b 6 = false) => (show IsS95 w w60 g1149 t1147 t1171 from by first | exact (IsS95.below (by repeat (first | (with_reducible first | exact (Q_HI1149_e3 h0_ h1_) | apply IsS95.alloc | apply IsS95.drewN | apply IsS95.drew | apply IsS95.set_1 | refine IsS95.far ?_ NB1149_1143.out _ | refine IsS95.far ?_ NB1149_1144.out _ | refine IsS95.far ?_ NB1149_1145.out _ | refine IsS95.far ?_ NB1149_1146.out _ | refine IsS95.far ?_ NB1149_1154.out _ | refine IsS95.far ?_ NB1149_1158.out _ | refine IsS95.far ?_ NB1149_1163.out _ | refine IsS95.far ?_ NB1149_1167.out _) | exact (Q_HI1149_e3 h0_ h1_))) hb))
          have z_HO1174 := fun (h0_ : b 5 = true) => (show Kd.R (Kd.int .i64) 3 w60 w.heap.size (fun _ => True) v1173 y1172 from by first | exact (Kd.R_elder' (by (with_reducible repeat (first | apply Kd.R_alloc | apply Kd.R_drewN | apply Kd.R_drew)); exact (Q_HO1174 h0_)) (Kd.R_base ho61) hb) | exact Kd.R_mono (Kd.R_elder' (by (with_reducible repeat (first | apply Kd.R_alloc | apply Kd.R_drewN | apply Kd.R_drew)); exact (Q_HO1174 h0_)) (Kd.R_base ho61) hb) (fun _ h_ => by first | trivial | exact h_ | exact h_.1))
          have z_HI1149_e6 := fun (h0_ : b 6 = true) (h1_ : b 13 = false) => (show IsS95 w w60 g1149 t1147 t1176 from by first | exact (IsS95.below (by repeat (first | (with_reducible first | exact (Q_HI1149_e6 h0_ h1_) | apply IsS95.alloc | apply IsS95.drewN | apply IsS95.drew | apply IsS95.set_1 | refine IsS95.far ?_ NB1149_1143.out _ | refine IsS95.far ?_ NB1149_1144.out _ | refine IsS95.far ?_ NB1149_1145.out _ | refine IsS95.far ?_ NB1149_1146.out _ | refine IsS95.far ?_ NB1149_1154.out _ | refine IsS95.far ?_ NB1149_1158.out _ | refine IsS95.far ?_ NB1149_1163.out _ | refine IsS95.far ?_ NB1149_1167.out _) | exact (Q_HI1149_e6 h0_ h1_))) hb))
          have z_HI1149_e13 := fun (h0_ : b 13 = true) (h1_ : b 16 = false) => (show IsS95 w w60 g1149 t1147 t1178 from by first | exact (IsS95.below (by repeat (first | (with_reducible first | exact (Q_HI1149_e13 h0_ h1_) | apply IsS95.alloc | apply IsS95.drewN | apply IsS95.drew | apply IsS95.set_1 | refine IsS95.far ?_ NB1149_1143.out _ | refine IsS95.far ?_ NB1149_1144.out _ | refine IsS95.far ?_ NB1149_1145.out _ | refine IsS95.far ?_ NB1149_1146.out _ | refine IsS95.far ?_ NB1149_1154.out _ | refine IsS95.far ?_ NB1149_1158.out _ | refine IsS95.far ?_ NB1149_1163.out _ | refine IsS95.far ?_ NB1149_1167.out _) | exact (Q_HI1149_e13 h0_ h1_))) hb))
          clear BK1143
          clear BK1144
          clear BK1145
          clear BK1146
          clear BK1154
          clear BK1158
          clear BK1163
          clear BK1167
          clear HB
          have HO1181 := n0_
          have BK1143 := n1_
          have BK1144 := n2_
          have BK1145 := n3_
          have BK1146 := n4_
          have BK1154 := n5_
          have BK1158 := n6_
          have BK1163 := n7_
          have BK1167 := n8_
          have HB := n10_
          clear n0_ n1_ n2_ n3_ n4_ n5_ n6_ n7_ n8_ n10_
          clear hb ho61
          refine hK.out _ _ ⟨v1173, v1180, (by rw [ha.out]; exact putSel_upk 9 hb_ rfl rfl rfl), (qB BK1143), (qB BK1144), (qB BK1145), (qB BK1146), (qB BK1154), (qB BK1158), (qB BK1163), fun _ => (qB BK1167), z_HI1149, (qL HB), z_HI1149_e3, z_HO1174, z_HI1149_e6, z_HI1149_e13, fun _ => (by (with_reducible repeat (first | apply Kd.R_alloc | apply Kd.R_drewN | apply Kd.R_drew)); exact HO1181.out), fun h0_ => absurd ((hoff 16 (by kernel_rfl)).symm.trans h0_) (by decide), fun h0_ => absurd ((hoff 21 (by kernel_rfl)).symm.trans h0_) (by decide)⟩
        refine steps_cons ?_ ?_
        · rintro b a w' ⟨v1173, v1180, ha, Q_BK1143, Q_BK1144, Q_BK1145, Q_BK1146, Q_BK1154, Q_BK1158, Q_BK1163, Q_BK1167, Q_HI1149, Q_HB, Q_HI1149_e3, Q_HO1174, Q_HI1149_e6, Q_HI1149_e13, Q_HO1181, Q_HI1149_e16, Q_BK1167_e21⟩ hb_ hon hoff
          refine ⟨_, rfl, fun K hK => ?_⟩
          have e40 : a.tmps[40]? = some (.pointer (some ⟨g1149, 0, none⟩)) := by rw [ha]; exact (putSel_off rfl).trans rfl
          have e41 : a.tmps[41]? = some (v1180) := by rw [ha]; exact putSel_on (e := (15, 41, v1180)) 9 rfl rfl (hon 15 (by kernel_rfl)) rfl
          replace ha := az ha
          have BK1143 := az Q_BK1143
          have BK1144 := az Q_BK1144
          have BK1145 := az Q_BK1145
          have BK1146 := az Q_BK1146
          have BK1154 := az Q_BK1154
          have BK1158 := az Q_BK1158
          have BK1163 := az Q_BK1163
          have BK1167 := az (Q_BK1167 (hoff 21 (by kernel_rfl)))
          have HB := az Q_HB
          have HO1174 := az (Q_HO1174 (hon 5 (by kernel_rfl)))
          have HI1149 := az (Q_HI1149_e13 (hon 13 (by kernel_rfl)) hb_)
          have HO1181 := az (Q_HO1181 (hon 15 (by kernel_rfl)))
          obtain ⟨Ao69, co69, eo69⟩ := Kd.R_slice HO1181.out
          (first | subst eo69 | (injection eo69 with f1_ f2_ f3_; have f4_ := f1_.symm; have f5_ := f3_.symm; clear f1_ f2_ f3_; subst f4_; subst f5_))
          refine goes_ Try.func63 (by kernel_rfl) rfl #[.pointer (some ⟨g1149, 0, none⟩), .slice Ao69 y1179.length co69] (by rfl) rfl rfl (by first | (simp only [List.map_toArray, List.map_cons, List.map_nil, Act.eval, Array.getD_eq_getD_getElem?, Option.getD_some, e40, e41]; done) | (simp only [List.map_toArray, List.map_cons, List.map_nil, Act.eval, Array.getD_eq_getD_getElem?, Option.getD_some, e40, e41]; rfl)) ?_
          with_reducible refine (spec_l1Rd_one.calls kj7 g1149 t1147 t1178 _ _ y1179 t1182 t1183 w _ ?side1 ?side2 ?side3 ?side4 ?side5 A58.out).mono ?_
          (case side1 => exact qI HI1149)
          (case side2 => exact qL HB)
          (case side3 => repeat (first | exact (Kd.R_reads' HO1181.out).2.2 | (with_reducible refine Kd.C_alloc ?_ _) | (with_reducible refine Kd.C_drewN ?_ _) | (with_reducible refine Kd.C_drew ?_)))
          (case side4 => exact (Kd.R_reads' HO1181.out).2.1)
          (case side5 => exact far_slice (IsS95.own_ne HI1149.out HO1181.out (by decide)))
          rintro e w70 ⟨rfl, hi, hb, hk⟩
          refine ⟨_, rfl, ?_⟩
          replace BK1143 := kKB BK1143 hk NB1143_1149
          replace BK1144 := kKB BK1144 hk NB1144_1149
          replace BK1145 := kKB BK1145 hk NB1145_1149
          replace BK1146 := kKB BK1146 hk NB1146_1149
          replace BK1154 := kKB BK1154 hk NB1154_1149
          replace BK1158 := kKB BK1158 hk NB1158_1149
          replace BK1163 := kKB BK1163 hk NB1163_1149
          replace BK1167 := kKB BK1167 hk NB1167_1149
          replace HO1174 := az (Kd.R_mono (Kd.R_keep (IsS95.apart (show IsS95 w _ g1149 t1147 t1178 from qI HI1149) (by (with_reducible repeat (first | apply Kd.R_alloc | apply Kd.R_drewN | apply Kd.R_drew)); exact HO1174.out) (by decide)) hk (fun _ h => h.2)) (fun _ h => h.1))
          replace HO1181 := az (Kd.R_mono (Kd.R_keep (IsS95.apart (show IsS95 w _ g1149 t1147 t1178 from qI HI1149) (by (with_reducible repeat (first | apply Kd.R_alloc | apply Kd.R_drewN | apply Kd.R_drew)); exact HO1181.out) (by decide)) hk (fun _ h => h.2)) (fun _ h => h.1))
          replace HB := az hb
          replace HI1149 := az hi
          clear hb hk hi
          refine hK.out _ _ ⟨v1173, .slice Ao69 y1179.length co69, (by rw [ha.out]; exact putSel_upk 10 hb_ rfl rfl rfl), (qB BK1143), (qB BK1144), (qB BK1145), (qB BK1146), (qB BK1154), (qB BK1158), (qB BK1163), fun _ => (qB BK1167), fun h0_ => absurd ((hon 3 (by kernel_rfl)).symm.trans h0_) (by decide), (qL HB), fun _ h1_ => absurd ((hon 6 (by kernel_rfl)).symm.trans h1_) (by decide), fun _ => (by (with_reducible repeat (first | apply Kd.R_alloc | apply Kd.R_drewN | apply Kd.R_drew)); exact HO1174.out), fun _ h1_ => absurd ((hon 13 (by kernel_rfl)).symm.trans h1_) (by decide), fun _ h1_ => absurd ((up_self b 16).symm.trans h1_) (by decide), fun _ => (by (with_reducible repeat (first | apply Kd.R_alloc | apply Kd.R_drewN | apply Kd.R_drew)); exact HO1181.out), fun _ => (qI HI1149), fun h0_ => absurd ((hoff 21 (by kernel_rfl)).symm.trans h0_) (by decide)⟩
        refine steps_cons ?_ ?_
        · rintro b a w' ⟨v1173, v1180, ha, Q_BK1143, Q_BK1144, Q_BK1145, Q_BK1146, Q_BK1154, Q_BK1158, Q_BK1163, Q_BK1167, Q_HI1149, Q_HB, Q_HI1149_e3, Q_HO1174, Q_HI1149_e6, Q_HI1149_e13, Q_HO1181, Q_HI1149_e16, Q_BK1167_e21⟩ hb_ hon hoff
          refine ⟨_, rfl, fun K hK => ?_⟩
          have e39 : a.tmps[39]? = some (.int .i64 t1177) := by rw [ha]; exact putSel_on (e := (13, 39, .int .i64 t1177)) 8 rfl rfl (hon 13 (by kernel_rfl)) rfl
          have e42 : a.tmps[42]? = some (.int .i64 t1182) := by rw [ha]; exact putSel_on (e := (16, 42, .int .i64 t1182)) 10 rfl rfl (hon 16 (by kernel_rfl)) rfl
          replace ha := az ha
          have BK1143 := az Q_BK1143
          have BK1144 := az Q_BK1144
          have BK1145 := az Q_BK1145
          have BK1146 := az Q_BK1146
          have BK1154 := az Q_BK1154
          have BK1158 := az Q_BK1158
          have BK1163 := az Q_BK1163
          have BK1167 := az (Q_BK1167 (hoff 21 (by kernel_rfl)))
          have HB := az Q_HB
          have HO1174 := az (Q_HO1174 (hon 5 (by kernel_rfl)))
          have HO1181 := az (Q_HO1181 (hon 15 (by kernel_rfl)))
          have HI1149 := az (Q_HI1149_e16 (hon 16 (by kernel_rfl)))
          refine value_ (w1 := w') (v := .int .i64 (wrap64 (t1177 * t1182))) (by rfl) rfl ?_ ?_
          · go_simp
            (try simp only [i64_w])
            try rfl
          refine hK.out _ _ ⟨v1173, v1180, (by rw [ha.out]; exact putSel_upk 11 hb_ rfl rfl rfl), Q_BK1143, Q_BK1144, Q_BK1145, Q_BK1146, Q_BK1154, Q_BK1158, Q_BK1163, Q_BK1167, fun h0_ => absurd ((hon 3 (by kernel_rfl)).symm.trans h0_) (by decide), Q_HB, fun _ h1_ => absurd ((hon 6 (by kernel_rfl)).symm.trans h1_) (by decide), Q_HO1174, fun _ h1_ => absurd ((hon 13 (by kernel_rfl)).symm.trans h1_) (by decide), fun _ h1_ => absurd ((hon 16 (by kernel_rfl)).symm.trans h1_) (by decide), Q_HO1181, Q_HI1149_e16, fun h0_ => absurd ((hoff 21 (by kernel_rfl)).symm.trans h0_) (by decide)⟩
        refine steps_cons ?_ ?_
        · rintro b a w' ⟨v1173, v1180, ha, Q_BK1143, Q_BK1144, Q_BK1145, Q_BK1146, Q_BK1154, Q_BK1158, Q_BK1163, Q_BK1167, Q_HI1149, Q_HB, Q_HI1149_e3, Q_HO1174, Q_HI1149_e6, Q_HI1149_e13, Q_HO1181, Q_HI1149_e16, Q_BK1167_e21⟩ hb_ hon hoff
          refine ⟨_, rfl, fun K hK => ?_⟩
          have e37 : a.tmps[37]? = some (.int .i64 t1156) := by rw [ha]; exact putSel_on (e := (11, 37, .int .i64 t1156)) 7 rfl rfl (hon 11 (by kernel_rfl)) rfl
          have e43 : a.tmps[43]? = some (.int .i64 (wrap64 (t1177 * t1182))) := by rw [ha]; exact putSel_on (e := (17, 43, .int .i64 (wrap64 (t1177 * t1182)))) 11 rfl rfl (hon 17 (by kernel_rfl)) rfl
          replace ha := az ha
          have BK1143 := az Q_BK1143
          have BK1144 := az Q_BK1144
          have BK1145 := az Q_BK1145
          have BK1146 := az Q_BK1146
          have BK1154 := az Q_BK1154
          have BK1158 := az Q_BK1158
          have BK1163 := az Q_BK1163
          have BK1167 := az (Q_BK1167 (hoff 21 (by kernel_rfl)))
          have HB := az Q_HB
          have HO1174 := az (Q_HO1174 (hon 5 (by kernel_rfl)))
          have HO1181 := az (Q_HO1181 (hon 15 (by kernel_rfl)))
          have HI1149 := az (Q_HI1149_e16 (hon 16 (by kernel_rfl)))
          refine value_ (w1 := w') (v := .int .i64 (wrap64 (t1156 + (wrap64 (t1177 * t1182))))) (by rfl) rfl ?_ ?_
          · go_simp
            (try simp only [i64_w])
            try rfl
          refine hK.out _ _ ⟨v1173, v1180, (by rw [ha.out]; exact putSel_upk 12 hb_ rfl rfl rfl), Q_BK1143, Q_BK1144, Q_BK1145, Q_BK1146, Q_BK1154, Q_BK1158, Q_BK1163, Q_BK1167, fun h0_ => absurd ((hon 3 (by kernel_rfl)).symm.trans h0_) (by decide), Q_HB, fun _ h1_ => absurd ((hon 6 (by kernel_rfl)).symm.trans h1_) (by decide), Q_HO1174, fun _ h1_ => absurd ((hon 13 (by kernel_rfl)).symm.trans h1_) (by decide), fun _ h1_ => absurd ((hon 16 (by kernel_rfl)).symm.trans h1_) (by decide), Q_HO1181, Q_HI1149_e16, fun h0_ => absurd ((hoff 21 (by kernel_rfl)).symm.trans h0_) (by decide)⟩
        refine steps_cons ?_ ?_
        · rintro b a w' ⟨v1173, v1180, ha, Q_BK1143, Q_BK1144, Q_BK1145, Q_BK1146, Q_BK1154, Q_BK1158, Q_BK1163, Q_BK1167, Q_HI1149, Q_HB, Q_HI1149_e3, Q_HO1174, Q_HI1149_e6, Q_HI1149_e13, Q_HO1181, Q_HI1149_e16, Q_BK1167_e21⟩ hb_ hon hoff
          refine ⟨_, rfl, fun K hK => ?_⟩
          have e44 : a.tmps[44]? = some (.int .i64 (wrap64 (t1156 + (wrap64 (t1177 * t1182))))) := by rw [ha]; exact putSel_on (e := (18, 44, .int .i64 (wrap64 (t1156 + (wrap64 (t1177 * t1182)))))) 12 rfl rfl (hon 18 (by kernel_rfl)) rfl
          replace ha := az ha
          have BK1143 := az Q_BK1143
          have BK1144 := az Q_BK1144
          have BK1145 := az Q_BK1145
          have BK1146 := az Q_BK1146
          have BK1154 := az Q_BK1154
          have BK1158 := az Q_BK1158
          have BK1163 := az Q_BK1163
          have BK1167 := az (Q_BK1167 (hoff 21 (by kernel_rfl)))
          have HB := az Q_HB
          have HO1174 := az (Q_HO1174 (hon 5 (by kernel_rfl)))
          have HO1181 := az (Q_HO1181 (hon 15 (by kernel_rfl)))
          have HI1149 := az (Q_HI1149_e16 (hon 16 (by kernel_rfl)))
          refine value_ (w1 := w') (v := .int .i64 (wrap64 ((wrap64 (t1156 + (wrap64 (t1177 * t1182)))) - 256))) (by rfl) rfl ?_ ?_
          · go_simp
            (try simp only [i64_w])
            try rfl
          refine hK.out _ _ ⟨v1173, v1180, (by rw [ha.out]; exact putSel_upk 13 hb_ rfl rfl rfl), Q_BK1143, Q_BK1144, Q_BK1145, Q_BK1146, Q_BK1154, Q_BK1158, Q_BK1163, Q_BK1167, fun h0_ => absurd ((hon 3 (by kernel_rfl)).symm.trans h0_) (by decide), Q_HB, fun _ h1_ => absurd ((hon 6 (by kernel_rfl)).symm.trans h1_) (by decide), Q_HO1174, fun _ h1_ => absurd ((hon 13 (by kernel_rfl)).symm.trans h1_) (by decide), fun _ h1_ => absurd ((hon 16 (by kernel_rfl)).symm.trans h1_) (by decide), Q_HO1181, Q_HI1149_e16, fun h0_ => absurd ((hoff 21 (by kernel_rfl)).symm.trans h0_) (by decide)⟩
        refine steps_cons ?_ ?_
        · rintro b a w' ⟨v1173, v1180, ha, Q_BK1143, Q_BK1144, Q_BK1145, Q_BK1146, Q_BK1154, Q_BK1158, Q_BK1163, Q_BK1167, Q_HI1149, Q_HB, Q_HI1149_e3, Q_HO1174, Q_HI1149_e6, Q_HI1149_e13, Q_HO1181, Q_HI1149_e16, Q_BK1167_e21⟩ hb_ hon hoff
          refine ⟨_, rfl, fun K hK => ?_⟩
          have e35 : a.tmps[35]? = some (.int .i64 (wrap64 ((wrap64 (t1155 + (wrap64 (t1170 * t1175)))) - 256))) := by rw [ha]; exact putSel_on (e := (9, 35, .int .i64 (wrap64 ((wrap64 (t1155 + (wrap64 (t1170 * t1175)))) - 256)))) 6 rfl rfl (hon 9 (by kernel_rfl)) rfl
          have e45 : a.tmps[45]? = some (.int .i64 (wrap64 ((wrap64 (t1156 + (wrap64 (t1177 * t1182)))) - 256))) := by rw [ha]; exact putSel_on (e := (19, 45, .int .i64 (wrap64 ((wrap64 (t1156 + (wrap64 (t1177 * t1182)))) - 256)))) 13 rfl rfl (hon 19 (by kernel_rfl)) rfl
          replace ha := az ha
          have BK1143 := az Q_BK1143
          have BK1144 := az Q_BK1144
          have BK1145 := az Q_BK1145
          have BK1146 := az Q_BK1146
          have BK1154 := az Q_BK1154
          have BK1158 := az Q_BK1158
          have BK1163 := az Q_BK1163
          have BK1167 := az (Q_BK1167 (hoff 21 (by kernel_rfl)))
          have HB := az Q_HB
          have HO1174 := az (Q_HO1174 (hon 5 (by kernel_rfl)))
          have HO1181 := az (Q_HO1181 (hon 15 (by kernel_rfl)))
          have HI1149 := az (Q_HI1149_e16 (hon 16 (by kernel_rfl)))
          refine value_ (w1 := w') (v := .agg #[.int .i64 (wrap64 ((wrap64 (t1155 + (wrap64 (t1170 * t1175)))) - 256)), .int .i64 (wrap64 ((wrap64 (t1156 + (wrap64 (t1177 * t1182)))) - 256))]) (by rfl) rfl ?_ ?_
          · go_simp
            (try simp only [i64_w])
            try rfl
          refine hK.out _ _ ⟨v1173, v1180, (by rw [ha.out]; exact putSel_upk 14 hb_ rfl rfl rfl), Q_BK1143, Q_BK1144, Q_BK1145, Q_BK1146, Q_BK1154, Q_BK1158, Q_BK1163, Q_BK1167, fun h0_ => absurd ((hon 3 (by kernel_rfl)).symm.trans h0_) (by decide), Q_HB, fun _ h1_ => absurd ((hon 6 (by kernel_rfl)).symm.trans h1_) (by decide), Q_HO1174, fun _ h1_ => absurd ((hon 13 (by kernel_rfl)).symm.trans h1_) (by decide), fun _ h1_ => absurd ((hon 16 (by kernel_rfl)).symm.trans h1_) (by decide), Q_HO1181, Q_HI1149_e16, fun h0_ => absurd ((hoff 21 (by kernel_rfl)).symm.trans h0_) (by decide)⟩
        refine steps_cons ?_ ?_
        · rintro b a w' ⟨v1173, v1180, ha, Q_BK1143, Q_BK1144, Q_BK1145, Q_BK1146, Q_BK1154, Q_BK1158, Q_BK1163, Q_BK1167, Q_HI1149, Q_HB, Q_HI1149_e3, Q_HO1174, Q_HI1149_e6, Q_HI1149_e13, Q_HO1181, Q_HI1149_e16, Q_BK1167_e21⟩ hb_ hon hoff
          refine ⟨_, rfl, fun K hK => ?_⟩
          have e10 : a.tmps[10]? = some (.pointer (some ⟨gb1167, 0, none⟩)) := by rw [ha]; exact (putSel_off rfl).trans rfl
          have e46 : a.tmps[46]? = some (.agg #[.int .i64 (wrap64 ((wrap64 (t1155 + (wrap64 (t1170 * t1175)))) - 256)), .int .i64 (wrap64 ((wrap64 (t1156 + (wrap64 (t1177 * t1182)))) - 256))]) := by rw [ha]; exact putSel_on (e := (20, 46, .agg #[.int .i64 (wrap64 ((wrap64 (t1155 + (wrap64 (t1170 * t1175)))) - 256)), .int .i64 (wrap64 ((wrap64 (t1156 + (wrap64 (t1177 * t1182)))) - 256))])) 14 rfl rfl (hon 20 (by kernel_rfl)) rfl
          replace ha := az ha
          have BK1143 := az Q_BK1143
          have BK1144 := az Q_BK1144
          have BK1145 := az Q_BK1145
          have BK1146 := az Q_BK1146
          have BK1154 := az Q_BK1154
          have BK1158 := az Q_BK1158
          have BK1163 := az Q_BK1163
          have BK1167 := az (Q_BK1167 hb_)
          have HB := az Q_HB
          have HO1174 := az (Q_HO1174 (hon 5 (by kernel_rfl)))
          have HO1181 := az (Q_HO1181 (hon 15 (by kernel_rfl)))
          have HI1149 := az (Q_HI1149_e16 (hon 16 (by kernel_rfl)))
          have hs71 : w'.cell? ⟨gb1167, 0, none⟩ = some (.int .i64 t1164) := bc BK1167 0
          have hfs71 := blk_frozen BK1167.out 0
          have hns71_0 := NB1143_1167.out
          have hns71_1 := NB1144_1167.out
          have hns71_2 := NB1145_1167.out
          have hns71_3 := NB1146_1167.out
          have hns71_4 := NB1154_1167.out
          have hns71_5 := NB1158_1167.out
          have hns71_6 := NB1163_1167.out
          have hms71_0 := NB1167_1143.out
          have hms71_1 := NB1167_1144.out
          have hms71_2 := NB1167_1145.out
          have hms71_3 := NB1167_1146.out
          have hms71_4 := NB1167_1154.out
          have hms71_5 := NB1167_1158.out
          have hms71_6 := NB1167_1163.out
          have hs72 : w'.cell? ⟨gb1167, 1, none⟩ = some (.int .i64 t1165) := bc BK1167 1
          have hfs72 := blk_frozen BK1167.out 1
          have hns72_0 := NB1143_1167.out
          have hns72_1 := NB1144_1167.out
          have hns72_2 := NB1145_1167.out
          have hns72_3 := NB1146_1167.out
          have hns72_4 := NB1154_1167.out
          have hns72_5 := NB1158_1167.out
          have hns72_6 := NB1163_1167.out
          have hms72_0 := NB1167_1143.out
          have hms72_1 := NB1167_1144.out
          have hms72_2 := NB1167_1145.out
          have hms72_3 := NB1167_1146.out
          have hms72_4 := NB1167_1154.out
          have hms72_5 := NB1167_1158.out
          have hms72_6 := NB1167_1163.out
          refine skip_ (w1 := ?_) ?hw ?hn ?_ ?_; (case hw => unfold Region.wanted; rfl); (case hn => rfl)
          rotate_left
          · go_simp
            rfl
          refine hK.out _ _ ⟨v1173, v1180, (by rw [ha.out]; exact putSel_none (v := undef) rfl), (qF BK1143), (qF BK1144), (qF BK1145), (qF BK1146), (qF BK1154), (qF BK1158), (qF BK1163), fun h0_ => absurd ((up_self b 21).symm.trans h0_) (by decide), fun h0_ => absurd ((hon 3 (by kernel_rfl)).symm.trans h0_) (by decide), (qL HB), fun _ h1_ => absurd ((hon 6 (by kernel_rfl)).symm.trans h1_) (by decide), fun _ => (by (with_reducible repeat (first | apply Kd.R_alloc | apply Kd.R_drewN | apply Kd.R_drew)); exact Kd.R_mono (Kd.R_far (p := ⟨gb1167, 1, none⟩) (Kd.R_far (p := ⟨gb1167, 0, none⟩) (Kd.R_types HO1174.out BK1167.out (by decide)) (fun _ hk => hk.2) (.int .i64 (wrap64 ((wrap64 (t1155 + (wrap64 (t1170 * t1175)))) - 256)))) (fun _ hk => hk.2) (.int .i64 (wrap64 ((wrap64 (t1156 + (wrap64 (t1177 * t1182)))) - 256)))) (fun _ hk => hk.1)), fun _ h1_ => absurd ((hon 13 (by kernel_rfl)).symm.trans h1_) (by decide), fun _ h1_ => absurd ((hon 16 (by kernel_rfl)).symm.trans h1_) (by decide), fun _ => (by (with_reducible repeat (first | apply Kd.R_alloc | apply Kd.R_drewN | apply Kd.R_drew)); exact Kd.R_mono (Kd.R_far (p := ⟨gb1167, 1, none⟩) (Kd.R_far (p := ⟨gb1167, 0, none⟩) (Kd.R_types HO1181.out BK1167.out (by decide)) (fun _ hk => hk.2) (.int .i64 (wrap64 ((wrap64 (t1155 + (wrap64 (t1170 * t1175)))) - 256)))) (fun _ hk => hk.2) (.int .i64 (wrap64 ((wrap64 (t1156 + (wrap64 (t1177 * t1182)))) - 256)))) (fun _ hk => hk.1)), fun _ => (qI HI1149), fun _ => (qP BK1167)⟩
        exact steps_nil
      rintro b a w72 hall ⟨v1173, v1180, ha, Q_BK1143, Q_BK1144, Q_BK1145, Q_BK1146, Q_BK1154, Q_BK1158, Q_BK1163, Q_BK1167, Q_HI1149, Q_HB, Q_HI1149_e3, Q_HO1174, Q_HI1149_e6, Q_HI1149_e13, Q_HO1181, Q_HI1149_e16, Q_BK1167_e21⟩
      clear BK1143 BK1144 BK1145 BK1146 BK1154 BK1158 BK1163 BK1167 HB HI1149
      have hb1_ := hall 1 (by kernel_rfl)
      have hb3_ := hall 3 (by kernel_rfl)
      have hb5_ := hall 5 (by kernel_rfl)
      have hb6_ := hall 6 (by kernel_rfl)
      have hb7_ := hall 7 (by kernel_rfl)
      have hb8_ := hall 8 (by kernel_rfl)
      have hb9_ := hall 9 (by kernel_rfl)
      have hb11_ := hall 11 (by kernel_rfl)
      have hb13_ := hall 13 (by kernel_rfl)
      have hb15_ := hall 15 (by kernel_rfl)
      have hb16_ := hall 16 (by kernel_rfl)
      have hb17_ := hall 17 (by kernel_rfl)
      have hb18_ := hall 18 (by kernel_rfl)
      have hb19_ := hall 19 (by kernel_rfl)
      have hb20_ := hall 20 (by kernel_rfl)
      have hb21_ := hall 21 (by kernel_rfl)
      subst ha
      simp only [putSel, hb1_, hb3_, hb5_, hb6_, hb7_, hb8_, hb9_, hb11_, hb13_, hb15_, hb16_, hb17_, hb18_, hb19_, hb20_, hb21_, if_true, Act.put, List.setIfInBounds_toArray, List.set_cons_zero, List.set_cons_succ]
      have BK1143 := az Q_BK1143
      clear Q_BK1143
      have BK1144 := az Q_BK1144
      clear Q_BK1144
      have BK1145 := az Q_BK1145
      clear Q_BK1145
      have BK1146 := az Q_BK1146
      clear Q_BK1146
      have BK1154 := az Q_BK1154
      clear Q_BK1154
      have BK1158 := az Q_BK1158
      clear Q_BK1158
      have BK1163 := az Q_BK1163
      clear Q_BK1163
      clear Q_BK1167
      clear Q_HI1149
      have HB := az Q_HB
      clear Q_HB
      clear Q_HI1149_e3
      have HO1174 := az (Q_HO1174 hb5_)
      clear Q_HO1174
      clear Q_HI1149_e6
      clear Q_HI1149_e13
      have HO1181 := az (Q_HO1181 hb15_)
      clear Q_HO1181
      have HI1149 := az (Q_HI1149_e16 hb16_)
      clear Q_HI1149_e16
      have BK1167 := az (Q_BK1167_e21 hb21_)
      clear Q_BK1167_e21
      clear hall hb1_ hb3_ hb5_ hb6_ hb7_ hb8_ hb9_ hb11_ hb13_ hb15_ hb16_ hb17_ hb18_ hb19_ hb20_ hb21_
      try go_wp2
      replace HO1174 := az (Kd.R_drew HO1174.out)
      replace HO1181 := az (Kd.R_drew HO1181.out)
      replace BK1143 := az (blk_drew BK1143.out)
      replace BK1144 := az (blk_drew BK1144.out)
      replace BK1145 := az (blk_drew BK1145.out)
      replace BK1146 := az (blk_drew BK1146.out)
      replace BK1154 := az (blk_drew BK1154.out)
      replace BK1158 := az (blk_drew BK1158.out)
      replace BK1163 := az (blk_drew BK1163.out)
      replace BK1167 := az (blk_drew BK1167.out)
      replace HI1149 := az (IsS95.drew HI1149.out)
      replace HB := az (below_drew1 HB.out)
      refine start_ (n := 8) (S := fun w' => w'.cell? ⟨gb1154, 0, none⟩ = some (.int .i64 t1150) ∧ w'.cell? ⟨gb1154, 1, none⟩ = some (.int .i64 t1151) ∧ w'.cell? ⟨gb1154, 2, none⟩ = some (.int .i64 t1152) ∧ w'.cell? ⟨gb1158, 0, none⟩ = some (.int .i64 t1155) ∧ w'.cell? ⟨gb1158, 1, none⟩ = some (.int .i64 t1156) ∧ w'.cell? ⟨gb1163, 0, none⟩ = some (.int .i64 t1159) ∧ w'.cell? ⟨gb1163, 1, none⟩ = some (.int .i64 t1160) ∧ w'.cell? ⟨gb1163, 2, none⟩ = some (.int .i64 t1161) ∧ w'.cell? ⟨gb1167, 0, none⟩ = some (.int .i64 (wrap64 ((wrap64 (t1155 + (wrap64 (t1170 * t1175)))) - 256))) ∧ w'.cell? ⟨gb1167, 1, none⟩ = some (.int .i64 (wrap64 ((wrap64 (t1156 + (wrap64 (t1177 * t1182)))) - 256)))) (ds := []) #[false, false, false, false, false, false, false, false] (by kernel_rfl) rfl rfl ⟨bc BK1154 0, bc BK1154 1, bc BK1154 2, bc BK1158 0, bc BK1158 1, bc BK1163 0, bc BK1163 1, bc BK1163 2, bc BK1167 0, bc BK1167 1⟩ (fun hHeld => ?_); refine with_tabW spec_DrawTouch.tab12 spec_DrawTouch.bits12 (fun HT_ HW_ => ?_)
      generalize w72.drew = w73 at HO1174 HO1181 BK1143 BK1144 BK1145 BK1146 BK1154 BK1158 BK1163 BK1167 HI1149 HB hHeld ⊢
      refine tk10 0 (some 68) (fl 8 1) HT_ HW_ hHeld ?_
      refine tk10 1 (some 69) (fl 8 3) HT_ HW_ hHeld ?_
      refine tk10 2 (some 70) (fl 8 7) HT_ HW_ hHeld ?_
      refine tk10 3 (some 71) (fl 8 15) HT_ HW_ hHeld ?_
      refine on 4 (none) (fl 8 31) HT_ (fun K hK => ?_)
      have hs74 : w73.cell? ⟨gb1143, 0, none⟩ = some (.int .i64 0) := bc BK1143 0
      have hfs74 := blk_frozen BK1143.out 0
      have hns74_1 := NB1144_1143.out
      have hns74_2 := NB1145_1143.out
      have hns74_3 := NB1146_1143.out
      have hns74_4 := NB1154_1143.out
      have hns74_5 := NB1158_1143.out
      have hns74_6 := NB1163_1143.out
      have hns74_7 := NB1167_1143.out
      have hms74_1 := NB1143_1144.out
      have hms74_2 := NB1143_1145.out
      have hms74_3 := NB1143_1146.out
      have hms74_4 := NB1143_1154.out
      have hms74_5 := NB1143_1158.out
      have hms74_6 := NB1143_1163.out
      have hms74_7 := NB1143_1167.out
      have hs75 : w73.cell? ⟨gb1143, 1, none⟩ = some (.int .i64 0) := bc BK1143 1
      have hfs75 := blk_frozen BK1143.out 1
      have hns75_1 := NB1144_1143.out
      have hns75_2 := NB1145_1143.out
      have hns75_3 := NB1146_1143.out
      have hns75_4 := NB1154_1143.out
      have hns75_5 := NB1158_1143.out
      have hns75_6 := NB1163_1143.out
      have hns75_7 := NB1167_1143.out
      have hms75_1 := NB1143_1144.out
      have hms75_2 := NB1143_1145.out
      have hms75_3 := NB1143_1146.out
      have hms75_4 := NB1143_1154.out
      have hms75_5 := NB1143_1158.out
      have hms75_6 := NB1143_1163.out
      have hms75_7 := NB1143_1167.out
      have hs76 : w73.cell? ⟨gb1143, 2, none⟩ = some (.int .i64 0) := bc BK1143 2
      have hfs76 := blk_frozen BK1143.out 2
      have hns76_1 := NB1144_1143.out
      have hns76_2 := NB1145_1143.out
      have hns76_3 := NB1146_1143.out
      have hns76_4 := NB1154_1143.out
      have hns76_5 := NB1158_1143.out
      have hns76_6 := NB1163_1143.out
      have hns76_7 := NB1167_1143.out
      have hms76_1 := NB1143_1144.out
      have hms76_2 := NB1143_1145.out
      have hms76_3 := NB1143_1146.out
      have hms76_4 := NB1143_1154.out
      have hms76_5 := NB1143_1158.out
      have hms76_6 := NB1143_1163.out
      have hms76_7 := NB1143_1167.out
      refine skip_ (w1 := ?_) ?hw ?hn ?_ ?_; (case hw => unfold Region.wanted; rfl); (case hn => rfl)
      rotate_left
      · go_simp
        rfl
      refine hK.out _ _ ⟨(cf NB1154_1143 ((cf NB1154_1143 ((cf NB1154_1143 (hHeld.1)))))), (cf NB1154_1143 ((cf NB1154_1143 ((cf NB1154_1143 (hHeld.2.1)))))), (cf NB1154_1143 ((cf NB1154_1143 ((cf NB1154_1143 (hHeld.2.2.1)))))), (cf NB1158_1143 ((cf NB1158_1143 ((cf NB1158_1143 (hHeld.2.2.2.1)))))), (cf NB1158_1143 ((cf NB1158_1143 ((cf NB1158_1143 (hHeld.2.2.2.2.1)))))), (cf NB1163_1143 ((cf NB1163_1143 ((cf NB1163_1143 (hHeld.2.2.2.2.2.1)))))), (cf NB1163_1143 ((cf NB1163_1143 ((cf NB1163_1143 (hHeld.2.2.2.2.2.2.1)))))), (cf NB1163_1143 ((cf NB1163_1143 ((cf NB1163_1143 (hHeld.2.2.2.2.2.2.2.1)))))), (cf NB1167_1143 ((cf NB1167_1143 ((cf NB1167_1143 (hHeld.2.2.2.2.2.2.2.2.1)))))), (cf NB1167_1143 ((cf NB1167_1143 ((cf NB1167_1143 (hHeld.2.2.2.2.2.2.2.2.2))))))⟩ (fun hHeld => ?_)
      clear hK K
      refine on 5 (none) (fl 8 63) HT_ (fun K hK => ?_)
      have hs77 : w73.cell? ⟨gb1144, 0, none⟩ = some (.int .i64 0) := bc BK1144 0
      have hfs77 := blk_frozen BK1144.out 0
      have hns77_0 := NB1143_1144.out
      have hns77_2 := NB1145_1144.out
      have hns77_3 := NB1146_1144.out
      have hns77_4 := NB1154_1144.out
      have hns77_5 := NB1158_1144.out
      have hns77_6 := NB1163_1144.out
      have hns77_7 := NB1167_1144.out
      have hms77_0 := NB1144_1143.out
      have hms77_2 := NB1144_1145.out
      have hms77_3 := NB1144_1146.out
      have hms77_4 := NB1144_1154.out
      have hms77_5 := NB1144_1158.out
      have hms77_6 := NB1144_1163.out
      have hms77_7 := NB1144_1167.out
      have hs78 : w73.cell? ⟨gb1144, 1, none⟩ = some (.int .i64 0) := bc BK1144 1
      have hfs78 := blk_frozen BK1144.out 1
      have hns78_0 := NB1143_1144.out
      have hns78_2 := NB1145_1144.out
      have hns78_3 := NB1146_1144.out
      have hns78_4 := NB1154_1144.out
      have hns78_5 := NB1158_1144.out
      have hns78_6 := NB1163_1144.out
      have hns78_7 := NB1167_1144.out
      have hms78_0 := NB1144_1143.out
      have hms78_2 := NB1144_1145.out
      have hms78_3 := NB1144_1146.out
      have hms78_4 := NB1144_1154.out
      have hms78_5 := NB1144_1158.out
      have hms78_6 := NB1144_1163.out
      have hms78_7 := NB1144_1167.out
      refine skip_ (w1 := ?_) ?hw ?hn ?_ ?_; (case hw => unfold Region.wanted; rfl); (case hn => rfl)
      rotate_left
      · go_simp
        rfl
      refine hK.out _ _ ⟨(cf NB1154_1144 ((cf NB1154_1144 (hHeld.1)))), (cf NB1154_1144 ((cf NB1154_1144 (hHeld.2.1)))), (cf NB1154_1144 ((cf NB1154_1144 (hHeld.2.2.1)))), (cf NB1158_1144 ((cf NB1158_1144 (hHeld.2.2.2.1)))), (cf NB1158_1144 ((cf NB1158_1144 (hHeld.2.2.2.2.1)))), (cf NB1163_1144 ((cf NB1163_1144 (hHeld.2.2.2.2.2.1)))), (cf NB1163_1144 ((cf NB1163_1144 (hHeld.2.2.2.2.2.2.1)))), (cf NB1163_1144 ((cf NB1163_1144 (hHeld.2.2.2.2.2.2.2.1)))), (cf NB1167_1144 ((cf NB1167_1144 (hHeld.2.2.2.2.2.2.2.2.1)))), (cf NB1167_1144 ((cf NB1167_1144 (hHeld.2.2.2.2.2.2.2.2.2))))⟩ (fun hHeld => ?_)
      clear hK K
      refine on 6 (none) (fl 8 127) HT_ (fun K hK => ?_)
      have hs79 : w73.cell? ⟨gb1145, 0, none⟩ = some (.int .i64 0) := bc BK1145 0
      have hfs79 := blk_frozen BK1145.out 0
      have hns79_0 := NB1143_1145.out
      have hns79_1 := NB1144_1145.out
      have hns79_3 := NB1146_1145.out
      have hns79_4 := NB1154_1145.out
      have hns79_5 := NB1158_1145.out
      have hns79_6 := NB1163_1145.out
      have hns79_7 := NB1167_1145.out
      have hms79_0 := NB1145_1143.out
      have hms79_1 := NB1145_1144.out
      have hms79_3 := NB1145_1146.out
      have hms79_4 := NB1145_1154.out
      have hms79_5 := NB1145_1158.out
      have hms79_6 := NB1145_1163.out
      have hms79_7 := NB1145_1167.out
      have hs80 : w73.cell? ⟨gb1145, 1, none⟩ = some (.int .i64 0) := bc BK1145 1
      have hfs80 := blk_frozen BK1145.out 1
      have hns80_0 := NB1143_1145.out
      have hns80_1 := NB1144_1145.out
      have hns80_3 := NB1146_1145.out
      have hns80_4 := NB1154_1145.out
      have hns80_5 := NB1158_1145.out
      have hns80_6 := NB1163_1145.out
      have hns80_7 := NB1167_1145.out
      have hms80_0 := NB1145_1143.out
      have hms80_1 := NB1145_1144.out
      have hms80_3 := NB1145_1146.out
      have hms80_4 := NB1145_1154.out
      have hms80_5 := NB1145_1158.out
      have hms80_6 := NB1145_1163.out
      have hms80_7 := NB1145_1167.out
      have hs81 : w73.cell? ⟨gb1145, 2, none⟩ = some (.int .i64 0) := bc BK1145 2
      have hfs81 := blk_frozen BK1145.out 2
      have hns81_0 := NB1143_1145.out
      have hns81_1 := NB1144_1145.out
      have hns81_3 := NB1146_1145.out
      have hns81_4 := NB1154_1145.out
      have hns81_5 := NB1158_1145.out
      have hns81_6 := NB1163_1145.out
      have hns81_7 := NB1167_1145.out
      have hms81_0 := NB1145_1143.out
      have hms81_1 := NB1145_1144.out
      have hms81_3 := NB1145_1146.out
      have hms81_4 := NB1145_1154.out
      have hms81_5 := NB1145_1158.out
      have hms81_6 := NB1145_1163.out
      have hms81_7 := NB1145_1167.out
      refine skip_ (w1 := ?_) ?hw ?hn ?_ ?_; (case hw => unfold Region.wanted; rfl); (case hn => rfl)
      rotate_left
      · go_simp
        rfl
      refine hK.out _ _ ⟨(cf NB1154_1145 ((cf NB1154_1145 ((cf NB1154_1145 (hHeld.1)))))), (cf NB1154_1145 ((cf NB1154_1145 ((cf NB1154_1145 (hHeld.2.1)))))), (cf NB1154_1145 ((cf NB1154_1145 ((cf NB1154_1145 (hHeld.2.2.1)))))), (cf NB1158_1145 ((cf NB1158_1145 ((cf NB1158_1145 (hHeld.2.2.2.1)))))), (cf NB1158_1145 ((cf NB1158_1145 ((cf NB1158_1145 (hHeld.2.2.2.2.1)))))), (cf NB1163_1145 ((cf NB1163_1145 ((cf NB1163_1145 (hHeld.2.2.2.2.2.1)))))), (cf NB1163_1145 ((cf NB1163_1145 ((cf NB1163_1145 (hHeld.2.2.2.2.2.2.1)))))), (cf NB1163_1145 ((cf NB1163_1145 ((cf NB1163_1145 (hHeld.2.2.2.2.2.2.2.1)))))), (cf NB1167_1145 ((cf NB1167_1145 ((cf NB1167_1145 (hHeld.2.2.2.2.2.2.2.2.1)))))), (cf NB1167_1145 ((cf NB1167_1145 ((cf NB1167_1145 (hHeld.2.2.2.2.2.2.2.2.2))))))⟩ (fun hHeld => ?_)
      clear hK K
      refine on 7 (none) (fl 8 255) HT_ (fun K hK => ?_)
      have hs82 : w73.cell? ⟨gb1146, 0, none⟩ = some (.int .i64 0) := bc BK1146 0
      have hfs82 := blk_frozen BK1146.out 0
      have hns82_0 := NB1143_1146.out
      have hns82_1 := NB1144_1146.out
      have hns82_2 := NB1145_1146.out
      have hns82_4 := NB1154_1146.out
      have hns82_5 := NB1158_1146.out
      have hns82_6 := NB1163_1146.out
      have hns82_7 := NB1167_1146.out
      have hms82_0 := NB1146_1143.out
      have hms82_1 := NB1146_1144.out
      have hms82_2 := NB1146_1145.out
      have hms82_4 := NB1146_1154.out
      have hms82_5 := NB1146_1158.out
      have hms82_6 := NB1146_1163.out
      have hms82_7 := NB1146_1167.out
      have hs83 : w73.cell? ⟨gb1146, 1, none⟩ = some (.int .i64 0) := bc BK1146 1
      have hfs83 := blk_frozen BK1146.out 1
      have hns83_0 := NB1143_1146.out
      have hns83_1 := NB1144_1146.out
      have hns83_2 := NB1145_1146.out
      have hns83_4 := NB1154_1146.out
      have hns83_5 := NB1158_1146.out
      have hns83_6 := NB1163_1146.out
      have hns83_7 := NB1167_1146.out
      have hms83_0 := NB1146_1143.out
      have hms83_1 := NB1146_1144.out
      have hms83_2 := NB1146_1145.out
      have hms83_4 := NB1146_1154.out
      have hms83_5 := NB1146_1158.out
      have hms83_6 := NB1146_1163.out
      have hms83_7 := NB1146_1167.out
      refine skip_ (w1 := ?_) ?hw ?hn ?_ ?_; (case hw => unfold Region.wanted; rfl); (case hn => rfl)
      rotate_left
      · go_simp
        rfl
      refine hK.out _ _ ⟨(cf NB1154_1146 ((cf NB1154_1146 (hHeld.1)))), (cf NB1154_1146 ((cf NB1154_1146 (hHeld.2.1)))), (cf NB1154_1146 ((cf NB1154_1146 (hHeld.2.2.1)))), (cf NB1158_1146 ((cf NB1158_1146 (hHeld.2.2.2.1)))), (cf NB1158_1146 ((cf NB1158_1146 (hHeld.2.2.2.2.1)))), (cf NB1163_1146 ((cf NB1163_1146 (hHeld.2.2.2.2.2.1)))), (cf NB1163_1146 ((cf NB1163_1146 (hHeld.2.2.2.2.2.2.1)))), (cf NB1163_1146 ((cf NB1163_1146 (hHeld.2.2.2.2.2.2.2.1)))), (cf NB1167_1146 ((cf NB1167_1146 (hHeld.2.2.2.2.2.2.2.2.1)))), (cf NB1167_1146 ((cf NB1167_1146 (hHeld.2.2.2.2.2.2.2.2.2))))⟩ (fun hHeld => ?_)
      clear hK K
      refine done_ (done_of HT_.out (by kernel_rfl)) ?_
      repeat (first | go_values | go_skip | go_guarded | go_step | go_upon | go_back)
      refine bodyPost_ret (results_list (rs := [.cell 2 38, .cell 3 24, .cell 4 38, .cell 5 24]) rfl (by simp) (.cell gb1143 38 #[.int .i64 t1150, .int .i64 t1151, .int .i64 t1152] (0, 0) _ rfl (qP BK1143) Try.underlying38 rfl (by kernel_rfl) (.cell gb1144 24 #[.int .i64 t1155, .int .i64 t1156] (0, 0) _ rfl (qP BK1144) Try.underlying24 rfl (by kernel_rfl) (.cell gb1145 38 #[.int .i64 t1159, .int .i64 t1160, .int .i64 t1161] (0, 0) _ rfl (qP BK1145) Try.underlying38 rfl (by kernel_rfl) (.cell gb1146 24 #[.int .i64 (wrap64 ((wrap64 (t1155 + (wrap64 (t1170 * t1175)))) - 256)), .int .i64 (wrap64 ((wrap64 (t1156 + (wrap64 (t1177 * t1182)))) - 256))] (0, 0) _ rfl (qP BK1146) Try.underlying24 rfl (by kernel_rfl) .nil))))) rfl ?_
      exact ⟨qE, qL HB⟩
    replace c54 := Bool.eq_false_iff.mpr c54
    subst c54
    replace H := qU H
    by_cases c84 : t1168 = 2
    · rw [if_pos c84] at H
      have c84b0 : (t1168 == 2) = true := beq_iff_eq.mpr c84
      have c84b1 : (t1168 != 2) = false := bne_eq_false_iff_eq.mpr c84
      clear c84
      replace H := qH H
      obtain ⟨⟨t1184, t1185⟩, A85, H⟩ := H
      try dsimp only at H
      replace H := qH H
      obtain ⟨⟨t1186, t1187⟩, A86, H⟩ := H
      try dsimp only at H
      simp only [Option.some.injEq, Prod.mk.injEq] at H
      obtain ⟨rfl, rfl, rfl, rfl, rfl, rfl, rfl, rfl, rfl, rfl⟩ := H
      try go_wp2
      replace BK1143 := az (blk_drew BK1143.out)
      replace BK1144 := az (blk_drew BK1144.out)
      replace BK1145 := az (blk_drew BK1145.out)
      replace BK1146 := az (blk_drew BK1146.out)
      replace BK1154 := az (blk_drew BK1154.out)
      replace BK1158 := az (blk_drew BK1158.out)
      replace BK1163 := az (blk_drew BK1163.out)
      replace BK1167 := az (blk_drew BK1167.out)
      replace HI1149 := az (IsS95.drew HI1149.out)
      replace HB := az (below_drew1 HB.out)
      refine start_ (n := 20) (S := fun w' => w'.cell? ⟨gb1158, 0, none⟩ = some (.int .i64 t1155) ∧ w'.cell? ⟨gb1158, 1, none⟩ = some (.int .i64 t1156) ∧ w'.cell? ⟨gb1154, 0, none⟩ = some (.int .i64 t1150) ∧ w'.cell? ⟨gb1154, 1, none⟩ = some (.int .i64 t1151) ∧ w'.cell? ⟨gb1154, 2, none⟩ = some (.int .i64 t1152) ∧ w'.cell? ⟨gb1163, 0, none⟩ = some (.int .i64 t1159) ∧ w'.cell? ⟨gb1163, 1, none⟩ = some (.int .i64 t1160) ∧ w'.cell? ⟨gb1163, 2, none⟩ = some (.int .i64 t1161)) (ds := []) #[false, false, false, false, false, false, false, false, false, false, false, false, false, false, false, false, false, false, false, false] (by kernel_rfl) rfl rfl ⟨bc BK1158 0, bc BK1158 1, bc BK1154 0, bc BK1154 1, bc BK1154 2, bc BK1163 0, bc BK1163 1, bc BK1163 2⟩ (fun hHeld => ?_); refine with_tabW spec_DrawTouch.tab11 spec_DrawTouch.bits11 (fun HT_ HW_ => ?_)
      generalize wc.drew = w87 at BK1143 BK1144 BK1145 BK1146 BK1154 BK1158 BK1163 BK1167 HI1149 HB hHeld ⊢
      refine pu 0 (some 49) (fl 20 1) HT_ ?_
      refine pu 2 (some 51) (fl 20 5) HT_ ?_
      refine pu 5 (some 54) (fl 20 37) HT_ ?_
      refine pu 8 (some 57) (fl 20 293) HT_ ?_
      refine pu 12 (some 61) (fl 20 4389) HT_ ?_
      refine pu 14 (some 63) (fl 20 20773) HT_ ?_
      refine tk8 1 (some 50) (fl 20 20775) HT_ HW_ hHeld ?_
      refine tk8 3 (some 52) (fl 20 20783) HT_ HW_ hHeld ?_
      refine pu 4 (some 53) (fl 20 20799) HT_ ?_
      refine tk8 6 (some 55) (fl 20 20863) HT_ HW_ hHeld ?_
      refine pu 7 (some 56) (fl 20 20991) HT_ ?_
      refine tk8 13 (some 62) (fl 20 29183) HT_ HW_ hHeld ?_
      refine on 9 (some 58) (fl 20 29695) HT_ (fun K hK => ?_)
      refine go1 Try.func62 #[.pointer (some ⟨g1149, 0, none⟩), .int .i64 3] ?_
      with_reducible refine (spec_l1Rd_pick.calls kj7 g1149 t1147 t1169 3 t1184 t1185 w _ ?side1 ?side2 A85.out).mono ?_
      (case side1 => exact qI HI1149)
      (case side2 => exact qL HB)
      rintro e w88 ⟨rfl, hi, hb, hk⟩
      refine ⟨_, rfl, ?_⟩
      replace BK1143 := kKB BK1143 hk NB1143_1149
      replace BK1144 := kKB BK1144 hk NB1144_1149
      replace BK1145 := kKB BK1145 hk NB1145_1149
      replace BK1146 := kKB BK1146 hk NB1146_1149
      replace BK1154 := kKB BK1154 hk NB1154_1149
      replace BK1158 := kKB BK1158 hk NB1158_1149
      replace BK1163 := kKB BK1163 hk NB1163_1149
      replace BK1167 := kKB BK1167 hk NB1167_1149
      replace HB := az hb
      replace HI1149 := az hi
      clear hb hk hi
      refine hK.out _ _ ⟨bc BK1158 0, bc BK1158 1, bc BK1154 0, bc BK1154 1, bc BK1154 2, bc BK1163 0, bc BK1163 1, bc BK1163 2⟩ (fun hHeld => ?_)
      clear hK K
      refine nm (some 58) ?_
      refine pu 10 (some 59) (fl 20 30719) HT_ ?_
      refine pu 11 (some 60) (fl 20 32767) HT_ ?_
      refine on 15 (some 64) (fl 20 65535) HT_ (fun K hK => ?_)
      refine go1 Try.func62 #[.pointer (some ⟨g1149, 0, none⟩), .int .i64 3] ?_
      with_reducible refine (spec_l1Rd_pick.calls kj7 g1149 t1147 t1185 3 t1186 t1187 w _ ?side1 ?side2 A86.out).mono ?_
      (case side1 => exact qI HI1149)
      (case side2 => exact qL HB)
      rintro e w89 ⟨rfl, hi, hb, hk⟩
      refine ⟨_, rfl, ?_⟩
      replace BK1143 := kKB BK1143 hk NB1143_1149
      replace BK1144 := kKB BK1144 hk NB1144_1149
      replace BK1145 := kKB BK1145 hk NB1145_1149
      replace BK1146 := kKB BK1146 hk NB1146_1149
      replace BK1154 := kKB BK1154 hk NB1154_1149
      replace BK1158 := kKB BK1158 hk NB1158_1149
      replace BK1163 := kKB BK1163 hk NB1163_1149
      replace BK1167 := kKB BK1167 hk NB1167_1149
      replace HB := az hb
      replace HI1149 := az hi
      clear hb hk hi
      refine hK.out _ _ ⟨bc BK1158 0, bc BK1158 1, bc BK1154 0, bc BK1154 1, bc BK1154 2, bc BK1163 0, bc BK1163 1, bc BK1163 2⟩ (fun hHeld => ?_)
      clear hK K
      refine nm (some 64) ?_
      refine pu 16 (some 65) (fl 20 131071) HT_ ?_
      refine pu 17 (some 66) (fl 20 262143) HT_ ?_
      refine pu 18 (some 67) (fl 20 524287) HT_ ?_
      refine on 19 (none) (fl 20 1048575) HT_ (fun K hK => ?_)
      have hs90 : w89.cell? ⟨gb1167, 0, none⟩ = some (.int .i64 t1164) := bc BK1167 0
      have hfs90 := blk_frozen BK1167.out 0
      have hns90_0 := NB1143_1167.out
      have hns90_1 := NB1144_1167.out
      have hns90_2 := NB1145_1167.out
      have hns90_3 := NB1146_1167.out
      have hns90_4 := NB1154_1167.out
      have hns90_5 := NB1158_1167.out
      have hns90_6 := NB1163_1167.out
      have hms90_0 := NB1167_1143.out
      have hms90_1 := NB1167_1144.out
      have hms90_2 := NB1167_1145.out
      have hms90_3 := NB1167_1146.out
      have hms90_4 := NB1167_1154.out
      have hms90_5 := NB1167_1158.out
      have hms90_6 := NB1167_1163.out
      have hs91 : w89.cell? ⟨gb1167, 1, none⟩ = some (.int .i64 t1165) := bc BK1167 1
      have hfs91 := blk_frozen BK1167.out 1
      have hns91_0 := NB1143_1167.out
      have hns91_1 := NB1144_1167.out
      have hns91_2 := NB1145_1167.out
      have hns91_3 := NB1146_1167.out
      have hns91_4 := NB1154_1167.out
      have hns91_5 := NB1158_1167.out
      have hns91_6 := NB1163_1167.out
      have hms91_0 := NB1167_1143.out
      have hms91_1 := NB1167_1144.out
      have hms91_2 := NB1167_1145.out
      have hms91_3 := NB1167_1146.out
      have hms91_4 := NB1167_1154.out
      have hms91_5 := NB1167_1158.out
      have hms91_6 := NB1167_1163.out
      refine skip_ (w1 := ?_) ?hw ?hn ?_ ?_; (case hw => unfold Region.wanted; rfl); (case hn => rfl)
      rotate_left
      · go_simp
        rfl
      refine hK.out _ _ ⟨(cf NB1158_1167 ((cf NB1158_1167 (hHeld.1)))), (cf NB1158_1167 ((cf NB1158_1167 (hHeld.2.1)))), (cf NB1154_1167 ((cf NB1154_1167 (hHeld.2.2.1)))), (cf NB1154_1167 ((cf NB1154_1167 (hHeld.2.2.2.1)))), (cf NB1154_1167 ((cf NB1154_1167 (hHeld.2.2.2.2.1)))), (cf NB1163_1167 ((cf NB1163_1167 (hHeld.2.2.2.2.2.1)))), (cf NB1163_1167 ((cf NB1163_1167 (hHeld.2.2.2.2.2.2.1)))), (cf NB1163_1167 ((cf NB1163_1167 (hHeld.2.2.2.2.2.2.2))))⟩ (fun hHeld => ?_)
      clear hK K
      refine done_ (done_of HT_.out (by kernel_rfl)) ?_
      try go_wp2
      obtain ⟨w92, hw_⟩ : ∃ x, x = ((w89.setCell ⟨gb1167, 0, none⟩ (.int .i64 (wrap64 ((wrap64 ((wrap64 ((wrap64 (t1155 + t1151)) + t1160)) + t1184)) - 1)))).setCell ⟨gb1167, 1, none⟩ (.int .i64 (wrap64 ((wrap64 (t1156 + t1186)) - 1)))) := ⟨_, rfl⟩
      replace BK1143 : Aside0 (w92.heap[gb1143]? = some (.cells #[.int .i64 0, .int .i64 0, .int .i64 0] 38 (0, 0))) := ⟨by rw [hw_]; exact qF BK1143⟩
      replace BK1144 : Aside0 (w92.heap[gb1144]? = some (.cells #[.int .i64 0, .int .i64 0] 24 (0, 0))) := ⟨by rw [hw_]; exact qF BK1144⟩
      replace BK1145 : Aside0 (w92.heap[gb1145]? = some (.cells #[.int .i64 0, .int .i64 0, .int .i64 0] 38 (0, 0))) := ⟨by rw [hw_]; exact qF BK1145⟩
      replace BK1146 : Aside0 (w92.heap[gb1146]? = some (.cells #[.int .i64 0, .int .i64 0] 24 (0, 0))) := ⟨by rw [hw_]; exact qF BK1146⟩
      replace BK1154 : Aside0 (w92.heap[gb1154]? = some (.cells #[.int .i64 t1150, .int .i64 t1151, .int .i64 t1152] 38 (0, 0))) := ⟨by rw [hw_]; exact qF BK1154⟩
      replace BK1158 : Aside0 (w92.heap[gb1158]? = some (.cells #[.int .i64 t1155, .int .i64 t1156] 24 (0, 0))) := ⟨by rw [hw_]; exact qF BK1158⟩
      replace BK1163 : Aside0 (w92.heap[gb1163]? = some (.cells #[.int .i64 t1159, .int .i64 t1160, .int .i64 t1161] 38 (0, 0))) := ⟨by rw [hw_]; exact qF BK1163⟩
      replace BK1167 : Aside0 (w92.heap[gb1167]? = some (.cells #[.int .i64 (wrap64 ((wrap64 ((wrap64 ((wrap64 (t1155 + t1151)) + t1160)) + t1184)) - 1)), .int .i64 (wrap64 ((wrap64 (t1156 + t1186)) - 1))] 24 (0, 0))) := ⟨by rw [hw_]; exact qP BK1167⟩
      replace HB : Aside0 (Below w.heap.size w w92) := ⟨by rw [hw_]; exact qL HB⟩
      replace HI1149 : Aside0 (IsS95 w w92 g1149 t1147 t1187) := ⟨by rw [hw_]; exact qI HI1149⟩
      rw [← hw_]
      clear hw_
      replace BK1143 := az (blk_drew BK1143.out)
      replace BK1144 := az (blk_drew BK1144.out)
      replace BK1145 := az (blk_drew BK1145.out)
      replace BK1146 := az (blk_drew BK1146.out)
      replace BK1154 := az (blk_drew BK1154.out)
      replace BK1158 := az (blk_drew BK1158.out)
      replace BK1163 := az (blk_drew BK1163.out)
      replace BK1167 := az (blk_drew BK1167.out)
      replace HI1149 := az (IsS95.drew HI1149.out)
      replace HB := az (below_drew1 HB.out)
      refine start_ (n := 8) (S := fun w' => w'.cell? ⟨gb1154, 0, none⟩ = some (.int .i64 t1150) ∧ w'.cell? ⟨gb1154, 1, none⟩ = some (.int .i64 t1151) ∧ w'.cell? ⟨gb1154, 2, none⟩ = some (.int .i64 t1152) ∧ w'.cell? ⟨gb1158, 0, none⟩ = some (.int .i64 t1155) ∧ w'.cell? ⟨gb1158, 1, none⟩ = some (.int .i64 t1156) ∧ w'.cell? ⟨gb1163, 0, none⟩ = some (.int .i64 t1159) ∧ w'.cell? ⟨gb1163, 1, none⟩ = some (.int .i64 t1160) ∧ w'.cell? ⟨gb1163, 2, none⟩ = some (.int .i64 t1161) ∧ w'.cell? ⟨gb1167, 0, none⟩ = some (.int .i64 (wrap64 ((wrap64 ((wrap64 ((wrap64 (t1155 + t1151)) + t1160)) + t1184)) - 1))) ∧ w'.cell? ⟨gb1167, 1, none⟩ = some (.int .i64 (wrap64 ((wrap64 (t1156 + t1186)) - 1)))) (ds := []) #[false, false, false, false, false, false, false, false] (by kernel_rfl) rfl rfl ⟨bc BK1154 0, bc BK1154 1, bc BK1154 2, bc BK1158 0, bc BK1158 1, bc BK1163 0, bc BK1163 1, bc BK1163 2, bc BK1167 0, bc BK1167 1⟩ (fun hHeld => ?_); refine with_tabW spec_DrawTouch.tab12 spec_DrawTouch.bits12 (fun HT_ HW_ => ?_)
      generalize w92.drew = w93 at BK1143 BK1144 BK1145 BK1146 BK1154 BK1158 BK1163 BK1167 HI1149 HB hHeld ⊢
      refine tk10 0 (some 68) (fl 8 1) HT_ HW_ hHeld ?_
      refine tk10 1 (some 69) (fl 8 3) HT_ HW_ hHeld ?_
      refine tk10 2 (some 70) (fl 8 7) HT_ HW_ hHeld ?_
      refine tk10 3 (some 71) (fl 8 15) HT_ HW_ hHeld ?_
      refine on 4 (none) (fl 8 31) HT_ (fun K hK => ?_)
      have hs94 : w93.cell? ⟨gb1143, 0, none⟩ = some (.int .i64 0) := bc BK1143 0
      have hfs94 := blk_frozen BK1143.out 0
      have hns94_1 := NB1144_1143.out
      have hns94_2 := NB1145_1143.out
      have hns94_3 := NB1146_1143.out
      have hns94_4 := NB1154_1143.out
      have hns94_5 := NB1158_1143.out
      have hns94_6 := NB1163_1143.out
      have hns94_7 := NB1167_1143.out
      have hms94_1 := NB1143_1144.out
      have hms94_2 := NB1143_1145.out
      have hms94_3 := NB1143_1146.out
      have hms94_4 := NB1143_1154.out
      have hms94_5 := NB1143_1158.out
      have hms94_6 := NB1143_1163.out
      have hms94_7 := NB1143_1167.out
      have hs95 : w93.cell? ⟨gb1143, 1, none⟩ = some (.int .i64 0) := bc BK1143 1
      have hfs95 := blk_frozen BK1143.out 1
      have hns95_1 := NB1144_1143.out
      have hns95_2 := NB1145_1143.out
      have hns95_3 := NB1146_1143.out
      have hns95_4 := NB1154_1143.out
      have hns95_5 := NB1158_1143.out
      have hns95_6 := NB1163_1143.out
      have hns95_7 := NB1167_1143.out
      have hms95_1 := NB1143_1144.out
      have hms95_2 := NB1143_1145.out
      have hms95_3 := NB1143_1146.out
      have hms95_4 := NB1143_1154.out
      have hms95_5 := NB1143_1158.out
      have hms95_6 := NB1143_1163.out
      have hms95_7 := NB1143_1167.out
      have hs96 : w93.cell? ⟨gb1143, 2, none⟩ = some (.int .i64 0) := bc BK1143 2
      have hfs96 := blk_frozen BK1143.out 2
      have hns96_1 := NB1144_1143.out
      have hns96_2 := NB1145_1143.out
      have hns96_3 := NB1146_1143.out
      have hns96_4 := NB1154_1143.out
      have hns96_5 := NB1158_1143.out
      have hns96_6 := NB1163_1143.out
      have hns96_7 := NB1167_1143.out
      have hms96_1 := NB1143_1144.out
      have hms96_2 := NB1143_1145.out
      have hms96_3 := NB1143_1146.out
      have hms96_4 := NB1143_1154.out
      have hms96_5 := NB1143_1158.out
      have hms96_6 := NB1143_1163.out
      have hms96_7 := NB1143_1167.out
      refine skip_ (w1 := ?_) ?hw ?hn ?_ ?_; (case hw => unfold Region.wanted; rfl); (case hn => rfl)
      rotate_left
      · go_simp
        rfl
      refine hK.out _ _ ⟨(cf NB1154_1143 ((cf NB1154_1143 ((cf NB1154_1143 (hHeld.1)))))), (cf NB1154_1143 ((cf NB1154_1143 ((cf NB1154_1143 (hHeld.2.1)))))), (cf NB1154_1143 ((cf NB1154_1143 ((cf NB1154_1143 (hHeld.2.2.1)))))), (cf NB1158_1143 ((cf NB1158_1143 ((cf NB1158_1143 (hHeld.2.2.2.1)))))), (cf NB1158_1143 ((cf NB1158_1143 ((cf NB1158_1143 (hHeld.2.2.2.2.1)))))), (cf NB1163_1143 ((cf NB1163_1143 ((cf NB1163_1143 (hHeld.2.2.2.2.2.1)))))), (cf NB1163_1143 ((cf NB1163_1143 ((cf NB1163_1143 (hHeld.2.2.2.2.2.2.1)))))), (cf NB1163_1143 ((cf NB1163_1143 ((cf NB1163_1143 (hHeld.2.2.2.2.2.2.2.1)))))), (cf NB1167_1143 ((cf NB1167_1143 ((cf NB1167_1143 (hHeld.2.2.2.2.2.2.2.2.1)))))), (cf NB1167_1143 ((cf NB1167_1143 ((cf NB1167_1143 (hHeld.2.2.2.2.2.2.2.2.2))))))⟩ (fun hHeld => ?_)
      clear hK K
      refine on 5 (none) (fl 8 63) HT_ (fun K hK => ?_)
      have hs97 : w93.cell? ⟨gb1144, 0, none⟩ = some (.int .i64 0) := bc BK1144 0
      have hfs97 := blk_frozen BK1144.out 0
      have hns97_0 := NB1143_1144.out
      have hns97_2 := NB1145_1144.out
      have hns97_3 := NB1146_1144.out
      have hns97_4 := NB1154_1144.out
      have hns97_5 := NB1158_1144.out
      have hns97_6 := NB1163_1144.out
      have hns97_7 := NB1167_1144.out
      have hms97_0 := NB1144_1143.out
      have hms97_2 := NB1144_1145.out
      have hms97_3 := NB1144_1146.out
      have hms97_4 := NB1144_1154.out
      have hms97_5 := NB1144_1158.out
      have hms97_6 := NB1144_1163.out
      have hms97_7 := NB1144_1167.out
      have hs98 : w93.cell? ⟨gb1144, 1, none⟩ = some (.int .i64 0) := bc BK1144 1
      have hfs98 := blk_frozen BK1144.out 1
      have hns98_0 := NB1143_1144.out
      have hns98_2 := NB1145_1144.out
      have hns98_3 := NB1146_1144.out
      have hns98_4 := NB1154_1144.out
      have hns98_5 := NB1158_1144.out
      have hns98_6 := NB1163_1144.out
      have hns98_7 := NB1167_1144.out
      have hms98_0 := NB1144_1143.out
      have hms98_2 := NB1144_1145.out
      have hms98_3 := NB1144_1146.out
      have hms98_4 := NB1144_1154.out
      have hms98_5 := NB1144_1158.out
      have hms98_6 := NB1144_1163.out
      have hms98_7 := NB1144_1167.out
      refine skip_ (w1 := ?_) ?hw ?hn ?_ ?_; (case hw => unfold Region.wanted; rfl); (case hn => rfl)
      rotate_left
      · go_simp
        rfl
      refine hK.out _ _ ⟨(cf NB1154_1144 ((cf NB1154_1144 (hHeld.1)))), (cf NB1154_1144 ((cf NB1154_1144 (hHeld.2.1)))), (cf NB1154_1144 ((cf NB1154_1144 (hHeld.2.2.1)))), (cf NB1158_1144 ((cf NB1158_1144 (hHeld.2.2.2.1)))), (cf NB1158_1144 ((cf NB1158_1144 (hHeld.2.2.2.2.1)))), (cf NB1163_1144 ((cf NB1163_1144 (hHeld.2.2.2.2.2.1)))), (cf NB1163_1144 ((cf NB1163_1144 (hHeld.2.2.2.2.2.2.1)))), (cf NB1163_1144 ((cf NB1163_1144 (hHeld.2.2.2.2.2.2.2.1)))), (cf NB1167_1144 ((cf NB1167_1144 (hHeld.2.2.2.2.2.2.2.2.1)))), (cf NB1167_1144 ((cf NB1167_1144 (hHeld.2.2.2.2.2.2.2.2.2))))⟩ (fun hHeld => ?_)
      clear hK K
      refine on 6 (none) (fl 8 127) HT_ (fun K hK => ?_)
      have hs99 : w93.cell? ⟨gb1145, 0, none⟩ = some (.int .i64 0) := bc BK1145 0
      have hfs99 := blk_frozen BK1145.out 0
      have hns99_0 := NB1143_1145.out
      have hns99_1 := NB1144_1145.out
      have hns99_3 := NB1146_1145.out
      have hns99_4 := NB1154_1145.out
      have hns99_5 := NB1158_1145.out
      have hns99_6 := NB1163_1145.out
      have hns99_7 := NB1167_1145.out
      have hms99_0 := NB1145_1143.out
      have hms99_1 := NB1145_1144.out
      have hms99_3 := NB1145_1146.out
      have hms99_4 := NB1145_1154.out
      have hms99_5 := NB1145_1158.out
      have hms99_6 := NB1145_1163.out
      have hms99_7 := NB1145_1167.out
      have hs100 : w93.cell? ⟨gb1145, 1, none⟩ = some (.int .i64 0) := bc BK1145 1
      have hfs100 := blk_frozen BK1145.out 1
      have hns100_0 := NB1143_1145.out
      have hns100_1 := NB1144_1145.out
      have hns100_3 := NB1146_1145.out
      have hns100_4 := NB1154_1145.out
      have hns100_5 := NB1158_1145.out
      have hns100_6 := NB1163_1145.out
      have hns100_7 := NB1167_1145.out
      have hms100_0 := NB1145_1143.out
      have hms100_1 := NB1145_1144.out
      have hms100_3 := NB1145_1146.out
      have hms100_4 := NB1145_1154.out
      have hms100_5 := NB1145_1158.out
      have hms100_6 := NB1145_1163.out
      have hms100_7 := NB1145_1167.out
      have hs101 : w93.cell? ⟨gb1145, 2, none⟩ = some (.int .i64 0) := bc BK1145 2
      have hfs101 := blk_frozen BK1145.out 2
      have hns101_0 := NB1143_1145.out
      have hns101_1 := NB1144_1145.out
      have hns101_3 := NB1146_1145.out
      have hns101_4 := NB1154_1145.out
      have hns101_5 := NB1158_1145.out
      have hns101_6 := NB1163_1145.out
      have hns101_7 := NB1167_1145.out
      have hms101_0 := NB1145_1143.out
      have hms101_1 := NB1145_1144.out
      have hms101_3 := NB1145_1146.out
      have hms101_4 := NB1145_1154.out
      have hms101_5 := NB1145_1158.out
      have hms101_6 := NB1145_1163.out
      have hms101_7 := NB1145_1167.out
      refine skip_ (w1 := ?_) ?hw ?hn ?_ ?_; (case hw => unfold Region.wanted; rfl); (case hn => rfl)
      rotate_left
      · go_simp
        rfl
      refine hK.out _ _ ⟨(cf NB1154_1145 ((cf NB1154_1145 ((cf NB1154_1145 (hHeld.1)))))), (cf NB1154_1145 ((cf NB1154_1145 ((cf NB1154_1145 (hHeld.2.1)))))), (cf NB1154_1145 ((cf NB1154_1145 ((cf NB1154_1145 (hHeld.2.2.1)))))), (cf NB1158_1145 ((cf NB1158_1145 ((cf NB1158_1145 (hHeld.2.2.2.1)))))), (cf NB1158_1145 ((cf NB1158_1145 ((cf NB1158_1145 (hHeld.2.2.2.2.1)))))), (cf NB1163_1145 ((cf NB1163_1145 ((cf NB1163_1145 (hHeld.2.2.2.2.2.1)))))), (cf NB1163_1145 ((cf NB1163_1145 ((cf NB1163_1145 (hHeld.2.2.2.2.2.2.1)))))), (cf NB1163_1145 ((cf NB1163_1145 ((cf NB1163_1145 (hHeld.2.2.2.2.2.2.2.1)))))), (cf NB1167_1145 ((cf NB1167_1145 ((cf NB1167_1145 (hHeld.2.2.2.2.2.2.2.2.1)))))), (cf NB1167_1145 ((cf NB1167_1145 ((cf NB1167_1145 (hHeld.2.2.2.2.2.2.2.2.2))))))⟩ (fun hHeld => ?_)
      clear hK K
      refine on 7 (none) (fl 8 255) HT_ (fun K hK => ?_)
      have hs102 : w93.cell? ⟨gb1146, 0, none⟩ = some (.int .i64 0) := bc BK1146 0
      have hfs102 := blk_frozen BK1146.out 0
      have hns102_0 := NB1143_1146.out
      have hns102_1 := NB1144_1146.out
      have hns102_2 := NB1145_1146.out
      have hns102_4 := NB1154_1146.out
      have hns102_5 := NB1158_1146.out
      have hns102_6 := NB1163_1146.out
      have hns102_7 := NB1167_1146.out
      have hms102_0 := NB1146_1143.out
      have hms102_1 := NB1146_1144.out
      have hms102_2 := NB1146_1145.out
      have hms102_4 := NB1146_1154.out
      have hms102_5 := NB1146_1158.out
      have hms102_6 := NB1146_1163.out
      have hms102_7 := NB1146_1167.out
      have hs103 : w93.cell? ⟨gb1146, 1, none⟩ = some (.int .i64 0) := bc BK1146 1
      have hfs103 := blk_frozen BK1146.out 1
      have hns103_0 := NB1143_1146.out
      have hns103_1 := NB1144_1146.out
      have hns103_2 := NB1145_1146.out
      have hns103_4 := NB1154_1146.out
      have hns103_5 := NB1158_1146.out
      have hns103_6 := NB1163_1146.out
      have hns103_7 := NB1167_1146.out
      have hms103_0 := NB1146_1143.out
      have hms103_1 := NB1146_1144.out
      have hms103_2 := NB1146_1145.out
      have hms103_4 := NB1146_1154.out
      have hms103_5 := NB1146_1158.out
      have hms103_6 := NB1146_1163.out
      have hms103_7 := NB1146_1167.out
      refine skip_ (w1 := ?_) ?hw ?hn ?_ ?_; (case hw => unfold Region.wanted; rfl); (case hn => rfl)
      rotate_left
      · go_simp
        rfl
      refine hK.out _ _ ⟨(cf NB1154_1146 ((cf NB1154_1146 (hHeld.1)))), (cf NB1154_1146 ((cf NB1154_1146 (hHeld.2.1)))), (cf NB1154_1146 ((cf NB1154_1146 (hHeld.2.2.1)))), (cf NB1158_1146 ((cf NB1158_1146 (hHeld.2.2.2.1)))), (cf NB1158_1146 ((cf NB1158_1146 (hHeld.2.2.2.2.1)))), (cf NB1163_1146 ((cf NB1163_1146 (hHeld.2.2.2.2.2.1)))), (cf NB1163_1146 ((cf NB1163_1146 (hHeld.2.2.2.2.2.2.1)))), (cf NB1163_1146 ((cf NB1163_1146 (hHeld.2.2.2.2.2.2.2.1)))), (cf NB1167_1146 ((cf NB1167_1146 (hHeld.2.2.2.2.2.2.2.2.1)))), (cf NB1167_1146 ((cf NB1167_1146 (hHeld.2.2.2.2.2.2.2.2.2))))⟩ (fun hHeld => ?_)
      clear hK K
      refine done_ (done_of HT_.out (by kernel_rfl)) ?_
      repeat (first | go_values | go_skip | go_guarded | go_step | go_upon | go_back)
      refine bodyPost_ret (results_list (rs := [.cell 2 38, .cell 3 24, .cell 4 38, .cell 5 24]) rfl (by simp) (.cell gb1143 38 #[.int .i64 t1150, .int .i64 t1151, .int .i64 t1152] (0, 0) _ rfl (qP BK1143) Try.underlying38 rfl (by kernel_rfl) (.cell gb1144 24 #[.int .i64 t1155, .int .i64 t1156] (0, 0) _ rfl (qP BK1144) Try.underlying24 rfl (by kernel_rfl) (.cell gb1145 38 #[.int .i64 t1159, .int .i64 t1160, .int .i64 t1161] (0, 0) _ rfl (qP BK1145) Try.underlying38 rfl (by kernel_rfl) (.cell gb1146 24 #[.int .i64 (wrap64 ((wrap64 ((wrap64 ((wrap64 (t1155 + t1151)) + t1160)) + t1184)) - 1)), .int .i64 (wrap64 ((wrap64 (t1156 + t1186)) - 1))] (0, 0) _ rfl (qP BK1146) Try.underlying24 rfl (by kernel_rfl) .nil))))) rfl ?_
      exact ⟨qE, qL HB⟩
    rw [if_neg c84] at H
    have c84b0 : (t1168 == 2) = false := beq_eq_false_iff_ne.mpr c84
    have c84b1 : (t1168 != 2) = true := bne_iff_ne.mpr c84
    simp only [Option.some.injEq, Prod.mk.injEq] at H
    obtain ⟨rfl, rfl, rfl, rfl, rfl, rfl, rfl, rfl, rfl, rfl⟩ := H
    try go_wp2
    replace BK1143 := az (blk_drew BK1143.out)
    replace BK1144 := az (blk_drew BK1144.out)
    replace BK1145 := az (blk_drew BK1145.out)
    replace BK1146 := az (blk_drew BK1146.out)
    replace BK1154 := az (blk_drew BK1154.out)
    replace BK1158 := az (blk_drew BK1158.out)
    replace BK1163 := az (blk_drew BK1163.out)
    replace BK1167 := az (blk_drew BK1167.out)
    replace HI1149 := az (IsS95.drew HI1149.out)
    replace HB := az (below_drew1 HB.out)
    refine start_ (n := 8) (S := fun w' => w'.cell? ⟨gb1154, 0, none⟩ = some (.int .i64 t1150) ∧ w'.cell? ⟨gb1154, 1, none⟩ = some (.int .i64 t1151) ∧ w'.cell? ⟨gb1154, 2, none⟩ = some (.int .i64 t1152) ∧ w'.cell? ⟨gb1158, 0, none⟩ = some (.int .i64 t1155) ∧ w'.cell? ⟨gb1158, 1, none⟩ = some (.int .i64 t1156) ∧ w'.cell? ⟨gb1163, 0, none⟩ = some (.int .i64 t1159) ∧ w'.cell? ⟨gb1163, 1, none⟩ = some (.int .i64 t1160) ∧ w'.cell? ⟨gb1163, 2, none⟩ = some (.int .i64 t1161) ∧ w'.cell? ⟨gb1167, 0, none⟩ = some (.int .i64 t1164) ∧ w'.cell? ⟨gb1167, 1, none⟩ = some (.int .i64 t1165)) (ds := []) #[false, false, false, false, false, false, false, false] (by kernel_rfl) rfl rfl ⟨bc BK1154 0, bc BK1154 1, bc BK1154 2, bc BK1158 0, bc BK1158 1, bc BK1163 0, bc BK1163 1, bc BK1163 2, bc BK1167 0, bc BK1167 1⟩ (fun hHeld => ?_); refine with_tabW spec_DrawTouch.tab12 spec_DrawTouch.bits12 (fun HT_ HW_ => ?_)
    generalize wc.drew = w104 at BK1143 BK1144 BK1145 BK1146 BK1154 BK1158 BK1163 BK1167 HI1149 HB hHeld ⊢
    refine tk10 0 (some 68) (fl 8 1) HT_ HW_ hHeld ?_
    refine tk10 1 (some 69) (fl 8 3) HT_ HW_ hHeld ?_
    refine tk10 2 (some 70) (fl 8 7) HT_ HW_ hHeld ?_
    refine tk10 3 (some 71) (fl 8 15) HT_ HW_ hHeld ?_
    refine on 4 (none) (fl 8 31) HT_ (fun K hK => ?_)
    have hs105 : w104.cell? ⟨gb1143, 0, none⟩ = some (.int .i64 0) := bc BK1143 0
    have hfs105 := blk_frozen BK1143.out 0
    have hns105_1 := NB1144_1143.out
    have hns105_2 := NB1145_1143.out
    have hns105_3 := NB1146_1143.out
    have hns105_4 := NB1154_1143.out
    have hns105_5 := NB1158_1143.out
    have hns105_6 := NB1163_1143.out
    have hns105_7 := NB1167_1143.out
    have hms105_1 := NB1143_1144.out
    have hms105_2 := NB1143_1145.out
    have hms105_3 := NB1143_1146.out
    have hms105_4 := NB1143_1154.out
    have hms105_5 := NB1143_1158.out
    have hms105_6 := NB1143_1163.out
    have hms105_7 := NB1143_1167.out
    have hs106 : w104.cell? ⟨gb1143, 1, none⟩ = some (.int .i64 0) := bc BK1143 1
    have hfs106 := blk_frozen BK1143.out 1
    have hns106_1 := NB1144_1143.out
    have hns106_2 := NB1145_1143.out
    have hns106_3 := NB1146_1143.out
    have hns106_4 := NB1154_1143.out
    have hns106_5 := NB1158_1143.out
    have hns106_6 := NB1163_1143.out
    have hns106_7 := NB1167_1143.out
    have hms106_1 := NB1143_1144.out
    have hms106_2 := NB1143_1145.out
    have hms106_3 := NB1143_1146.out
    have hms106_4 := NB1143_1154.out
    have hms106_5 := NB1143_1158.out
    have hms106_6 := NB1143_1163.out
    have hms106_7 := NB1143_1167.out
    have hs107 : w104.cell? ⟨gb1143, 2, none⟩ = some (.int .i64 0) := bc BK1143 2
    have hfs107 := blk_frozen BK1143.out 2
    have hns107_1 := NB1144_1143.out
    have hns107_2 := NB1145_1143.out
    have hns107_3 := NB1146_1143.out
    have hns107_4 := NB1154_1143.out
    have hns107_5 := NB1158_1143.out
    have hns107_6 := NB1163_1143.out
    have hns107_7 := NB1167_1143.out
    have hms107_1 := NB1143_1144.out
    have hms107_2 := NB1143_1145.out
    have hms107_3 := NB1143_1146.out
    have hms107_4 := NB1143_1154.out
    have hms107_5 := NB1143_1158.out
    have hms107_6 := NB1143_1163.out
    have hms107_7 := NB1143_1167.out
    refine skip_ (w1 := ?_) ?hw ?hn ?_ ?_; (case hw => unfold Region.wanted; rfl); (case hn => rfl)
    rotate_left
    · go_simp
      rfl
    refine hK.out _ _ ⟨(cf NB1154_1143 ((cf NB1154_1143 ((cf NB1154_1143 (hHeld.1)))))), (cf NB1154_1143 ((cf NB1154_1143 ((cf NB1154_1143 (hHeld.2.1)))))), (cf NB1154_1143 ((cf NB1154_1143 ((cf NB1154_1143 (hHeld.2.2.1)))))), (cf NB1158_1143 ((cf NB1158_1143 ((cf NB1158_1143 (hHeld.2.2.2.1)))))), (cf NB1158_1143 ((cf NB1158_1143 ((cf NB1158_1143 (hHeld.2.2.2.2.1)))))), (cf NB1163_1143 ((cf NB1163_1143 ((cf NB1163_1143 (hHeld.2.2.2.2.2.1)))))), (cf NB1163_1143 ((cf NB1163_1143 ((cf NB1163_1143 (hHeld.2.2.2.2.2.2.1)))))), (cf NB1163_1143 ((cf NB1163_1143 ((cf NB1163_1143 (hHeld.2.2.2.2.2.2.2.1)))))), (cf NB1167_1143 ((cf NB1167_1143 ((cf NB1167_1143 (hHeld.2.2.2.2.2.2.2.2.1)))))), (cf NB1167_1143 ((cf NB1167_1143 ((cf NB1167_1143 (hHeld.2.2.2.2.2.2.2.2.2))))))⟩ (fun hHeld => ?_)
    clear hK K
    refine on 5 (none) (fl 8 63) HT_ (fun K hK => ?_)
    have hs108 : w104.cell? ⟨gb1144, 0, none⟩ = some (.int .i64 0) := bc BK1144 0
    have hfs108 := blk_frozen BK1144.out 0
    have hns108_0 := NB1143_1144.out
    have hns108_2 := NB1145_1144.out
    have hns108_3 := NB1146_1144.out
    have hns108_4 := NB1154_1144.out
    have hns108_5 := NB1158_1144.out
    have hns108_6 := NB1163_1144.out
    have hns108_7 := NB1167_1144.out
    have hms108_0 := NB1144_1143.out
    have hms108_2 := NB1144_1145.out
    have hms108_3 := NB1144_1146.out
    have hms108_4 := NB1144_1154.out
    have hms108_5 := NB1144_1158.out
    have hms108_6 := NB1144_1163.out
    have hms108_7 := NB1144_1167.out
    have hs109 : w104.cell? ⟨gb1144, 1, none⟩ = some (.int .i64 0) := bc BK1144 1
    have hfs109 := blk_frozen BK1144.out 1
    have hns109_0 := NB1143_1144.out
    have hns109_2 := NB1145_1144.out
    have hns109_3 := NB1146_1144.out
    have hns109_4 := NB1154_1144.out
    have hns109_5 := NB1158_1144.out
    have hns109_6 := NB1163_1144.out
    have hns109_7 := NB1167_1144.out
    have hms109_0 := NB1144_1143.out
    have hms109_2 := NB1144_1145.out
    have hms109_3 := NB1144_1146.out
    have hms109_4 := NB1144_1154.out
    have hms109_5 := NB1144_1158.out
    have hms109_6 := NB1144_1163.out
    have hms109_7 := NB1144_1167.out
    refine skip_ (w1 := ?_) ?hw ?hn ?_ ?_; (case hw => unfold Region.wanted; rfl); (case hn => rfl)
    rotate_left
    · go_simp
      rfl
    refine hK.out _ _ ⟨(cf NB1154_1144 ((cf NB1154_1144 (hHeld.1)))), (cf NB1154_1144 ((cf NB1154_1144 (hHeld.2.1)))), (cf NB1154_1144 ((cf NB1154_1144 (hHeld.2.2.1)))), (cf NB1158_1144 ((cf NB1158_1144 (hHeld.2.2.2.1)))), (cf NB1158_1144 ((cf NB1158_1144 (hHeld.2.2.2.2.1)))), (cf NB1163_1144 ((cf NB1163_1144 (hHeld.2.2.2.2.2.1)))), (cf NB1163_1144 ((cf NB1163_1144 (hHeld.2.2.2.2.2.2.1)))), (cf NB1163_1144 ((cf NB1163_1144 (hHeld.2.2.2.2.2.2.2.1)))), (cf NB1167_1144 ((cf NB1167_1144 (hHeld.2.2.2.2.2.2.2.2.1)))), (cf NB1167_1144 ((cf NB1167_1144 (hHeld.2.2.2.2.2.2.2.2.2))))⟩ (fun hHeld => ?_)
    clear hK K
    refine on 6 (none) (fl 8 127) HT_ (fun K hK => ?_)
    have hs110 : w104.cell? ⟨gb1145, 0, none⟩ = some (.int .i64 0) := bc BK1145 0
    have hfs110 := blk_frozen BK1145.out 0
    have hns110_0 := NB1143_1145.out
    have hns110_1 := NB1144_1145.out
    have hns110_3 := NB1146_1145.out
    have hns110_4 := NB1154_1145.out
    have hns110_5 := NB1158_1145.out
    have hns110_6 := NB1163_1145.out
    have hns110_7 := NB1167_1145.out
    have hms110_0 := NB1145_1143.out
    have hms110_1 := NB1145_1144.out
    have hms110_3 := NB1145_1146.out
    have hms110_4 := NB1145_1154.out
    have hms110_5 := NB1145_1158.out
    have hms110_6 := NB1145_1163.out
    have hms110_7 := NB1145_1167.out
    have hs111 : w104.cell? ⟨gb1145, 1, none⟩ = some (.int .i64 0) := bc BK1145 1
    have hfs111 := blk_frozen BK1145.out 1
    have hns111_0 := NB1143_1145.out
    have hns111_1 := NB1144_1145.out
    have hns111_3 := NB1146_1145.out
    have hns111_4 := NB1154_1145.out
    have hns111_5 := NB1158_1145.out
    have hns111_6 := NB1163_1145.out
    have hns111_7 := NB1167_1145.out
    have hms111_0 := NB1145_1143.out
    have hms111_1 := NB1145_1144.out
    have hms111_3 := NB1145_1146.out
    have hms111_4 := NB1145_1154.out
    have hms111_5 := NB1145_1158.out
    have hms111_6 := NB1145_1163.out
    have hms111_7 := NB1145_1167.out
    have hs112 : w104.cell? ⟨gb1145, 2, none⟩ = some (.int .i64 0) := bc BK1145 2
    have hfs112 := blk_frozen BK1145.out 2
    have hns112_0 := NB1143_1145.out
    have hns112_1 := NB1144_1145.out
    have hns112_3 := NB1146_1145.out
    have hns112_4 := NB1154_1145.out
    have hns112_5 := NB1158_1145.out
    have hns112_6 := NB1163_1145.out
    have hns112_7 := NB1167_1145.out
    have hms112_0 := NB1145_1143.out
    have hms112_1 := NB1145_1144.out
    have hms112_3 := NB1145_1146.out
    have hms112_4 := NB1145_1154.out
    have hms112_5 := NB1145_1158.out
    have hms112_6 := NB1145_1163.out
    have hms112_7 := NB1145_1167.out
    refine skip_ (w1 := ?_) ?hw ?hn ?_ ?_; (case hw => unfold Region.wanted; rfl); (case hn => rfl)
    rotate_left
    · go_simp
      rfl
    refine hK.out _ _ ⟨(cf NB1154_1145 ((cf NB1154_1145 ((cf NB1154_1145 (hHeld.1)))))), (cf NB1154_1145 ((cf NB1154_1145 ((cf NB1154_1145 (hHeld.2.1)))))), (cf NB1154_1145 ((cf NB1154_1145 ((cf NB1154_1145 (hHeld.2.2.1)))))), (cf NB1158_1145 ((cf NB1158_1145 ((cf NB1158_1145 (hHeld.2.2.2.1)))))), (cf NB1158_1145 ((cf NB1158_1145 ((cf NB1158_1145 (hHeld.2.2.2.2.1)))))), (cf NB1163_1145 ((cf NB1163_1145 ((cf NB1163_1145 (hHeld.2.2.2.2.2.1)))))), (cf NB1163_1145 ((cf NB1163_1145 ((cf NB1163_1145 (hHeld.2.2.2.2.2.2.1)))))), (cf NB1163_1145 ((cf NB1163_1145 ((cf NB1163_1145 (hHeld.2.2.2.2.2.2.2.1)))))), (cf NB1167_1145 ((cf NB1167_1145 ((cf NB1167_1145 (hHeld.2.2.2.2.2.2.2.2.1)))))), (cf NB1167_1145 ((cf NB1167_1145 ((cf NB1167_1145 (hHeld.2.2.2.2.2.2.2.2.2))))))⟩ (fun hHeld => ?_)
    clear hK K
    refine on 7 (none) (fl 8 255) HT_ (fun K hK => ?_)
    have hs113 : w104.cell? ⟨gb1146, 0, none⟩ = some (.int .i64 0) := bc BK1146 0
    have hfs113 := blk_frozen BK1146.out 0
    have hns113_0 := NB1143_1146.out
    have hns113_1 := NB1144_1146.out
    have hns113_2 := NB1145_1146.out
    have hns113_4 := NB1154_1146.out
    have hns113_5 := NB1158_1146.out
    have hns113_6 := NB1163_1146.out
    have hns113_7 := NB1167_1146.out
    have hms113_0 := NB1146_1143.out
    have hms113_1 := NB1146_1144.out
    have hms113_2 := NB1146_1145.out
    have hms113_4 := NB1146_1154.out
    have hms113_5 := NB1146_1158.out
    have hms113_6 := NB1146_1163.out
    have hms113_7 := NB1146_1167.out
    have hs114 : w104.cell? ⟨gb1146, 1, none⟩ = some (.int .i64 0) := bc BK1146 1
    have hfs114 := blk_frozen BK1146.out 1
    have hns114_0 := NB1143_1146.out
    have hns114_1 := NB1144_1146.out
    have hns114_2 := NB1145_1146.out
    have hns114_4 := NB1154_1146.out
    have hns114_5 := NB1158_1146.out
    have hns114_6 := NB1163_1146.out
    have hns114_7 := NB1167_1146.out
    have hms114_0 := NB1146_1143.out
    have hms114_1 := NB1146_1144.out
    have hms114_2 := NB1146_1145.out
    have hms114_4 := NB1146_1154.out
    have hms114_5 := NB1146_1158.out
    have hms114_6 := NB1146_1163.out
    have hms114_7 := NB1146_1167.out
    refine skip_ (w1 := ?_) ?hw ?hn ?_ ?_; (case hw => unfold Region.wanted; rfl); (case hn => rfl)
    rotate_left
    · go_simp
      rfl
    refine hK.out _ _ ⟨(cf NB1154_1146 ((cf NB1154_1146 (hHeld.1)))), (cf NB1154_1146 ((cf NB1154_1146 (hHeld.2.1)))), (cf NB1154_1146 ((cf NB1154_1146 (hHeld.2.2.1)))), (cf NB1158_1146 ((cf NB1158_1146 (hHeld.2.2.2.1)))), (cf NB1158_1146 ((cf NB1158_1146 (hHeld.2.2.2.2.1)))), (cf NB1163_1146 ((cf NB1163_1146 (hHeld.2.2.2.2.2.1)))), (cf NB1163_1146 ((cf NB1163_1146 (hHeld.2.2.2.2.2.2.1)))), (cf NB1163_1146 ((cf NB1163_1146 (hHeld.2.2.2.2.2.2.2.1)))), (cf NB1167_1146 ((cf NB1167_1146 (hHeld.2.2.2.2.2.2.2.2.1)))), (cf NB1167_1146 ((cf NB1167_1146 (hHeld.2.2.2.2.2.2.2.2.2))))⟩ (fun hHeld => ?_)
    clear hK K
    refine done_ (done_of HT_.out (by kernel_rfl)) ?_
    repeat (first | go_values | go_skip | go_guarded | go_step | go_upon | go_back)
    refine bodyPost_ret (results_list (rs := [.cell 2 38, .cell 3 24, .cell 4 38, .cell 5 24]) rfl (by simp) (.cell gb1143 38 #[.int .i64 t1150, .int .i64 t1151, .int .i64 t1152] (0, 0) _ rfl (qP BK1143) Try.underlying38 rfl (by kernel_rfl) (.cell gb1144 24 #[.int .i64 t1155, .int .i64 t1156] (0, 0) _ rfl (qP BK1144) Try.underlying24 rfl (by kernel_rfl) (.cell gb1145 38 #[.int .i64 t1159, .int .i64 t1160, .int .i64 t1161] (0, 0) _ rfl (qP BK1145) Try.underlying38 rfl (by kernel_rfl) (.cell gb1146 24 #[.int .i64 t1164, .int .i64 t1165] (0, 0) _ rfl (qP BK1146) Try.underlying24 rfl (by kernel_rfl) .nil))))) rfl ?_
    exact ⟨qE, qL HB⟩
end Go.Proofs.Ytihajbjkjclmoaa.PBig
