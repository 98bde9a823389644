/- What these functions compute, each walked once: impl_Body_move, impl_Body_speed, impl_BodyMove, impl_BodySleeps, impl_BodySpeed, impl_VecAdd; for all arguments and worlds, under the conditions that each theorem names. -/
import Derived.Test.YtihajbjkjclmoaaSq
import Derived.Test.YtihajbjkjclmoaaPBigx907
import Derived.Test.YtihajbjkjclmoaaPBigx911
namespace Go.Proofs.Ytihajbjkjclmoaa.PBig
open Go.RowKit Go.Proofs.YtihajbjkjclmoaaW.PrintWords Go.Proofs.YtihajbjkjclmoaaW.PrintLast Go.Proofs.YtihajbjkjclmoaaW.PrintMore
attribute [local go_sem] max2_int min2_int max_two min_two max_three min_three max_four min_four   -- for this text's walks alone
set_option linter.unusedVariables false
set_option linter.unusedSimpArgs false

/-! ### impl_Body_move: function 57 -/
def impl_Body_move.f (a0 a1 a2 a3 a4 a5 a6 a7 a8 a9 a10 a11 p0 p1 : Int) : Option (Int × Int × Int × Int × Int × Int × Int × Int × Int × Int × Int × Int) := (impl_Vec_plus.f a4 a5 p0 p1).bind fun t => (impl_Vec_clamped.f t.1 t.2 2560000).bind fun u => some (a0, a1, a2, a3, u.1, u.2, if u.1 = t.1 then a6 else 0, if u.2 = t.2 then a7 else 0, a8, a9, a10, a11)
def impl_Body_move.T1 : Bool × List (List Nat × List Nat) := (true, [([], []), ([0], [0]), ([1], [1]), ([2], [2]), ([], []), ([3, 4], [3, 4]), ([], []), ([6, 5, 5, 0, 1, 2, 3, 4, 5, 6], [5, 6])])
def impl_Body_move.B1 : List Nat := [0, 1, 3, 7, 0, 31, 0, 127]
theorem impl_Body_move.tab1 : rtab .any (opsOf Try.f57 1) = impl_Body_move.T1 := by kernel_rfl
theorem impl_Body_move.bits1 : waitsOk impl_Body_move.T1.2 impl_Body_move.B1 = true := by kernel_rfl
def impl_Body_move.T3 : Bool × List (List Nat × List Nat) := (true, [([], []), ([0], [0]), ([1], [1]), ([2], [2]), ([3], [3]), ([], []), ([5], [5]), ([4, 6], [4, 6])])
def impl_Body_move.B3 : List Nat := [0, 1, 3, 7, 15, 0, 32, 127]
theorem impl_Body_move.tab3 : rtab .any (opsOf Try.f57 3) = impl_Body_move.T3 := by kernel_rfl
theorem impl_Body_move.bits3 : waitsOk impl_Body_move.T3.2 impl_Body_move.B3 = true := by kernel_rfl
def impl_Body_move.T5 : Bool × List (List Nat × List Nat) := (true, [([], []), ([0], [0]), ([1], [1]), ([2], [2]), ([3], [3]), ([], []), ([5], [5]), ([4, 6], [4, 6])])
def impl_Body_move.B5 : List Nat := [0, 1, 3, 7, 15, 0, 32, 127]
theorem impl_Body_move.tab5 : rtab .any (opsOf Try.f57 5) = impl_Body_move.T5 := by kernel_rfl
theorem impl_Body_move.bits5 : waitsOk impl_Body_move.T5.2 impl_Body_move.B5 = true := by kernel_rfl
set_option maxHeartbeats 8000000 in
set_option maxRecDepth 100000 in
theorem impl_Body_move.calls (g : Nat) (a0 a1 a2 a3 a4 a5 a6 a7 a8 a9 a10 a11 p0 p1 r0 r1 r2 r3 r4 r5 r6 r7 r8 r9 r10 r11 : Int) (w0 w : World) (hB : Below w0.heap.size w0 w) (hg : w0.heap.size ≤ g) (B : w.heap[g]? = some (.cells #[.int .i64 a0, .int .i64 a1, .int .i64 a2, .int .i64 a3, .int .i64 a4, .int .i64 a5, .int .i64 a6, .int .i64 a7, .int .i64 a8, .int .i64 a9, .int .i64 a10, .int .i64 a11] 40 (0, 0))) (h : impl_Body_move.f a0 a1 a2 a3 a4 a5 a6 a7 a8 a9 a10 a11 p0 p1 = some (r0, r1, r2, r3, r4, r5, r6, r7, r8, r9, r10, r11)) :
    Calls Try.prog 57 #[.pointer (some ⟨g, 0, none⟩), .agg #[.int .i64 p0, .int .i64 p1]] w fun e w' => e = .returned (.tuple #[]) ∧ w'.heap[g]? = some (.cells #[.int .i64 r0, .int .i64 r1, .int .i64 r2, .int .i64 r3, .int .i64 r4, .int .i64 r5, .int .i64 r6, .int .i64 r7, .int .i64 r8, .int .i64 r9, .int .i64 r10, .int .i64 r11] 40 (0, 0)) ∧ KeepBut w w' g none ∧ Below w0.heap.size w0 w' := by
  have hu40 := Try.underlying40
  have hu24 := Try.underlying24
  have BK0 := az B
  clear B
  have HK := az (KeepBut.refl w g none)
  have HB := az hB
  have GE0 := az hg
  clear hB hg
  have H := h
  clear h
  unfold impl_Body_move.f at H
  replace H := qH H
  obtain ⟨⟨t0, t1⟩, A1, H⟩ := H
  try dsimp only at H
  replace H := qH H
  obtain ⟨⟨u0, u1⟩, A2, H⟩ := H
  try dsimp only at H
  simp only [Option.some.injEq, Prod.mk.injEq] at H
  obtain ⟨rfl, rfl, rfl, rfl, rfl, rfl, e6, e7, rfl, rfl, rfl, rfl⟩ := H
  have E6 := az e6
  have E7 := az e7
  clear e6 e7
  go_enter Try.func57, Try.ntmps57
  go_wp2_with (first | ((with_reducible refine gate_dst (N := 3) rfl ?_); refine bx (N := 3) (cs := #[.int .i64 p0, .int .i64 p1]) (t := 24) ?_; intro gb1 hg w1 hbox hb; have BK1 := az hbox; have NB1_0 := nGB BK0 hg; have NB0_1 := nLB BK0 hg; replace BK0 := kBB BK0 hb; replace HK := az (KeepBut.trans (qK HK) (KeepBut.of_below hb g none) (.inl rfl)); replace HB := bS HB hb; clear hb hbox hg))
  replace BK0 := az (blk_drew BK0.out)
  replace BK1 := az (blk_drew BK1.out)
  replace HK := az (keep_drew HK.out)
  replace HB := az (below_drew1 HB.out)
  refine start_ (n := 8) (S := fun w' => w'.cell? ⟨g, 4, none⟩ = some (.int .i64 a4) ∧ w'.cell? ⟨g, 5, none⟩ = some (.int .i64 a5) ∧ w'.cell? ⟨gb1, 0, none⟩ = some (.int .i64 p0) ∧ w'.cell? ⟨gb1, 1, none⟩ = some (.int .i64 p1)) (ds := []) #[false, false, false, false, false, false, false, false] (by kernel_rfl) rfl rfl ⟨bc BK0 4, bc BK0 5, bc BK1 0, bc BK1 1⟩ (fun hHeld => ?_); refine with_tabW impl_Body_move.tab1 impl_Body_move.bits1 (fun HT_ HW_ => ?_)
  generalize w1.drew = w2 at BK0 BK1 HK HB hHeld ⊢
  refine pu 0 (some 5) (fl 8 1) HT_ ?_
  refine pu 1 (some 6) (fl 8 3) HT_ ?_
  refine pu 2 (some 7) (fl 8 7) HT_ ?_
  refine tk4 3 (some 8) (fl 8 15) HT_ HW_ hHeld ?_
  refine tk4 4 (some 9) (fl 8 31) HT_ HW_ hHeld ?_
  refine join_ (σ := Nat) 1 (fl 8 127) (fun s_ => [(10, .agg #[.int .i64 t0, .int .i64 t1]), (4, .pointer (some ⟨s_, 0, none⟩))]) (fun s_ w' => (w'.cell? ⟨g, 4, none⟩ = some (.int .i64 a4) ∧ w'.cell? ⟨g, 5, none⟩ = some (.int .i64 a5) ∧ w'.cell? ⟨gb1, 0, none⟩ = some (.int .i64 p0) ∧ w'.cell? ⟨gb1, 1, none⟩ = some (.int .i64 p1)) ∧ (w'.heap[g]? = some (.cells #[.int .i64 a0, .int .i64 a1, .int .i64 a2, .int .i64 a3, .int .i64 a4, .int .i64 a5, .int .i64 a6, .int .i64 a7, .int .i64 a8, .int .i64 a9, .int .i64 a10, .int .i64 a11] 40 (0, 0))) ∧ (w'.heap[gb1]? = some (.cells #[.int .i64 p0, .int .i64 p1] 24 (0, 0))) ∧ (w'.heap[s_]? = some (.cells #[.int .i64 0, .int .i64 0] 24 (0, 0))) ∧ (w.heap.size ≤ s_) ∧ (gb1 ≠ s_) ∧ (s_ ≠ gb1) ∧ (g ≠ s_) ∧ (s_ ≠ g) ∧ (KeepBut w w' g none) ∧ (w0.heap.size ≤ s_) ∧ (Below w0.heap.size w0 w')) ?_ ?_
  rotate_left
  · intro hCont
    refine two_ (i := 5) (j := 6) (Ni := some 10) (Nj := some 4) (fl 8 63) (fl 8 95) rfl rfl rfl rfl (two_of HT_.out (by kernel_rfl)) (by decide) (by decide) (fun K hK => ?_) (fun K hK => ?_)
    · skip
      refine go1 Try.func72 #[.agg #[.int .i64 a4, .int .i64 a5], .agg #[.int .i64 p0, .int .i64 p1]] ?_
      with_reducible refine (impl_Vec_plus.calls a4 a5 p0 p1 t0 t1 _ A1.out).mono ?_
      rintro e w3 ⟨rfl, hb⟩
      refine ⟨_, rfl, ?_⟩
      replace BK0 := kBB BK0 hb
      replace BK1 := kBB BK1 hb
      replace HK := az (KeepBut.trans (qK HK) (KeepBut.of_below hb g none) (.inl rfl)); replace HB := bS HB hb
      clear hb
      refine hK.out _ _ ⟨bc BK0 4, bc BK0 5, bc BK1 0, bc BK1 1⟩ (fun hHeld => ?_)
      clear hK K
      refine nm (some 10) ?_
      refine on 6 (some 4) (fl 8 127) HT_ (fun K hK => ?_)
      refine box_step ?hg (N := 4) ?hd (cs := #[.int .i64 0, .int .i64 0]) (t := 24) ?hr ?_; (case hd => rfl); (case hg => rfl); (case hr => first | (go_simp; done) | (go_simp; rfl))
      intro gb2 hg w4 hbox hb
      have BK2 := az hbox
      have GW2 := az (gK hg (qK HK) : w.heap.size ≤ gb2)
      have GE2 := az (gE hg (qL HB) : w0.heap.size ≤ gb2)
      obtain ⟨NB0_2, NB2_0⟩ := nPB BK0 hg
      obtain ⟨NB1_2, NB2_1⟩ := nPB BK1 hg
      replace BK0 := kBB BK0 hb
      replace BK1 := kBB BK1 hb
      replace HK := az (KeepBut.trans (qK HK) (KeepBut.of_below hb g none) (.inl rfl)); replace HB := bS HB hb
      clear hb hbox hg
      refine hK.out _ _ ⟨bc BK0 4, bc BK0 5, bc BK1 0, bc BK1 1⟩ (fun hHeld => ?_)
      clear hK K
      refine nm (some 4) ?_
      exact nrm (hCont (gb2) _ ⟨hHeld, (qB BK0), (qB BK1), (qB BK2), GW2.out, NB1_2.out, NB2_1.out, NB0_2.out, NB2_0.out, (qK HK), GE2.out, (qL HB)⟩)
    skip
    refine box_step ?hg (N := 4) ?hd (cs := #[.int .i64 0, .int .i64 0]) (t := 24) ?hr ?_; (case hd => rfl); (case hg => rfl); (case hr => first | (go_simp; done) | (go_simp; rfl))
    intro gb2 hg w3 hbox hb
    have BK2 := az hbox
    have GW2 := az (gK hg (qK HK) : w.heap.size ≤ gb2)
    have GE2 := az (gE hg (qL HB) : w0.heap.size ≤ gb2)
    obtain ⟨NB0_2, NB2_0⟩ := nPB BK0 hg
    obtain ⟨NB1_2, NB2_1⟩ := nPB BK1 hg
    replace BK0 := kBB BK0 hb
    replace BK1 := kBB BK1 hb
    replace HK := az (KeepBut.trans (qK HK) (KeepBut.of_below hb g none) (.inl rfl)); replace HB := bS HB hb
    clear hb hbox hg
    refine hK.out _ _ ⟨bc BK0 4, bc BK0 5, bc BK1 0, bc BK1 1⟩ (fun hHeld => ?_)
    clear hK K
    refine nm (some 4) ?_
    refine on 5 (some 10) (fl 8 127) HT_ (fun K hK => ?_)
    refine go1 Try.func72 #[.agg #[.int .i64 a4, .int .i64 a5], .agg #[.int .i64 p0, .int .i64 p1]] ?_
    with_reducible refine (impl_Vec_plus.calls a4 a5 p0 p1 t0 t1 _ A1.out).mono ?_
    rintro e w4 ⟨rfl, hb⟩
    refine ⟨_, rfl, ?_⟩
    replace BK0 := kBB BK0 hb
    replace BK1 := kBB BK1 hb
    replace BK2 := kBB BK2 hb
    replace HK := az (KeepBut.trans (qK HK) (KeepBut.of_below hb g none) (.inl rfl)); replace HB := bS HB hb
    clear hb
    refine hK.out _ _ ⟨bc BK0 4, bc BK0 5, bc BK1 0, bc BK1 1⟩ (fun hHeld => ?_)
    clear hK K
    refine nm (some 10) ?_
    exact nrm (hCont (gb2) _ ⟨hHeld, (qB BK0), (qB BK1), (qB BK2), GW2.out, NB1_2.out, NB2_1.out, NB0_2.out, NB2_0.out, (qK HK), GE2.out, (qL HB)⟩)
  rintro gb2 w4 ⟨hS_, h0_, h1_, h2_, h3_, h4_, h5_, h6_, h7_, h8_, h9_, h10_⟩
  replace BK0 := az h0_
  replace BK1 := az h1_
  have BK2 := az h2_
  have GW2 := az h3_
  have NB1_2 := az h4_
  have NB2_1 := az h5_
  have NB0_2 := az h6_
  have NB2_0 := az h7_
  replace HK := az h8_
  have GE2 := az h9_
  replace HB := az h10_
  clear h0_ h1_ h2_ h3_ h4_ h5_ h6_ h7_ h8_ h9_ h10_
  have hHeld := hS_
  refine nmp ?_
  refine on 7 (none) (fl 8 255) HT_ (fun K hK => ?_)
  have hs0 : w4.cell? ⟨gb2, 0, none⟩ = some (.int .i64 0) := bc BK2 0
  have hfs0 := blk_frozen BK2.out 0
  have hs1 : w4.cell? ⟨gb2, 1, none⟩ = some (.int .i64 0) := bc BK2 1
  have hfs1 := blk_frozen BK2.out 1
  have hns0 := NB0_2.out
  have hns1 := NB1_2.out
  have hns2 := NB2_0.out
  have hns3 := NB2_1.out
  refine skip_ (w1 := ?_) (by rfl) rfl ?_ ?_
  rotate_left
  · go_simp
    rfl
  refine hK.out _ _ ⟨cf NB0_2 (cf NB0_2 hHeld.1), cf NB0_2 (cf NB0_2 hHeld.2.1), cf NB1_2 (cf NB1_2 hHeld.2.2.1), cf NB1_2 (cf NB1_2 hHeld.2.2.2)⟩ (fun hHeld => ?_)
  clear hK K
  refine done_ (done_of HT_.out (by kernel_rfl)) ?_
  clear hHeld
  obtain ⟨w5, hw_⟩ : ∃ x, x = ((w4.setCell ⟨gb2, 0, none⟩ (.int .i64 t0)).setCell ⟨gb2, 1, none⟩ (.int .i64 t1)) := ⟨_, rfl⟩
  replace BK0 : Aside0 (w5.heap[g]? = some (.cells #[.int .i64 a0, .int .i64 a1, .int .i64 a2, .int .i64 a3, .int .i64 a4, .int .i64 a5, .int .i64 a6, .int .i64 a7, .int .i64 a8, .int .i64 a9, .int .i64 a10, .int .i64 a11] 40 (0, 0))) := ⟨by rw [hw_]; exact qF BK0⟩
  replace BK2 : Aside0 (w5.heap[gb2]? = some (.cells #[.int .i64 t0, .int .i64 t1] 24 (0, 0))) := ⟨by rw [hw_]; exact qP BK2⟩
  replace HK : Aside0 (KeepBut w w5 g none) := ⟨by rw [hw_]; exact (qK HK)⟩
  replace HB : Aside0 (Below w0.heap.size w0 w5) := ⟨by rw [hw_]; exact qL HB⟩
  rw [← hw_]
  clear hw_
  obtain ⟨zc_0, zc_1⟩ := cz2 BK2.out
  have fc_0 := blk_frozen BK2.out 0
  have fc_1 := blk_frozen BK2.out 1
  go_wp2_with (first | ((with_reducible refine gate_callee (f := 71) rfl ?_); refine gl (some 13) Try.func71 #[.agg #[.int .i64 t0, .int .i64 t1], .int .i64 2560000] ?_; (with_reducible refine (impl_Vec_clamped.calls t0 t1 2560000 u0 u1 _ A2.out).mono ?_); rintro e w6 ⟨rfl, hb⟩; refine ⟨_, rfl, ?_⟩; replace BK0 := kBB BK0 hb; replace BK2 := kBB BK2 hb; replace HK := az (KeepBut.trans (qK HK) (KeepBut.of_below hb g none) (.inl rfl)); replace HB := bS HB hb; clear hb; obtain ⟨zb_0, zb_1, zb_2, zb_3, zb_4, zb_5, zb_6, zb_7, zb_8, zb_9, zb_10, zb_11⟩ := cz12 BK0.out; obtain ⟨fb_0, fb_1, fb_2, fb_3, fb_4, fb_5, fb_6, fb_7, fb_8, fb_9, fb_10, fb_11⟩ := fz12 BK0.out))
  obtain ⟨w7, hw_⟩ : ∃ x, x = ((w6.setCell ⟨g, 4, none⟩ (.int .i64 u0)).setCell ⟨g, 5, none⟩ (.int .i64 u1)) := ⟨_, rfl⟩
  replace BK0 : Aside0 (w7.heap[g]? = some (.cells #[.int .i64 a0, .int .i64 a1, .int .i64 a2, .int .i64 a3, .int .i64 u0, .int .i64 u1, .int .i64 a6, .int .i64 a7, .int .i64 a8, .int .i64 a9, .int .i64 a10, .int .i64 a11] 40 (0, 0))) := ⟨by rw [hw_]; exact qP BK0⟩
  replace BK2 : Aside0 (w7.heap[gb2]? = some (.cells #[.int .i64 t0, .int .i64 t1] 24 (0, 0))) := ⟨by rw [hw_]; exact qF BK2⟩
  replace HK : Aside0 (KeepBut w w7 g none) := ⟨by rw [hw_]; exact (qK HK)⟩
  replace HB : Aside0 (Below w0.heap.size w0 w7) := ⟨by rw [hw_]; exact qL HB⟩
  rw [← hw_]
  clear hw_
  replace BK0 := az (blk_drew BK0.out)
  replace BK2 := az (blk_drew BK2.out)
  replace HK := az (keep_drew HK.out)
  replace HB := az (below_drew1 HB.out)
  refine start_ (n := 8) (S := fun w' => w'.cell? ⟨g, 4, none⟩ = some (.int .i64 u0) ∧ w'.cell? ⟨gb2, 0, none⟩ = some (.int .i64 t0)) (ds := []) #[false, false, false, false, false, false, false, false] (by kernel_rfl) rfl rfl ⟨bc BK0 4, bc BK2 0⟩ (fun hHeld => ?_); refine with_tabW impl_Body_move.tab3 impl_Body_move.bits3 (fun HT_ HW_ => ?_)
  generalize w7.drew = w8 at BK0 BK2 HK HB hHeld ⊢
  refine pu 0 (some 16) (fl 8 1) HT_ ?_
  refine pu 1 (some 17) (fl 8 3) HT_ ?_
  refine pu 2 (some 18) (fl 8 7) HT_ ?_
  refine pu 3 (some 19) (fl 8 15) HT_ ?_
  refine tk2 4 (some 20) (fl 8 31) HT_ HW_ hHeld ?_
  refine pu 5 (some 21) (fl 8 63) HT_ ?_
  refine tk2 6 (some 22) (fl 8 127) HT_ HW_ hHeld ?_
  refine pu 7 (some 23) (fl 8 255) HT_ ?_
  refine done_ (done_of HT_.out (by kernel_rfl)) ?_
  clear hHeld
  by_cases c : u0 = t0
  · subst c
    have cb1 : (u0 != u0) = false := by simp
    rw [cb1]
    go_wp2
    replace BK0 := az (blk_drew BK0.out)
    replace BK2 := az (blk_drew BK2.out)
    replace HK := az (keep_drew HK.out)
    replace HB := az (below_drew1 HB.out)
    refine start_ (n := 8) (S := fun w' => w'.cell? ⟨g, 5, none⟩ = some (.int .i64 u1) ∧ w'.cell? ⟨gb2, 1, none⟩ = some (.int .i64 t1)) (ds := []) #[false, false, false, false, false, false, false, false] (by kernel_rfl) rfl rfl ⟨bc BK0 5, bc BK2 1⟩ (fun hHeld => ?_); refine with_tabW impl_Body_move.tab5 impl_Body_move.bits5 (fun HT_ HW_ => ?_)
    generalize w8.drew = w8b at BK0 BK2 HK HB hHeld ⊢
    refine pu 0 (some 28) (fl 8 1) HT_ ?_
    refine pu 1 (some 29) (fl 8 3) HT_ ?_
    refine pu 2 (some 30) (fl 8 7) HT_ ?_
    refine pu 3 (some 31) (fl 8 15) HT_ ?_
    refine tk2 4 (some 32) (fl 8 31) HT_ HW_ hHeld ?_
    refine pu 5 (some 33) (fl 8 63) HT_ ?_
    refine tk2 6 (some 34) (fl 8 127) HT_ HW_ hHeld ?_
    refine pu 7 (some 35) (fl 8 255) HT_ ?_
    refine done_ (done_of HT_.out (by kernel_rfl)) ?_
    clear hHeld
    by_cases d : u1 = t1
    · subst d
      have db1 : (u1 != u1) = false := by simp
      rw [db1]
      go_wp2
      first | go_end0 | ((try simp only [Exit.inBlock, Exit.then]); refine bodyPost_ret (results_none rfl _ _ _) rfl ?_)
      obtain rfl : a6 = r6 := by have e_ := E6.out; simpa using e_
      obtain rfl : a7 = r7 := by have e_ := E7.out; simpa using e_
      exact ⟨qE, qB BK0, qK HK, qL HB⟩
    have db0 : (u1 == t1) = false := beq_eq_false_iff_ne.mpr d
    have db1 : (u1 != t1) = true := bne_iff_ne.mpr d
    have dA := az d
    clear d
    rw [db1]
    obtain ⟨ze_0, ze_1, ze_2, ze_3, ze_4, ze_5, ze_6, ze_7, ze_8, ze_9, ze_10, ze_11⟩ := cz12 BK0.out
    obtain ⟨fe_0, fe_1, fe_2, fe_3, fe_4, fe_5, fe_6, fe_7, fe_8, fe_9, fe_10, fe_11⟩ := fz12 BK0.out
    go_wp2
    first | go_end0 | ((try simp only [Exit.inBlock, Exit.then]); refine bodyPost_ret (results_none rfl _ _ _) rfl ?_)
    obtain rfl : a6 = r6 := by have e_ := E6.out; simpa using e_
    obtain rfl : 0 = r7 := by have e_ := E7.out; rwa [if_neg dA.out] at e_
    exact ⟨qE, qP BK0, qK HK, qL HB⟩
  have cb0 : (u0 == t0) = false := beq_eq_false_iff_ne.mpr c
  have cb1 : (u0 != t0) = true := bne_iff_ne.mpr c
  have cA := az c
  clear c
  rw [cb1]
  obtain ⟨zd_0, zd_1, zd_2, zd_3, zd_4, zd_5, zd_6, zd_7, zd_8, zd_9, zd_10, zd_11⟩ := cz12 BK0.out
  obtain ⟨fd_0, fd_1, fd_2, fd_3, fd_4, fd_5, fd_6, fd_7, fd_8, fd_9, fd_10, fd_11⟩ := fz12 BK0.out
  go_wp2
  obtain ⟨w9, hw_⟩ : ∃ x, x = (w8.setCell ⟨g, 6, none⟩ (.int .i64 0)) := ⟨_, rfl⟩
  replace BK0 : Aside0 (w9.heap[g]? = some (.cells #[.int .i64 a0, .int .i64 a1, .int .i64 a2, .int .i64 a3, .int .i64 u0, .int .i64 u1, .int .i64 0, .int .i64 a7, .int .i64 a8, .int .i64 a9, .int .i64 a10, .int .i64 a11] 40 (0, 0))) := ⟨by rw [hw_]; exact qP BK0⟩
  replace BK2 : Aside0 (w9.heap[gb2]? = some (.cells #[.int .i64 t0, .int .i64 t1] 24 (0, 0))) := ⟨by rw [hw_]; exact qF BK2⟩
  replace HK : Aside0 (KeepBut w w9 g none) := ⟨by rw [hw_]; exact (qK HK)⟩
  replace HB : Aside0 (Below w0.heap.size w0 w9) := ⟨by rw [hw_]; exact qL HB⟩
  rw [← hw_]
  clear hw_
  replace BK0 := az (blk_drew BK0.out)
  replace BK2 := az (blk_drew BK2.out)
  replace HK := az (keep_drew HK.out)
  replace HB := az (below_drew1 HB.out)
  refine start_ (n := 8) (S := fun w' => w'.cell? ⟨g, 5, none⟩ = some (.int .i64 u1) ∧ w'.cell? ⟨gb2, 1, none⟩ = some (.int .i64 t1)) (ds := []) #[false, false, false, false, false, false, false, false] (by kernel_rfl) rfl rfl ⟨bc BK0 5, bc BK2 1⟩ (fun hHeld => ?_); refine with_tabW impl_Body_move.tab5 impl_Body_move.bits5 (fun HT_ HW_ => ?_)
  generalize w9.drew = w9b at BK0 BK2 HK HB hHeld ⊢
  refine pu 0 (some 28) (fl 8 1) HT_ ?_
  refine pu 1 (some 29) (fl 8 3) HT_ ?_
  refine pu 2 (some 30) (fl 8 7) HT_ ?_
  refine pu 3 (some 31) (fl 8 15) HT_ ?_
  refine tk2 4 (some 32) (fl 8 31) HT_ HW_ hHeld ?_
  refine pu 5 (some 33) (fl 8 63) HT_ ?_
  refine tk2 6 (some 34) (fl 8 127) HT_ HW_ hHeld ?_
  refine pu 7 (some 35) (fl 8 255) HT_ ?_
  refine done_ (done_of HT_.out (by kernel_rfl)) ?_
  clear hHeld
  by_cases d : u1 = t1
  · subst d
    have db1 : (u1 != u1) = false := by simp
    rw [db1]
    go_wp2
    first | go_end0 | ((try simp only [Exit.inBlock, Exit.then]); refine bodyPost_ret (results_none rfl _ _ _) rfl ?_)
    obtain rfl : 0 = r6 := by have e_ := E6.out; rwa [if_neg cA.out] at e_
    obtain rfl : a7 = r7 := by have e_ := E7.out; simpa using e_
    exact ⟨qE, qB BK0, qK HK, qL HB⟩
  have db0 : (u1 == t1) = false := beq_eq_false_iff_ne.mpr d
  have db1 : (u1 != t1) = true := bne_iff_ne.mpr d
  have dA := az d
  clear d
  rw [db1]
  obtain ⟨ze_0, ze_1, ze_2, ze_3, ze_4, ze_5, ze_6, ze_7, ze_8, ze_9, ze_10, ze_11⟩ := cz12 BK0.out
  obtain ⟨fe_0, fe_1, fe_2, fe_3, fe_4, fe_5, fe_6, fe_7, fe_8, fe_9, fe_10, fe_11⟩ := fz12 BK0.out
  go_wp2
  first | go_end0 | ((try simp only [Exit.inBlock, Exit.then]); refine bodyPost_ret (results_none rfl _ _ _) rfl ?_)
  obtain rfl : 0 = r6 := by have e_ := E6.out; rwa [if_neg cA.out] at e_
  obtain rfl : 0 = r7 := by have e_ := E7.out; rwa [if_neg dA.out] at e_
  exact ⟨qE, qP BK0, qK HK, qL HB⟩

/-! ### impl_Body_speed: function 58 -/
def impl_Body_speed.f (a0_0 : Int) (a0_1 : Int) (a0_2 : Int) (a0_3 : Int) (a0_4 : Int) (a0_5 : Int) (a0_6 : Int) (a0_7 : Int) (a0_8 : Int) (a0_9 : Int) (a0_10 : Int) (a0_11 : Int) : Option (Int × Int) := (impl_Body_fixed.f a0_0 a0_1 a0_2 a0_3 a0_4 a0_5 a0_6 a0_7 a0_8 a0_9 a0_10 a0_11).bind fun t464 => (if t464 = true then (some (0, 0)) else (if a0_8 = 0 then (none) else (some (wrap64 (Int.tdiv a0_6 a0_8), wrap64 (Int.tdiv a0_7 a0_8)))))
def impl_Body_speed.T3 : Bool × List (List Nat × List Nat) := (true, [([], []), ([0], [0]), ([1], [1]), ([], []), ([3], [3]), ([2, 4], [2, 4]), ([], []), ([6], [6]), ([7], [7]), ([], []), ([9], [9]), ([8, 10], [8, 10]), ([5, 11], [5, 11]), ([12, 0, 1, 2, 3, 4, 5, 6, 7, 8, 9, 10, 11, 12], [12])])
def impl_Body_speed.B3 : List Nat := [0, 1, 3, 0, 8, 31, 0, 64, 192, 0, 512, 1984, 4095, 8191]
theorem impl_Body_speed.tab3 : rtab .any (opsOf Try.f58 3) = impl_Body_speed.T3 := by kernel_rfl
theorem impl_Body_speed.bits3 : waitsOk impl_Body_speed.T3.2 impl_Body_speed.B3 = true := by kernel_rfl
set_option maxHeartbeats 8000000 in
set_option maxRecDepth 100000 in
theorem impl_Body_speed.calls (a0_0 : Int) (a0_1 : Int) (a0_2 : Int) (a0_3 : Int) (a0_4 : Int) (a0_5 : Int) (a0_6 : Int) (a0_7 : Int) (a0_8 : Int) (a0_9 : Int) (a0_10 : Int) (a0_11 : Int) (r1 : Int) (r2 : Int) (w : World) (h : impl_Body_speed.f a0_0 a0_1 a0_2 a0_3 a0_4 a0_5 a0_6 a0_7 a0_8 a0_9 a0_10 a0_11 = some (r1, r2)) :
    Calls Try.prog 58 #[.agg #[.int .i64 a0_0, .int .i64 a0_1, .int .i64 a0_2, .int .i64 a0_3, .int .i64 a0_4, .int .i64 a0_5, .int .i64 a0_6, .int .i64 a0_7, .int .i64 a0_8, .int .i64 a0_9, .int .i64 a0_10, .int .i64 a0_11]] w fun e w' => e = .returned (.agg #[.int .i64 r1, .int .i64 r2]) ∧ Below w.heap.size w w' := by
  have hu40 := Try.underlying40
  have hu24 := Try.underlying24
  have HB := az (Below.refl w.heap.size w)
  have H : ((impl_Body_fixed.f a0_0 a0_1 a0_2 a0_3 a0_4 a0_5 a0_6 a0_7 a0_8 a0_9 a0_10 a0_11).bind fun t464 => (if t464 = true then (some (0, 0)) else (if a0_8 = 0 then (none) else (some (wrap64 (Int.tdiv a0_6 a0_8), wrap64 (Int.tdiv a0_7 a0_8)))))) = some (r1, r2) := h
  clear h
  replace H := qH H
  obtain ⟨t464, A2, H⟩ := H
  try dsimp only at H
  by_cases c3 : t464 = true
  · subst c3
    replace H := qT H
    simp only [Option.some.injEq, Prod.mk.injEq] at H
    obtain ⟨rfl, rfl⟩ := H
    go_enter Try.func58, Try.ntmps58
    go_wp2_with (first | ((with_reducible refine gate_dst (N := 1) rfl ?_); refine bx (N := 1) (cs := #[.int .i64 a0_0, .int .i64 a0_1, .int .i64 a0_2, .int .i64 a0_3, .int .i64 a0_4, .int .i64 a0_5, .int .i64 a0_6, .int .i64 a0_7, .int .i64 a0_8, .int .i64 a0_9, .int .i64 a0_10, .int .i64 a0_11]) (t := 40) ?_; intro gb462 hg w4 hbox hb; have BK462 := az hbox; have GW462 := az ((gE hg (qL HB) : w.heap.size ≤ gb462)); have GE462 := GW462; replace HB := bS HB hb; clear hb hbox hg) | ((with_reducible refine gate_dst (N := 2) rfl ?_); refine bx (N := 2) (cs := #[.int .i64 0, .int .i64 0]) (t := 24) ?_; intro gb463 hg w5 hbox hb; have BK463 := az hbox; have GW463 := az ((gE hg (qL HB) : w.heap.size ≤ gb463)); have GE463 := GW463; obtain ⟨NB462_463, NB463_462⟩ := nPB BK462 hg; replace BK462 := kBB BK462 hb; replace HB := bS HB hb; clear hb hbox hg; have hnb6 := NB462_463.out; have hnc6 := NB463_462.out; obtain ⟨hcz7_0, hcz7_1, hcz7_2, hcz7_3, hcz7_4, hcz7_5, hcz7_6, hcz7_7, hcz7_8, hcz7_9, hcz7_10, hcz7_11⟩ := cz12 BK462.out; obtain ⟨hfz7_0, hfz7_1, hfz7_2, hfz7_3, hfz7_4, hfz7_5, hfz7_6, hfz7_7, hfz7_8, hfz7_9, hfz7_10, hfz7_11⟩ := fz12 BK462.out) | ((with_reducible refine gate_callee (f := 69) rfl ?_); refine gl (some 4) Try.func69 #[.agg #[.int .i64 a0_0, .int .i64 a0_1, .int .i64 a0_2, .int .i64 a0_3, .int .i64 a0_4, .int .i64 a0_5, .int .i64 a0_6, .int .i64 a0_7, .int .i64 a0_8, .int .i64 a0_9, .int .i64 a0_10, .int .i64 a0_11]] ?_; (with_reducible refine (impl_Body_fixed.calls a0_0 a0_1 a0_2 a0_3 a0_4 a0_5 a0_6 a0_7 a0_8 a0_9 a0_10 a0_11 true _ A2.out).mono ?_); rintro e w8 ⟨rfl, hb⟩; refine ⟨_, rfl, ?_⟩; replace BK462 := kBB BK462 hb; replace BK463 := kBB BK463 hb; replace HB := bS HB hb; clear hb; obtain ⟨hcz9_0, hcz9_1⟩ := cz2 BK463.out; have hfz9_0 := blk_frozen BK463.out 0; have hfz9_1 := blk_frozen BK463.out 1))
    refine bodyPost_ret (results_cell_row rfl _ _ gb463 24 #[.int .i64 0, .int .i64 0] (0, 0) _ rfl (qP BK463) Try.underlying24 rfl (by kernel_rfl)) rfl ?_
    exact ⟨qE, qL HB⟩
  replace c3 := Bool.eq_false_iff.mpr c3
  subst c3
  replace H := qU H
  by_cases c10 : a0_8 = 0
  · rw [if_pos c10] at H
    exact absurd H (by simp)
  rw [if_neg c10] at H
  have c10b0 : (a0_8 == 0) = false := beq_eq_false_iff_ne.mpr c10
  have c10b1 : (a0_8 != 0) = true := bne_iff_ne.mpr c10
  simp only [Option.some.injEq, Prod.mk.injEq] at H
  obtain ⟨rfl, rfl⟩ := H
  go_enter Try.func58, Try.ntmps58
  try go_wp2_with (first | ((with_reducible refine gate_dst (N := 1) rfl ?_); refine bx (N := 1) (cs := #[.int .i64 a0_0, .int .i64 a0_1, .int .i64 a0_2, .int .i64 a0_3, .int .i64 a0_4, .int .i64 a0_5, .int .i64 a0_6, .int .i64 a0_7, .int .i64 a0_8, .int .i64 a0_9, .int .i64 a0_10, .int .i64 a0_11]) (t := 40) ?_; intro gb462 hg w11 hbox hb; have BK462 := az hbox; have GW462 := az ((gE hg (qL HB) : w.heap.size ≤ gb462)); have GE462 := GW462; replace HB := bS HB hb; clear hb hbox hg) | ((with_reducible refine gate_dst (N := 2) rfl ?_); refine bx (N := 2) (cs := #[.int .i64 0, .int .i64 0]) (t := 24) ?_; intro gb463 hg w12 hbox hb; have BK463 := az hbox; have GW463 := az ((gE hg (qL HB) : w.heap.size ≤ gb463)); have GE463 := GW463; obtain ⟨NB462_463, NB463_462⟩ := nPB BK462 hg; replace BK462 := kBB BK462 hb; replace HB := bS HB hb; clear hb hbox hg; have hnb13 := NB462_463.out; have hnc13 := NB463_462.out; obtain ⟨hcz14_0, hcz14_1, hcz14_2, hcz14_3, hcz14_4, hcz14_5, hcz14_6, hcz14_7, hcz14_8, hcz14_9, hcz14_10, hcz14_11⟩ := cz12 BK462.out; obtain ⟨hfz14_0, hfz14_1, hfz14_2, hfz14_3, hfz14_4, hfz14_5, hfz14_6, hfz14_7, hfz14_8, hfz14_9, hfz14_10, hfz14_11⟩ := fz12 BK462.out) | ((with_reducible refine gate_callee (f := 69) rfl ?_); refine gl (some 4) Try.func69 #[.agg #[.int .i64 a0_0, .int .i64 a0_1, .int .i64 a0_2, .int .i64 a0_3, .int .i64 a0_4, .int .i64 a0_5, .int .i64 a0_6, .int .i64 a0_7, .int .i64 a0_8, .int .i64 a0_9, .int .i64 a0_10, .int .i64 a0_11]] ?_; (with_reducible refine (impl_Body_fixed.calls a0_0 a0_1 a0_2 a0_3 a0_4 a0_5 a0_6 a0_7 a0_8 a0_9 a0_10 a0_11 false _ A2.out).mono ?_); rintro e w15 ⟨rfl, hb⟩; refine ⟨_, rfl, ?_⟩; replace BK462 := kBB BK462 hb; replace BK463 := kBB BK463 hb; replace HB := bS HB hb; clear hb))
  replace BK462 := az (blk_drew BK462.out)
  replace BK463 := az (blk_drew BK463.out)
  replace HB := az (below_drew1 HB.out)
  refine start_ (n := 14) (S := fun w' => w'.cell? ⟨gb462, 0, none⟩ = some (.int .i64 a0_0) ∧ w'.cell? ⟨gb462, 1, none⟩ = some (.int .i64 a0_1) ∧ w'.cell? ⟨gb462, 2, none⟩ = some (.int .i64 a0_2) ∧ w'.cell? ⟨gb462, 3, none⟩ = some (.int .i64 a0_3) ∧ w'.cell? ⟨gb462, 4, none⟩ = some (.int .i64 a0_4) ∧ w'.cell? ⟨gb462, 5, none⟩ = some (.int .i64 a0_5) ∧ w'.cell? ⟨gb462, 6, none⟩ = some (.int .i64 a0_6) ∧ w'.cell? ⟨gb462, 7, none⟩ = some (.int .i64 a0_7) ∧ w'.cell? ⟨gb462, 8, none⟩ = some (.int .i64 a0_8) ∧ w'.cell? ⟨gb462, 9, none⟩ = some (.int .i64 a0_9) ∧ w'.cell? ⟨gb462, 10, none⟩ = some (.int .i64 a0_10) ∧ w'.cell? ⟨gb462, 11, none⟩ = some (.int .i64 a0_11)) (ds := []) #[false, false, false, false, false, false, false, false, false, false, false, false, false, false] (by kernel_rfl) rfl rfl ⟨bc BK462 0, bc BK462 1, bc BK462 2, bc BK462 3, bc BK462 4, bc BK462 5, bc BK462 6, bc BK462 7, bc BK462 8, bc BK462 9, bc BK462 10, bc BK462 11⟩ (fun hHeld => ?_); refine with_tabW impl_Body_speed.tab3 impl_Body_speed.bits3 (fun HT_ HW_ => ?_)
  generalize w15.drew = w16 at BK462 BK463 HB hHeld ⊢
  refine pu 0 (some 6) (fl 14 1) HT_ ?_
  refine pu 1 (some 7) (fl 14 3) HT_ ?_
  refine pu 3 (some 9) (fl 14 11) HT_ ?_
  refine pu 6 (some 12) (fl 14 75) HT_ ?_
  refine pu 7 (some 13) (fl 14 203) HT_ ?_
  refine pu 9 (some 15) (fl 14 715) HT_ ?_
  refine tk12 2 (some 8) (fl 14 719) HT_ HW_ hHeld ?_
  refine tk12 4 (some 10) (fl 14 735) HT_ HW_ hHeld ?_
  refine pu 5 (some 11) (fl 14 767) HT_ ?_
  refine tk12 8 (some 14) (fl 14 1023) HT_ HW_ hHeld ?_
  refine tk12 10 (some 16) (fl 14 2047) HT_ HW_ hHeld ?_
  refine pu 11 (some 17) (fl 14 4095) HT_ ?_
  refine pu 12 (some 18) (fl 14 8191) HT_ ?_
  refine on 13 (none) (fl 14 16383) HT_ (fun K hK => ?_)
  have hs17 : w16.cell? ⟨gb463, 0, none⟩ = some (.int .i64 0) := bc BK463 0
  have hfs17 := blk_frozen BK463.out 0
  have hns17_0 := NB462_463.out
  have hms17_0 := NB463_462.out
  have hs18 : w16.cell? ⟨gb463, 1, none⟩ = some (.int .i64 0) := bc BK463 1
  have hfs18 := blk_frozen BK463.out 1
  have hns18_0 := NB462_463.out
  have hms18_0 := NB463_462.out
  refine skip_ (w1 := ?_) ?hw ?hn ?_ ?_; (case hw => unfold Region.wanted; rfl); (case hn => rfl)
  rotate_left
  · go_simp
    rfl
  refine hK.out _ _ ⟨(cf NB462_463 ((cf NB462_463 (hHeld.1)))), (cf NB462_463 ((cf NB462_463 (hHeld.2.1)))), (cf NB462_463 ((cf NB462_463 (hHeld.2.2.1)))), (cf NB462_463 ((cf NB462_463 (hHeld.2.2.2.1)))), (cf NB462_463 ((cf NB462_463 (hHeld.2.2.2.2.1)))), (cf NB462_463 ((cf NB462_463 (hHeld.2.2.2.2.2.1)))), (cf NB462_463 ((cf NB462_463 (hHeld.2.2.2.2.2.2.1)))), (cf NB462_463 ((cf NB462_463 (hHeld.2.2.2.2.2.2.2.1)))), (cf NB462_463 ((cf NB462_463 (hHeld.2.2.2.2.2.2.2.2.1)))), (cf NB462_463 ((cf NB462_463 (hHeld.2.2.2.2.2.2.2.2.2.1)))), (cf NB462_463 ((cf NB462_463 (hHeld.2.2.2.2.2.2.2.2.2.2.1)))), (cf NB462_463 ((cf NB462_463 (hHeld.2.2.2.2.2.2.2.2.2.2.2))))⟩ (fun hHeld => ?_)
  clear hK K
  refine done_ (done_of HT_.out (by kernel_rfl)) ?_
  try go_wp2
  refine bodyPost_ret (results_cell_row rfl _ _ gb463 24 #[.int .i64 (wrap64 (Int.tdiv a0_6 a0_8)), .int .i64 (wrap64 (Int.tdiv a0_7 a0_8))] (0, 0) _ rfl (qP BK463) Try.underlying24 rfl (by kernel_rfl)) rfl ?_
  exact ⟨qE, qL HB⟩

/-! ### impl_BodyMove: function 24 -/
def impl_BodyMove.f (k : Nat) (a0 a1 a2 a3 a4 a5 a6 a7 a8 a9 a10 a11 : Int) : Option (Int × Int × Int × Int × Int × Int × Int × Int × Int × Int × Int × Int) := (impl_BodyOk.f k a0 a1 a2 a3 a4 a5 a6 a7 a8 a9 a10 a11).bind fun t => if t = true then (impl_Body_speed.f a0 a1 a2 a3 a4 a5 a6 a7 a8 a9 a10 a11).bind fun v => impl_Body_move.f a0 a1 a2 a3 a4 a5 a6 a7 a8 a9 a10 a11 v.1 v.2 else some (0, 0, 0, 0, 0, 0, 0, 0, 0, 0, 0, 0)
theorem impl_BodyMove.mono : ∀ a0 a1 a2 a3 a4 a5 a6 a7 a8 a9 a10 a11 k, LeO (impl_BodyMove.f k a0 a1 a2 a3 a4 a5 a6 a7 a8 a9 a10 a11) (impl_BodyMove.f (k + 1) a0 a1 a2 a3 a4 a5 a6 a7 a8 a9 a10 a11) := by
  intro a0 a1 a2 a3 a4 a5 a6 a7 a8 a9 a10 a11 k
  unfold impl_BodyMove.f
  exact LeO.bind (impl_BodyOk.mono _ _ _ _ _ _ _ _ _ _ _ _ _) (fun _ => LeO.refl _)
set_option maxHeartbeats 8000000 in
set_option maxRecDepth 100000 in
theorem impl_BodyMove.calls (k : Nat) (a0 a1 a2 a3 a4 a5 a6 a7 a8 a9 a10 a11 r0 r1 r2 r3 r4 r5 r6 r7 r8 r9 r10 r11 : Int) (w : World) (h : impl_BodyMove.f k a0 a1 a2 a3 a4 a5 a6 a7 a8 a9 a10 a11 = some (r0, r1, r2, r3, r4, r5, r6, r7, r8, r9, r10, r11)) :
    Calls Try.prog 24 #[.agg #[.int .i64 a0, .int .i64 a1, .int .i64 a2, .int .i64 a3, .int .i64 a4, .int .i64 a5, .int .i64 a6, .int .i64 a7, .int .i64 a8, .int .i64 a9, .int .i64 a10, .int .i64 a11]] w fun e w' => e = .returned (.agg #[.int .i64 r0, .int .i64 r1, .int .i64 r2, .int .i64 r3, .int .i64 r4, .int .i64 r5, .int .i64 r6, .int .i64 r7, .int .i64 r8, .int .i64 r9, .int .i64 r10, .int .i64 r11]) ∧ Below w.heap.size w w' := by
  have hu40 := Try.underlying40
  have hu24 := Try.underlying24
  have HB := az (Below.refl w.heap.size w)
  have H := h
  clear h
  unfold impl_BodyMove.f at H
  replace H := qH H
  obtain ⟨t1, A1, H⟩ := H
  try dsimp only at H
  by_cases c : t1 = true
  · subst c
    rw [if_pos rfl] at H
    replace H := qH H
    obtain ⟨⟨v0, v1⟩, A2, H⟩ := H
    try dsimp only at H
    have A3 := az H
    clear H
    go_enter Try.func24, Try.ntmps24
    go_wp2_with (first | ((with_reducible refine gate_dst (N := 1) rfl ?_); refine bx (N := 1) (cs := #[.int .i64 a0, .int .i64 a1, .int .i64 a2, .int .i64 a3, .int .i64 a4, .int .i64 a5, .int .i64 a6, .int .i64 a7, .int .i64 a8, .int .i64 a9, .int .i64 a10, .int .i64 a11]) (t := 40) ?_; intro gb1 hg w1 hbox hb; have BK1 := az hbox; have GW1 := az (gE hg (qL HB) : w.heap.size ≤ gb1); replace HB := bS HB hb; clear hb hbox hg) | ((with_reducible refine gate_dst (N := 2) rfl ?_); refine bx (N := 2) (cs := #[.int .i64 0, .int .i64 0, .int .i64 0, .int .i64 0, .int .i64 0, .int .i64 0, .int .i64 0, .int .i64 0, .int .i64 0, .int .i64 0, .int .i64 0, .int .i64 0]) (t := 40) ?_; intro gb2 hg w2 hbox hb; have BK2 := az hbox; have GW2 := az (gE hg (qL HB) : w.heap.size ≤ gb2); obtain ⟨NB1_2, NB2_1⟩ := nPB BK1 hg; replace BK1 := kBB BK1 hb; replace HB := bS HB hb; clear hb hbox hg; have hnb12 := NB1_2.out; have hnb21 := NB2_1.out; obtain ⟨za_0, za_1, za_2, za_3, za_4, za_5, za_6, za_7, za_8, za_9, za_10, za_11⟩ := cz12 BK1.out; obtain ⟨fa_0, fa_1, fa_2, fa_3, fa_4, fa_5, fa_6, fa_7, fa_8, fa_9, fa_10, fa_11⟩ := fz12 BK1.out) | ((with_reducible refine gate_callee (f := 27) rfl ?_); refine gl (some 4) Try.func27 #[.agg #[.int .i64 a0, .int .i64 a1, .int .i64 a2, .int .i64 a3, .int .i64 a4, .int .i64 a5, .int .i64 a6, .int .i64 a7, .int .i64 a8, .int .i64 a9, .int .i64 a10, .int .i64 a11]] ?_; (with_reducible refine (impl_BodyOk.calls k a0 a1 a2 a3 a4 a5 a6 a7 a8 a9 a10 a11 true _ A1.out).mono ?_); rintro e w5 ⟨rfl, hb⟩; refine ⟨_, rfl, ?_⟩; replace BK1 := kBB BK1 hb; replace BK2 := kBB BK2 hb; replace HB := bS HB hb; clear hb; obtain ⟨zb_0, zb_1, zb_2, zb_3, zb_4, zb_5, zb_6, zb_7, zb_8, zb_9, zb_10, zb_11⟩ := cz12 BK1.out; obtain ⟨fb_0, fb_1, fb_2, fb_3, fb_4, fb_5, fb_6, fb_7, fb_8, fb_9, fb_10, fb_11⟩ := fz12 BK1.out) | ((with_reducible refine gate_callee (f := 58) rfl ?_); refine gl (some 8) Try.func58 #[.agg #[.int .i64 a0, .int .i64 a1, .int .i64 a2, .int .i64 a3, .int .i64 a4, .int .i64 a5, .int .i64 a6, .int .i64 a7, .int .i64 a8, .int .i64 a9, .int .i64 a10, .int .i64 a11]] ?_; (with_reducible refine (impl_Body_speed.calls a0 a1 a2 a3 a4 a5 a6 a7 a8 a9 a10 a11 v0 v1 _ A2.out).mono ?_); rintro e w6 ⟨rfl, hb⟩; refine ⟨_, rfl, ?_⟩; replace BK1 := kBB BK1 hb; replace BK2 := kBB BK2 hb; replace HB := bS HB hb; clear hb) | ((with_reducible refine gate_callee (f := 57) rfl ?_); refine gl (some 9) Try.func57 #[.pointer (some ⟨gb1, 0, none⟩), .agg #[.int .i64 v0, .int .i64 v1]] ?_; (with_reducible refine (impl_Body_move.calls gb1 a0 a1 a2 a3 a4 a5 a6 a7 a8 a9 a10 a11 v0 v1 r0 r1 r2 r3 r4 r5 r6 r7 r8 r9 r10 r11 w _ ?s1 GW1.out ?s2 A3.out).mono ?_); (case s1 => exact qL HB); (case s2 => exact qB BK1); rintro e w7 ⟨rfl, hB2, hk, hb⟩; refine ⟨_, rfl, ?_⟩; replace BK1 := az hB2; replace BK2 := kKB BK2 hk NB2_1; replace HB := az hb; clear hb hk hB2; obtain ⟨zd_0, zd_1, zd_2, zd_3, zd_4, zd_5, zd_6, zd_7, zd_8, zd_9, zd_10, zd_11⟩ := cz12 BK1.out; obtain ⟨fd_0, fd_1, fd_2, fd_3, fd_4, fd_5, fd_6, fd_7, fd_8, fd_9, fd_10, fd_11⟩ := fz12 BK1.out; obtain ⟨ze_0, ze_1, ze_2, ze_3, ze_4, ze_5, ze_6, ze_7, ze_8, ze_9, ze_10, ze_11⟩ := cz12 BK2.out; obtain ⟨fe_0, fe_1, fe_2, fe_3, fe_4, fe_5, fe_6, fe_7, fe_8, fe_9, fe_10, fe_11⟩ := fz12 BK2.out))
    refine bodyPost_ret (results_cell_row rfl _ _ gb2 40 #[.int .i64 r0, .int .i64 r1, .int .i64 r2, .int .i64 r3, .int .i64 r4, .int .i64 r5, .int .i64 r6, .int .i64 r7, .int .i64 r8, .int .i64 r9, .int .i64 r10, .int .i64 r11] (0, 0) _ rfl (qP BK2) Try.underlying40 rfl (by kernel_rfl)) rfl ?_
    exact ⟨qE, qL HB⟩
  replace c := Bool.eq_false_iff.mpr c
  subst c
  rw [if_neg (show ¬ (false = true) by decide)] at H
  simp only [Option.some.injEq, Prod.mk.injEq] at H
  obtain ⟨rfl, rfl, rfl, rfl, rfl, rfl, rfl, rfl, rfl, rfl, rfl, rfl⟩ := H
  go_enter Try.func24, Try.ntmps24
  go_wp2_with (first | ((with_reducible refine gate_dst (N := 1) rfl ?_); refine bx (N := 1) (cs := #[.int .i64 a0, .int .i64 a1, .int .i64 a2, .int .i64 a3, .int .i64 a4, .int .i64 a5, .int .i64 a6, .int .i64 a7, .int .i64 a8, .int .i64 a9, .int .i64 a10, .int .i64 a11]) (t := 40) ?_; intro gb1 hg w1 hbox hb; have BK1 := az hbox; have GW1 := az (gE hg (qL HB) : w.heap.size ≤ gb1); replace HB := bS HB hb; clear hb hbox hg) | ((with_reducible refine gate_dst (N := 2) rfl ?_); refine bx (N := 2) (cs := #[.int .i64 0, .int .i64 0, .int .i64 0, .int .i64 0, .int .i64 0, .int .i64 0, .int .i64 0, .int .i64 0, .int .i64 0, .int .i64 0, .int .i64 0, .int .i64 0]) (t := 40) ?_; intro gb2 hg w2 hbox hb; have BK2 := az hbox; have GW2 := az (gE hg (qL HB) : w.heap.size ≤ gb2); obtain ⟨NB1_2, NB2_1⟩ := nPB BK1 hg; replace BK1 := kBB BK1 hb; replace HB := bS HB hb; clear hb hbox hg; have hnb12 := NB1_2.out; have hnb21 := NB2_1.out; obtain ⟨za_0, za_1, za_2, za_3, za_4, za_5, za_6, za_7, za_8, za_9, za_10, za_11⟩ := cz12 BK1.out; obtain ⟨fa_0, fa_1, fa_2, fa_3, fa_4, fa_5, fa_6, fa_7, fa_8, fa_9, fa_10, fa_11⟩ := fz12 BK1.out) | ((with_reducible refine gate_callee (f := 27) rfl ?_); refine gl (some 4) Try.func27 #[.agg #[.int .i64 a0, .int .i64 a1, .int .i64 a2, .int .i64 a3, .int .i64 a4, .int .i64 a5, .int .i64 a6, .int .i64 a7, .int .i64 a8, .int .i64 a9, .int .i64 a10, .int .i64 a11]] ?_; (with_reducible refine (impl_BodyOk.calls k a0 a1 a2 a3 a4 a5 a6 a7 a8 a9 a10 a11 false _ A1.out).mono ?_); rintro e w5 ⟨rfl, hb⟩; refine ⟨_, rfl, ?_⟩; replace BK1 := kBB BK1 hb; replace BK2 := kBB BK2 hb; replace HB := bS HB hb; clear hb; obtain ⟨zb_0, zb_1, zb_2, zb_3, zb_4, zb_5, zb_6, zb_7, zb_8, zb_9, zb_10, zb_11⟩ := cz12 BK2.out; obtain ⟨fb_0, fb_1, fb_2, fb_3, fb_4, fb_5, fb_6, fb_7, fb_8, fb_9, fb_10, fb_11⟩ := fz12 BK2.out))
  refine bodyPost_ret (results_cell_row rfl _ _ gb2 40 #[.int .i64 0, .int .i64 0, .int .i64 0, .int .i64 0, .int .i64 0, .int .i64 0, .int .i64 0, .int .i64 0, .int .i64 0, .int .i64 0, .int .i64 0, .int .i64 0] (0, 0) _ rfl (qP BK2) Try.underlying40 rfl (by kernel_rfl)) rfl ?_
  exact ⟨qE, qL HB⟩

/-! ### impl_BodySleeps: function 28 -/
def impl_BodySleeps.f (k : Nat) (a0_0 : Int) (a0_1 : Int) (a0_2 : Int) (a0_3 : Int) (a0_4 : Int) (a0_5 : Int) (a0_6 : Int) (a0_7 : Int) (a0_8 : Int) (a0_9 : Int) (a0_10 : Int) (a0_11 : Int) : Option (Bool) := (impl_BodyOk.f k a0_0 a0_1 a0_2 a0_3 a0_4 a0_5 a0_6 a0_7 a0_8 a0_9 a0_10 a0_11).bind fun t712 => (if t712 = true then ((impl_Body_sleeps.f a0_0 a0_1 a0_2 a0_3 a0_4 a0_5 a0_6 a0_7 a0_8 a0_9 a0_10 a0_11).bind fun t713 => (some t713)) else (some false))
theorem impl_BodySleeps.mono : ∀ a0 a1 a2 a3 a4 a5 a6 a7 a8 a9 a10 a11 k, LeO (impl_BodySleeps.f k a0 a1 a2 a3 a4 a5 a6 a7 a8 a9 a10 a11) (impl_BodySleeps.f (k + 1) a0 a1 a2 a3 a4 a5 a6 a7 a8 a9 a10 a11) := by
  intro a0 a1 a2 a3 a4 a5 a6 a7 a8 a9 a10 a11 k
  unfold impl_BodySleeps.f
  repeat' first
      | (with_reducible exact impl_BodyOk.mono _ _ _ _ _ _ _ _ _ _ _ _ _)
      | (with_reducible exact LeO.refl _)
      | (with_reducible exact LeO.none _)
      | (with_reducible refine LeO.ite ?_ ?_)
      | (with_reducible refine LeO.bind ?_ (fun _ => ?_))
set_option maxHeartbeats 8000000 in
set_option maxRecDepth 100000 in
theorem impl_BodySleeps.calls (k : Nat) (a0_0 : Int) (a0_1 : Int) (a0_2 : Int) (a0_3 : Int) (a0_4 : Int) (a0_5 : Int) (a0_6 : Int) (a0_7 : Int) (a0_8 : Int) (a0_9 : Int) (a0_10 : Int) (a0_11 : Int) (r : Bool) (w : World) (h : impl_BodySleeps.f k a0_0 a0_1 a0_2 a0_3 a0_4 a0_5 a0_6 a0_7 a0_8 a0_9 a0_10 a0_11 = some r) :
    Calls Try.prog 28 #[.agg #[.int .i64 a0_0, .int .i64 a0_1, .int .i64 a0_2, .int .i64 a0_3, .int .i64 a0_4, .int .i64 a0_5, .int .i64 a0_6, .int .i64 a0_7, .int .i64 a0_8, .int .i64 a0_9, .int .i64 a0_10, .int .i64 a0_11]] w fun e w' => e = .returned (.bool r) ∧ Below w.heap.size w w' := by
  have hu40 := Try.underlying40
  have HB := az (Below.refl w.heap.size w)
  have H : ((impl_BodyOk.f k a0_0 a0_1 a0_2 a0_3 a0_4 a0_5 a0_6 a0_7 a0_8 a0_9 a0_10 a0_11).bind fun t712 => (if t712 = true then ((impl_Body_sleeps.f a0_0 a0_1 a0_2 a0_3 a0_4 a0_5 a0_6 a0_7 a0_8 a0_9 a0_10 a0_11).bind fun t713 => (some t713)) else (some false))) = some r := h
  clear h
  replace H := qH H
  obtain ⟨t712, A2, H⟩ := H
  try dsimp only at H
  by_cases c3 : t712 = true
  · subst c3
    replace H := qT H
    replace H := qH H
    obtain ⟨t713, A4, H⟩ := H
    try dsimp only at H
    obtain rfl := Option.some.inj H
    go_enter Try.func28, Try.ntmps28
    go_wp2_with (first | ((with_reducible refine gate_dst (N := 1) rfl ?_); refine bx (N := 1) (cs := #[.int .i64 a0_0, .int .i64 a0_1, .int .i64 a0_2, .int .i64 a0_3, .int .i64 a0_4, .int .i64 a0_5, .int .i64 a0_6, .int .i64 a0_7, .int .i64 a0_8, .int .i64 a0_9, .int .i64 a0_10, .int .i64 a0_11]) (t := 40) ?_; intro gb711 hg w5 hbox hb; have BK711 := az hbox; have GW711 := az ((gE hg (qL HB) : w.heap.size ≤ gb711)); have GE711 := GW711; replace HB := bS HB hb; clear hb hbox hg; obtain ⟨hcz6_0, hcz6_1, hcz6_2, hcz6_3, hcz6_4, hcz6_5, hcz6_6, hcz6_7, hcz6_8, hcz6_9, hcz6_10, hcz6_11⟩ := cz12 BK711.out; obtain ⟨hfz6_0, hfz6_1, hfz6_2, hfz6_3, hfz6_4, hfz6_5, hfz6_6, hfz6_7, hfz6_8, hfz6_9, hfz6_10, hfz6_11⟩ := fz12 BK711.out) | ((with_reducible refine gate_callee (f := 27) rfl ?_); refine gl (some 4) Try.func27 #[.agg #[.int .i64 a0_0, .int .i64 a0_1, .int .i64 a0_2, .int .i64 a0_3, .int .i64 a0_4, .int .i64 a0_5, .int .i64 a0_6, .int .i64 a0_7, .int .i64 a0_8, .int .i64 a0_9, .int .i64 a0_10, .int .i64 a0_11]] ?_; (with_reducible refine (impl_BodyOk.calls k a0_0 a0_1 a0_2 a0_3 a0_4 a0_5 a0_6 a0_7 a0_8 a0_9 a0_10 a0_11 true _ A2.out).mono ?_); rintro e w7 ⟨rfl, hb⟩; refine ⟨_, rfl, ?_⟩; replace BK711 := kBB BK711 hb; replace HB := bS HB hb; clear hb; obtain ⟨hcz8_0, hcz8_1, hcz8_2, hcz8_3, hcz8_4, hcz8_5, hcz8_6, hcz8_7, hcz8_8, hcz8_9, hcz8_10, hcz8_11⟩ := cz12 BK711.out; obtain ⟨hfz8_0, hfz8_1, hfz8_2, hfz8_3, hfz8_4, hfz8_5, hfz8_6, hfz8_7, hfz8_8, hfz8_9, hfz8_10, hfz8_11⟩ := fz12 BK711.out) | (go_at_call 70; (with_reducible refine (impl_Body_sleeps.calls a0_0 a0_1 a0_2 a0_3 a0_4 a0_5 a0_6 a0_7 a0_8 a0_9 a0_10 a0_11 t713 _ A4.out).mono ?_); rintro e w9 ⟨rfl, hb⟩; replace BK711 := kBB BK711 hb; replace HB := bS HB hb; clear hb))
    go_ret
    exact ⟨qE, qL HB⟩
  replace c3 := Bool.eq_false_iff.mpr c3
  subst c3
  replace H := qU H
  obtain rfl := Option.some.inj H
  go_enter Try.func28, Try.ntmps28
  go_wp2_with (first | ((with_reducible refine gate_dst (N := 1) rfl ?_); refine bx (N := 1) (cs := #[.int .i64 a0_0, .int .i64 a0_1, .int .i64 a0_2, .int .i64 a0_3, .int .i64 a0_4, .int .i64 a0_5, .int .i64 a0_6, .int .i64 a0_7, .int .i64 a0_8, .int .i64 a0_9, .int .i64 a0_10, .int .i64 a0_11]) (t := 40) ?_; intro gb711 hg w10 hbox hb; have BK711 := az hbox; have GW711 := az ((gE hg (qL HB) : w.heap.size ≤ gb711)); have GE711 := GW711; replace HB := bS HB hb; clear hb hbox hg; obtain ⟨hcz11_0, hcz11_1, hcz11_2, hcz11_3, hcz11_4, hcz11_5, hcz11_6, hcz11_7, hcz11_8, hcz11_9, hcz11_10, hcz11_11⟩ := cz12 BK711.out; obtain ⟨hfz11_0, hfz11_1, hfz11_2, hfz11_3, hfz11_4, hfz11_5, hfz11_6, hfz11_7, hfz11_8, hfz11_9, hfz11_10, hfz11_11⟩ := fz12 BK711.out) | ((with_reducible refine gate_callee (f := 27) rfl ?_); refine gl (some 4) Try.func27 #[.agg #[.int .i64 a0_0, .int .i64 a0_1, .int .i64 a0_2, .int .i64 a0_3, .int .i64 a0_4, .int .i64 a0_5, .int .i64 a0_6, .int .i64 a0_7, .int .i64 a0_8, .int .i64 a0_9, .int .i64 a0_10, .int .i64 a0_11]] ?_; (with_reducible refine (impl_BodyOk.calls k a0_0 a0_1 a0_2 a0_3 a0_4 a0_5 a0_6 a0_7 a0_8 a0_9 a0_10 a0_11 false _ A2.out).mono ?_); rintro e w12 ⟨rfl, hb⟩; refine ⟨_, rfl, ?_⟩; replace BK711 := kBB BK711 hb; replace HB := bS HB hb; clear hb))
  go_ret
  exact ⟨qE, qL HB⟩

/-! ### impl_BodySpeed: function 31 -/
def impl_BodySpeed.f (k : Nat) (a0_0 : Int) (a0_1 : Int) (a0_2 : Int) (a0_3 : Int) (a0_4 : Int) (a0_5 : Int) (a0_6 : Int) (a0_7 : Int) (a0_8 : Int) (a0_9 : Int) (a0_10 : Int) (a0_11 : Int) : Option (Int × Int) := (impl_BodyOk.f k a0_0 a0_1 a0_2 a0_3 a0_4 a0_5 a0_6 a0_7 a0_8 a0_9 a0_10 a0_11).bind fun t806 => (if t806 = true then ((impl_Body_speed.f a0_0 a0_1 a0_2 a0_3 a0_4 a0_5 a0_6 a0_7 a0_8 a0_9 a0_10 a0_11).bind fun bt807 => (some (bt807.1, bt807.2))) else (some (0, 0)))
theorem impl_BodySpeed.mono : ∀ a0 a1 a2 a3 a4 a5 a6 a7 a8 a9 a10 a11 k, LeO (impl_BodySpeed.f k a0 a1 a2 a3 a4 a5 a6 a7 a8 a9 a10 a11) (impl_BodySpeed.f (k + 1) a0 a1 a2 a3 a4 a5 a6 a7 a8 a9 a10 a11) := by
  intro a0 a1 a2 a3 a4 a5 a6 a7 a8 a9 a10 a11 k
  unfold impl_BodySpeed.f
  repeat' first
      | (with_reducible exact impl_BodyOk.mono _ _ _ _ _ _ _ _ _ _ _ _ _)
      | (with_reducible exact LeO.refl _)
      | (with_reducible exact LeO.none _)
      | (with_reducible refine LeO.ite ?_ ?_)
      | (with_reducible refine LeO.bind ?_ (fun _ => ?_))
set_option maxHeartbeats 8000000 in
set_option maxRecDepth 100000 in
theorem impl_BodySpeed.calls (k : Nat) (a0_0 : Int) (a0_1 : Int) (a0_2 : Int) (a0_3 : Int) (a0_4 : Int) (a0_5 : Int) (a0_6 : Int) (a0_7 : Int) (a0_8 : Int) (a0_9 : Int) (a0_10 : Int) (a0_11 : Int) (r1 : Int) (r2 : Int) (w : World) (h : impl_BodySpeed.f k a0_0 a0_1 a0_2 a0_3 a0_4 a0_5 a0_6 a0_7 a0_8 a0_9 a0_10 a0_11 = some (r1, r2)) :
    Calls Try.prog 31 #[.agg #[.int .i64 a0_0, .int .i64 a0_1, .int .i64 a0_2, .int .i64 a0_3, .int .i64 a0_4, .int .i64 a0_5, .int .i64 a0_6, .int .i64 a0_7, .int .i64 a0_8, .int .i64 a0_9, .int .i64 a0_10, .int .i64 a0_11]] w fun e w' => e = .returned (.agg #[.int .i64 r1, .int .i64 r2]) ∧ Below w.heap.size w w' := by
  have hu40 := Try.underlying40
  have hu24 := Try.underlying24
  have HB := az (Below.refl w.heap.size w)
  have H : ((impl_BodyOk.f k a0_0 a0_1 a0_2 a0_3 a0_4 a0_5 a0_6 a0_7 a0_8 a0_9 a0_10 a0_11).bind fun t806 => (if t806 = true then ((impl_Body_speed.f a0_0 a0_1 a0_2 a0_3 a0_4 a0_5 a0_6 a0_7 a0_8 a0_9 a0_10 a0_11).bind fun bt807 => (some (bt807.1, bt807.2))) else (some (0, 0)))) = some (r1, r2) := h
  clear h
  replace H := qH H
  obtain ⟨t806, A2, H⟩ := H
  try dsimp only at H
  by_cases c3 : t806 = true
  · subst c3
    replace H := qT H
    replace H := qH H
    obtain ⟨⟨t807, t808⟩, A4, H⟩ := H
    try dsimp only at H
    simp only [Option.some.injEq, Prod.mk.injEq] at H
    obtain ⟨rfl, rfl⟩ := H
    go_enter Try.func31, Try.ntmps31
    go_wp2_with (first | ((with_reducible refine gate_dst (N := 1) rfl ?_); refine bx (N := 1) (cs := #[.int .i64 a0_0, .int .i64 a0_1, .int .i64 a0_2, .int .i64 a0_3, .int .i64 a0_4, .int .i64 a0_5, .int .i64 a0_6, .int .i64 a0_7, .int .i64 a0_8, .int .i64 a0_9, .int .i64 a0_10, .int .i64 a0_11]) (t := 40) ?_; intro gb804 hg w5 hbox hb; have BK804 := az hbox; have GW804 := az ((gE hg (qL HB) : w.heap.size ≤ gb804)); have GE804 := GW804; replace HB := bS HB hb; clear hb hbox hg) | ((with_reducible refine gate_dst (N := 2) rfl ?_); refine bx (N := 2) (cs := #[.int .i64 0, .int .i64 0]) (t := 24) ?_; intro gb805 hg w6 hbox hb; have BK805 := az hbox; have GW805 := az ((gE hg (qL HB) : w.heap.size ≤ gb805)); have GE805 := GW805; obtain ⟨NB804_805, NB805_804⟩ := nPB BK804 hg; replace BK804 := kBB BK804 hb; replace HB := bS HB hb; clear hb hbox hg; have hnb7 := NB804_805.out; have hnc7 := NB805_804.out; obtain ⟨hcz8_0, hcz8_1, hcz8_2, hcz8_3, hcz8_4, hcz8_5, hcz8_6, hcz8_7, hcz8_8, hcz8_9, hcz8_10, hcz8_11⟩ := cz12 BK804.out; obtain ⟨hfz8_0, hfz8_1, hfz8_2, hfz8_3, hfz8_4, hfz8_5, hfz8_6, hfz8_7, hfz8_8, hfz8_9, hfz8_10, hfz8_11⟩ := fz12 BK804.out) | ((with_reducible refine gate_callee (f := 27) rfl ?_); refine gl (some 4) Try.func27 #[.agg #[.int .i64 a0_0, .int .i64 a0_1, .int .i64 a0_2, .int .i64 a0_3, .int .i64 a0_4, .int .i64 a0_5, .int .i64 a0_6, .int .i64 a0_7, .int .i64 a0_8, .int .i64 a0_9, .int .i64 a0_10, .int .i64 a0_11]] ?_; (with_reducible refine (impl_BodyOk.calls k a0_0 a0_1 a0_2 a0_3 a0_4 a0_5 a0_6 a0_7 a0_8 a0_9 a0_10 a0_11 true _ A2.out).mono ?_); rintro e w9 ⟨rfl, hb⟩; refine ⟨_, rfl, ?_⟩; replace BK804 := kBB BK804 hb; replace BK805 := kBB BK805 hb; replace HB := bS HB hb; clear hb; obtain ⟨hcz10_0, hcz10_1, hcz10_2, hcz10_3, hcz10_4, hcz10_5, hcz10_6, hcz10_7, hcz10_8, hcz10_9, hcz10_10, hcz10_11⟩ := cz12 BK804.out; obtain ⟨hfz10_0, hfz10_1, hfz10_2, hfz10_3, hfz10_4, hfz10_5, hfz10_6, hfz10_7, hfz10_8, hfz10_9, hfz10_10, hfz10_11⟩ := fz12 BK804.out) | ((with_reducible refine gate_callee (f := 58) rfl ?_); refine gl (some 8) Try.func58 #[.agg #[.int .i64 a0_0, .int .i64 a0_1, .int .i64 a0_2, .int .i64 a0_3, .int .i64 a0_4, .int .i64 a0_5, .int .i64 a0_6, .int .i64 a0_7, .int .i64 a0_8, .int .i64 a0_9, .int .i64 a0_10, .int .i64 a0_11]] ?_; (with_reducible refine (impl_Body_speed.calls a0_0 a0_1 a0_2 a0_3 a0_4 a0_5 a0_6 a0_7 a0_8 a0_9 a0_10 a0_11 t807 t808 _ A4.out).mono ?_); rintro e w11 ⟨rfl, hb⟩; refine ⟨_, rfl, ?_⟩; replace BK804 := kBB BK804 hb; replace BK805 := kBB BK805 hb; replace HB := bS HB hb; clear hb; obtain ⟨hcz12_0, hcz12_1⟩ := cz2 BK805.out; have hfz12_0 := blk_frozen BK805.out 0; have hfz12_1 := blk_frozen BK805.out 1))
    refine bodyPost_ret (results_cell_row rfl _ _ gb805 24 #[.int .i64 t807, .int .i64 t808] (0, 0) _ rfl (qP BK805) Try.underlying24 rfl (by kernel_rfl)) rfl ?_
    exact ⟨qE, qL HB⟩
  replace c3 := Bool.eq_false_iff.mpr c3
  subst c3
  replace H := qU H
  simp only [Option.some.injEq, Prod.mk.injEq] at H
  obtain ⟨rfl, rfl⟩ := H
  go_enter Try.func31, Try.ntmps31
  go_wp2_with (first | ((with_reducible refine gate_dst (N := 1) rfl ?_); refine bx (N := 1) (cs := #[.int .i64 a0_0, .int .i64 a0_1, .int .i64 a0_2, .int .i64 a0_3, .int .i64 a0_4, .int .i64 a0_5, .int .i64 a0_6, .int .i64 a0_7, .int .i64 a0_8, .int .i64 a0_9, .int .i64 a0_10, .int .i64 a0_11]) (t := 40) ?_; intro gb804 hg w13 hbox hb; have BK804 := az hbox; have GW804 := az ((gE hg (qL HB) : w.heap.size ≤ gb804)); have GE804 := GW804; replace HB := bS HB hb; clear hb hbox hg) | ((with_reducible refine gate_dst (N := 2) rfl ?_); refine bx (N := 2) (cs := #[.int .i64 0, .int .i64 0]) (t := 24) ?_; intro gb805 hg w14 hbox hb; have BK805 := az hbox; have GW805 := az ((gE hg (qL HB) : w.heap.size ≤ gb805)); have GE805 := GW805; obtain ⟨NB804_805, NB805_804⟩ := nPB BK804 hg; replace BK804 := kBB BK804 hb; replace HB := bS HB hb; clear hb hbox hg; have hnb15 := NB804_805.out; have hnc15 := NB805_804.out; obtain ⟨hcz16_0, hcz16_1, hcz16_2, hcz16_3, hcz16_4, hcz16_5, hcz16_6, hcz16_7, hcz16_8, hcz16_9, hcz16_10, hcz16_11⟩ := cz12 BK804.out; obtain ⟨hfz16_0, hfz16_1, hfz16_2, hfz16_3, hfz16_4, hfz16_5, hfz16_6, hfz16_7, hfz16_8, hfz16_9, hfz16_10, hfz16_11⟩ := fz12 BK804.out) | ((with_reducible refine gate_callee (f := 27) rfl ?_); refine gl (some 4) Try.func27 #[.agg #[.int .i64 a0_0, .int .i64 a0_1, .int .i64 a0_2, .int .i64 a0_3, .int .i64 a0_4, .int .i64 a0_5, .int .i64 a0_6, .int .i64 a0_7, .int .i64 a0_8, .int .i64 a0_9, .int .i64 a0_10, .int .i64 a0_11]] ?_; (with_reducible refine (impl_BodyOk.calls k a0_0 a0_1 a0_2 a0_3 a0_4 a0_5 a0_6 a0_7 a0_8 a0_9 a0_10 a0_11 false _ A2.out).mono ?_); rintro e w17 ⟨rfl, hb⟩; refine ⟨_, rfl, ?_⟩; replace BK804 := kBB BK804 hb; replace BK805 := kBB BK805 hb; replace HB := bS HB hb; clear hb; obtain ⟨hcz18_0, hcz18_1⟩ := cz2 BK805.out; have hfz18_0 := blk_frozen BK805.out 0; have hfz18_1 := blk_frozen BK805.out 1))
  refine bodyPost_ret (results_cell_row rfl _ _ gb805 24 #[.int .i64 0, .int .i64 0] (0, 0) _ rfl (qP BK805) Try.underlying24 rfl (by kernel_rfl)) rfl ?_
  exact ⟨qE, qL HB⟩

/-! ### impl_VecAdd: function 32 -/
def impl_VecAdd.f (a0_0 : Int) (a0_1 : Int) (a1_0 : Int) (a1_1 : Int) : Option (Int × Int) := (impl_Vec_clamped.f a0_0 a0_1 1000000000).bind fun bt812 => ((impl_Vec_clamped.f a1_0 a1_1 1000000000).bind fun bt814 => ((impl_Vec_plus.f bt812.1 bt812.2 bt814.1 bt814.2).bind fun bt816 => ((impl_Vec_clamped.f bt816.1 bt816.2 1000000000).bind fun bt818 => (some (bt818.1, bt818.2)))))
set_option maxHeartbeats 8000000 in
set_option maxRecDepth 100000 in
theorem impl_VecAdd.calls (a0_0 : Int) (a0_1 : Int) (a1_0 : Int) (a1_1 : Int) (r1 : Int) (r2 : Int) (w : World) (h : impl_VecAdd.f a0_0 a0_1 a1_0 a1_1 = some (r1, r2)) :
    Calls Try.prog 32 #[.agg #[.int .i64 a0_0, .int .i64 a0_1], .agg #[.int .i64 a1_0, .int .i64 a1_1]] w fun e w' => e = .returned (.agg #[.int .i64 r1, .int .i64 r2]) ∧ Below w.heap.size w w' := by
  have hu24 := Try.underlying24
  have HB := az (Below.refl w.heap.size w)
  have H : ((impl_Vec_clamped.f a0_0 a0_1 1000000000).bind fun bt812 => ((impl_Vec_clamped.f a1_0 a1_1 1000000000).bind fun bt814 => ((impl_Vec_plus.f bt812.1 bt812.2 bt814.1 bt814.2).bind fun bt816 => ((impl_Vec_clamped.f bt816.1 bt816.2 1000000000).bind fun bt818 => (some (bt818.1, bt818.2)))))) = some (r1, r2) := h
  clear h
  replace H := qH H
  obtain ⟨⟨t812, t813⟩, A3, H⟩ := H
  try dsimp only at H
  replace H := qH H
  obtain ⟨⟨t814, t815⟩, A4, H⟩ := H
  try dsimp only at H
  replace H := qH H
  obtain ⟨⟨t816, t817⟩, A5, H⟩ := H
  try dsimp only at H
  replace H := qH H
  obtain ⟨⟨t818, t819⟩, A6, H⟩ := H
  try dsimp only at H
  simp only [Option.some.injEq, Prod.mk.injEq] at H
  obtain ⟨rfl, rfl⟩ := H
  go_enter Try.func32, Try.ntmps32
  try go_wp2_with (first | ((with_reducible refine gate_dst (N := 2) rfl ?_); refine bx (N := 2) (cs := #[.int .i64 a0_0, .int .i64 a0_1]) (t := 24) ?_; intro gb809 hg w7 hbox hb; have BK809 := az hbox; have GW809 := az ((gE hg (qL HB) : w.heap.size ≤ gb809)); have GE809 := GW809; replace HB := bS HB hb; clear hb hbox hg) | ((with_reducible refine gate_dst (N := 3) rfl ?_); refine bx (N := 3) (cs := #[.int .i64 a1_0, .int .i64 a1_1]) (t := 24) ?_; intro gb810 hg w8 hbox hb; have BK810 := az hbox; have GW810 := az ((gE hg (qL HB) : w.heap.size ≤ gb810)); have GE810 := GW810; obtain ⟨NB809_810, NB810_809⟩ := nPB BK809 hg; replace BK809 := kBB BK809 hb; replace HB := bS HB hb; clear hb hbox hg) | ((with_reducible refine gate_dst (N := 4) rfl ?_); refine bx (N := 4) (cs := #[.int .i64 0, .int .i64 0]) (t := 24) ?_; intro gb811 hg w9 hbox hb; have BK811 := az hbox; have GW811 := az ((gE hg (qL HB) : w.heap.size ≤ gb811)); have GE811 := GW811; obtain ⟨NB809_811, NB811_809⟩ := nPB BK809 hg; obtain ⟨NB810_811, NB811_810⟩ := nPB BK810 hg; replace BK809 := kBB BK809 hb; replace BK810 := kBB BK810 hb; replace HB := bS HB hb; clear hb hbox hg))
  replace BK809 := az (blk_drew BK809.out)
  replace BK810 := az (blk_drew BK810.out)
  replace BK811 := az (blk_drew BK811.out)
  replace HB := az (below_drew1 HB.out)
  refine start_ (n := 7) (S := fun w' => w'.cell? ⟨gb809, 0, none⟩ = some (.int .i64 a0_0) ∧ w'.cell? ⟨gb809, 1, none⟩ = some (.int .i64 a0_1) ∧ w'.cell? ⟨gb810, 0, none⟩ = some (.int .i64 a1_0) ∧ w'.cell? ⟨gb810, 1, none⟩ = some (.int .i64 a1_1)) (ds := []) #[false, false, false, false, false, false, false] (by kernel_rfl) rfl rfl ⟨bc BK809 0, bc BK809 1, bc BK810 0, bc BK810 1⟩ (fun hHeld => ?_)
  generalize w9.drew = w10 at BK809 BK810 BK811 HB hHeld ⊢
  refine take_ (i := 0) (N := some 5) (v := ?_) (a' := ?_) #[true, false, false, false, false, false, false] rfl rfl (by kernel_rfl) (fun _ _ _ h => h) (Or.inl ⟨by rfl, ?_⟩) hHeld ?_ ?_
  rotate_left
  · rintro w' ⟨s0, s1, s2, s3⟩
    go_simp
    with_reducible rfl
  rotate_left
  · simp only [Act.put, List.setIfInBounds_toArray, List.set_cons_zero, List.set_cons_succ, i64_w, i32_w]
    rfl
  refine take_ (i := 2) (N := some 7) (v := ?_) (a' := ?_) #[true, false, true, false, false, false, false] rfl rfl (by kernel_rfl) (fun _ _ _ h => h) (Or.inl ⟨by rfl, ?_⟩) hHeld ?_ ?_
  rotate_left
  · rintro w' ⟨s0, s1, s2, s3⟩
    go_simp
    with_reducible rfl
  rotate_left
  · simp only [Act.put, List.setIfInBounds_toArray, List.set_cons_zero, List.set_cons_succ, i64_w, i32_w]
    rfl
  refine one_ (i := 1) (N := some 6) #[true, true, true, false, false, false, false] rfl rfl (by kernel_rfl) (by decide) (fun K hK => ?_)
  refine go1 Try.func71 #[.agg #[.int .i64 a0_0, .int .i64 a0_1], .int .i64 1000000000] ?_
  with_reducible refine (impl_Vec_clamped.calls a0_0 a0_1 1000000000 t812 t813 _ A3.out).mono ?_
  rintro e w11 ⟨rfl, hb⟩
  refine ⟨_, rfl, ?_⟩
  replace BK809 := kBB BK809 hb
  replace BK810 := kBB BK810 hb
  replace BK811 := kBB BK811 hb
  replace HB := bS HB hb
  clear hb
  refine hK.out _ _ ⟨bc BK809 0, bc BK809 1, bc BK810 0, bc BK810 1⟩ (fun hHeld => ?_)
  clear hK K
  refine nm (some 6) ?_
  refine one_ (i := 3) (N := some 8) #[true, true, true, true, false, false, false] rfl rfl (by kernel_rfl) (by decide) (fun K hK => ?_)
  refine go1 Try.func71 #[.agg #[.int .i64 a1_0, .int .i64 a1_1], .int .i64 1000000000] ?_
  with_reducible refine (impl_Vec_clamped.calls a1_0 a1_1 1000000000 t814 t815 _ A4.out).mono ?_
  rintro e w12 ⟨rfl, hb⟩
  refine ⟨_, rfl, ?_⟩
  replace BK809 := kBB BK809 hb
  replace BK810 := kBB BK810 hb
  replace BK811 := kBB BK811 hb
  replace HB := bS HB hb
  clear hb
  refine hK.out _ _ ⟨bc BK809 0, bc BK809 1, bc BK810 0, bc BK810 1⟩ (fun hHeld => ?_)
  clear hK K
  refine nm (some 8) ?_
  refine one_ (i := 4) (N := some 9) #[true, true, true, true, true, false, false] rfl rfl (by kernel_rfl) (by decide) (fun K hK => ?_)
  refine go1 Try.func72 #[.agg #[.int .i64 t812, .int .i64 t813], .agg #[.int .i64 t814, .int .i64 t815]] ?_
  with_reducible refine (impl_Vec_plus.calls t812 t813 t814 t815 t816 t817 _ A5.out).mono ?_
  rintro e w13 ⟨rfl, hb⟩
  refine ⟨_, rfl, ?_⟩
  replace BK809 := kBB BK809 hb
  replace BK810 := kBB BK810 hb
  replace BK811 := kBB BK811 hb
  replace HB := bS HB hb
  clear hb
  refine hK.out _ _ ⟨bc BK809 0, bc BK809 1, bc BK810 0, bc BK810 1⟩ (fun hHeld => ?_)
  clear hK K
  refine nm (some 9) ?_
  refine one_ (i := 5) (N := some 10) #[true, true, true, true, true, true, false] rfl rfl (by kernel_rfl) (by decide) (fun K hK => ?_)
  refine go1 Try.func71 #[.agg #[.int .i64 t816, .int .i64 t817], .int .i64 1000000000] ?_
  with_reducible refine (impl_Vec_clamped.calls t816 t817 1000000000 t818 t819 _ A6.out).mono ?_
  rintro e w14 ⟨rfl, hb⟩
  refine ⟨_, rfl, ?_⟩
  replace BK809 := kBB BK809 hb
  replace BK810 := kBB BK810 hb
  replace BK811 := kBB BK811 hb
  replace HB := bS HB hb
  clear hb
  refine hK.out _ _ ⟨bc BK809 0, bc BK809 1, bc BK810 0, bc BK810 1⟩ (fun hHeld => ?_)
  clear hK K
  refine nm (some 10) ?_
  refine one_ (i := 6) (N := none) #[true, true, true, true, true, true, true] rfl rfl (by kernel_rfl) (by decide) (fun K hK => ?_)
  have hs15 : w14.cell? ⟨gb811, 0, none⟩ = some (.int .i64 0) := bc BK811 0
  have hfs15 := blk_frozen BK811.out 0
  have hns15_0 := NB809_811.out
  have hns15_1 := NB810_811.out
  have hms15_0 := NB811_809.out
  have hms15_1 := NB811_810.out
  have hs16 : w14.cell? ⟨gb811, 1, none⟩ = some (.int .i64 0) := bc BK811 1
  have hfs16 := blk_frozen BK811.out 1
  have hns16_0 := NB809_811.out
  have hns16_1 := NB810_811.out
  have hms16_0 := NB811_809.out
  have hms16_1 := NB811_810.out
  refine skip_ (w1 := ?_) ?hw ?hn ?_ ?_; (case hw => unfold Region.wanted; rfl); (case hn => rfl)
  rotate_left
  · go_simp
    rfl
  refine hK.out _ _ ⟨(cf NB809_811 ((cf NB809_811 (hHeld.1)))), (cf NB809_811 ((cf NB809_811 (hHeld.2.1)))), (cf NB810_811 ((cf NB810_811 (hHeld.2.2.1)))), (cf NB810_811 ((cf NB810_811 (hHeld.2.2.2))))⟩ (fun hHeld => ?_)
  clear hK K
  refine done_ (by kernel_rfl) ?_
  try go_wp2
  refine bodyPost_ret (results_cell_row rfl _ _ gb811 24 #[.int .i64 t818, .int .i64 t819] (0, 0) _ rfl (qP BK811) Try.underlying24 rfl (by kernel_rfl)) rfl ?_
  exact ⟨qE, qL HB⟩
end Go.Proofs.Ytihajbjkjclmoaa.PBig
