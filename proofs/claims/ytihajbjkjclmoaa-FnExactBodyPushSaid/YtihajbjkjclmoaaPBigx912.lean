/- What these functions compute, each walked once: laws_FnExactBodyPush; for all arguments and worlds, under the conditions that each theorem names. -/
import Derived.Test.YtihajbjkjclmoaaSq
import Derived.Test.YtihajbjkjclmoaaPBigx909
import Derived.Test.YtihajbjkjclmoaaPBigx910
import Derived.Test.YtihajbjkjclmoaaPBigx911
namespace Go.Proofs.Ytihajbjkjclmoaa.PBig
open Go.RowKit Go.Proofs.YtihajbjkjclmoaaW.PrintWords Go.Proofs.YtihajbjkjclmoaaW.PrintLast Go.Proofs.YtihajbjkjclmoaaW.PrintMore
attribute [local go_sem] max2_int min2_int max_two min_two max_three min_three max_four min_four   -- for this text's walks alone
set_option linter.unusedVariables false
set_option linter.unusedSimpArgs false

/-! ### laws_FnExactBodyPush: function 4 -/
def laws_FnExactBodyPush.f (k : Nat) (a0_0 : Int) (a0_1 : Int) (a0_2 : Int) (a0_3 : Int) (a0_4 : Int) (a0_5 : Int) (a0_6 : Int) (a0_7 : Int) (a0_8 : Int) (a0_9 : Int) (a0_10 : Int) (a0_11 : Int) (a1_0 : Int) (a1_1 : Int) : Option (Bool) := (laws_toBody.f a0_0 a0_1 a0_2 a0_3 a0_4 a0_5 a0_6 a0_7 a0_8 a0_9 a0_10 a0_11).bind fun bt377 => ((laws_toVec.f a1_0 a1_1).bind fun bt389 => ((spec_BodyPush.f k bt377.1 bt377.2.1 bt377.2.2.1 bt377.2.2.2.1 bt377.2.2.2.2.1 bt377.2.2.2.2.2.1 bt377.2.2.2.2.2.2.1 bt377.2.2.2.2.2.2.2.1 bt377.2.2.2.2.2.2.2.2.1 bt377.2.2.2.2.2.2.2.2.2.1 bt377.2.2.2.2.2.2.2.2.2.2.1 bt377.2.2.2.2.2.2.2.2.2.2.2 bt389.1 bt389.2).bind fun bt391 => ((laws_toBody.f a0_0 a0_1 a0_2 a0_3 a0_4 a0_5 a0_6 a0_7 a0_8 a0_9 a0_10 a0_11).bind fun bt404 => ((laws_toVec.f a1_0 a1_1).bind fun bt416 => ((impl_BodyPush.f k bt404.1 bt404.2.1 bt404.2.2.1 bt404.2.2.2.1 bt404.2.2.2.2.1 bt404.2.2.2.2.2.1 bt404.2.2.2.2.2.2.1 bt404.2.2.2.2.2.2.2.1 bt404.2.2.2.2.2.2.2.2.1 bt404.2.2.2.2.2.2.2.2.2.1 bt404.2.2.2.2.2.2.2.2.2.2.1 bt404.2.2.2.2.2.2.2.2.2.2.2 bt416.1 bt416.2).bind fun bt418 => ((laws_eqBody.f bt418.1 bt418.2.1 bt418.2.2.1 bt418.2.2.2.1 bt418.2.2.2.2.1 bt418.2.2.2.2.2.1 bt418.2.2.2.2.2.2.1 bt418.2.2.2.2.2.2.2.1 bt418.2.2.2.2.2.2.2.2.1 bt418.2.2.2.2.2.2.2.2.2.1 bt418.2.2.2.2.2.2.2.2.2.2.1 bt418.2.2.2.2.2.2.2.2.2.2.2 bt391.1 bt391.2.1 bt391.2.2.1 bt391.2.2.2.1 bt391.2.2.2.2.1 bt391.2.2.2.2.2.1 bt391.2.2.2.2.2.2.1 bt391.2.2.2.2.2.2.2.1 bt391.2.2.2.2.2.2.2.2.1 bt391.2.2.2.2.2.2.2.2.2.1 bt391.2.2.2.2.2.2.2.2.2.2.1 bt391.2.2.2.2.2.2.2.2.2.2.2).bind fun t431 => (if t431 = true then (some true) else (some false))))))))
theorem laws_FnExactBodyPush.mono : ∀ a0 a1 a2 a3 a4 a5 a6 a7 a8 a9 a10 a11 a12 a13 k, LeO (laws_FnExactBodyPush.f k a0 a1 a2 a3 a4 a5 a6 a7 a8 a9 a10 a11 a12 a13) (laws_FnExactBodyPush.f (k + 1) a0 a1 a2 a3 a4 a5 a6 a7 a8 a9 a10 a11 a12 a13) := by
  intro a0 a1 a2 a3 a4 a5 a6 a7 a8 a9 a10 a11 a12 a13 k
  unfold laws_FnExactBodyPush.f
  repeat' first
      | (with_reducible exact impl_BodyPush.mono _ _ _ _ _ _ _ _ _ _ _ _ _ _ _)
      | (with_reducible exact spec_BodyPush.mono _ _ _ _ _ _ _ _ _ _ _ _ _ _ _)
      | (with_reducible exact LeO.refl _)
      | (with_reducible exact LeO.none _)
      | (with_reducible refine LeO.ite ?_ ?_)
      | (with_reducible refine LeO.bind ?_ (fun _ => ?_))
set_option maxHeartbeats 8000000 in
set_option maxRecDepth 100000 in
theorem laws_FnExactBodyPush.calls (k : Nat) (a0_0 : Int) (a0_1 : Int) (a0_2 : Int) (a0_3 : Int) (a0_4 : Int) (a0_5 : Int) (a0_6 : Int) (a0_7 : Int) (a0_8 : Int) (a0_9 : Int) (a0_10 : Int) (a0_11 : Int) (a1_0 : Int) (a1_1 : Int) (r : Bool) (w : World) (h : laws_FnExactBodyPush.f k a0_0 a0_1 a0_2 a0_3 a0_4 a0_5 a0_6 a0_7 a0_8 a0_9 a0_10 a0_11 a1_0 a1_1 = some r) :
    Calls Try.prog 4 #[.agg #[.int .i64 a0_0, .int .i64 a0_1, .int .i64 a0_2, .int .i64 a0_3, .int .i64 a0_4, .int .i64 a0_5, .int .i64 a0_6, .int .i64 a0_7, .int .i64 a0_8, .int .i64 a0_9, .int .i64 a0_10, .int .i64 a0_11], .agg #[.int .i64 a1_0, .int .i64 a1_1]] w fun e w' => e = .returned (.bool r) ∧ Below w.heap.size w w' := by
  have hu37 := Try.underlying37
  have hu35 := Try.underlying35
  have hu40 := Try.underlying40
  have HB := az (Below.refl w.heap.size w)
  have H : ((laws_toBody.f a0_0 a0_1 a0_2 a0_3 a0_4 a0_5 a0_6 a0_7 a0_8 a0_9 a0_10 a0_11).bind fun bt377 => ((laws_toVec.f a1_0 a1_1).bind fun bt389 => ((spec_BodyPush.f k bt377.1 bt377.2.1 bt377.2.2.1 bt377.2.2.2.1 bt377.2.2.2.2.1 bt377.2.2.2.2.2.1 bt377.2.2.2.2.2.2.1 bt377.2.2.2.2.2.2.2.1 bt377.2.2.2.2.2.2.2.2.1 bt377.2.2.2.2.2.2.2.2.2.1 bt377.2.2.2.2.2.2.2.2.2.2.1 bt377.2.2.2.2.2.2.2.2.2.2.2 bt389.1 bt389.2).bind fun bt391 => ((laws_toBody.f a0_0 a0_1 a0_2 a0_3 a0_4 a0_5 a0_6 a0_7 a0_8 a0_9 a0_10 a0_11).bind fun bt404 => ((laws_toVec.f a1_0 a1_1).bind fun bt416 => ((impl_BodyPush.f k bt404.1 bt404.2.1 bt404.2.2.1 bt404.2.2.2.1 bt404.2.2.2.2.1 bt404.2.2.2.2.2.1 bt404.2.2.2.2.2.2.1 bt404.2.2.2.2.2.2.2.1 bt404.2.2.2.2.2.2.2.2.1 bt404.2.2.2.2.2.2.2.2.2.1 bt404.2.2.2.2.2.2.2.2.2.2.1 bt404.2.2.2.2.2.2.2.2.2.2.2 bt416.1 bt416.2).bind fun bt418 => ((laws_eqBody.f bt418.1 bt418.2.1 bt418.2.2.1 bt418.2.2.2.1 bt418.2.2.2.2.1 bt418.2.2.2.2.2.1 bt418.2.2.2.2.2.2.1 bt418.2.2.2.2.2.2.2.1 bt418.2.2.2.2.2.2.2.2.1 bt418.2.2.2.2.2.2.2.2.2.1 bt418.2.2.2.2.2.2.2.2.2.2.1 bt418.2.2.2.2.2.2.2.2.2.2.2 bt391.1 bt391.2.1 bt391.2.2.1 bt391.2.2.2.1 bt391.2.2.2.2.1 bt391.2.2.2.2.2.1 bt391.2.2.2.2.2.2.1 bt391.2.2.2.2.2.2.2.1 bt391.2.2.2.2.2.2.2.2.1 bt391.2.2.2.2.2.2.2.2.2.1 bt391.2.2.2.2.2.2.2.2.2.2.1 bt391.2.2.2.2.2.2.2.2.2.2.2).bind fun t431 => (if t431 = true then (some true) else (some false))))))))) = some r := h
  clear h
  replace H := qH H
  obtain ⟨⟨t377, t378, t379, t380, t381, t382, t383, t384, t385, t386, t387, t388⟩, A3, H⟩ := H
  try dsimp only at H
  replace H := qH H
  obtain ⟨⟨t389, t390⟩, A4, H⟩ := H
  try dsimp only at H
  replace H := qH H
  obtain ⟨⟨t391, t392, t393, t394, t395, t396, t397, t398, t399, t400, t401, t402⟩, A5, H⟩ := H
  try dsimp only at H
  replace H := qH H
  obtain ⟨⟨t404, t405, t406, t407, t408, t409, t410, t411, t412, t413, t414, t415⟩, A6, H⟩ := H
  try dsimp only at H
  replace H := qH H
  obtain ⟨⟨t416, t417⟩, A7, H⟩ := H
  try dsimp only at H
  replace H := qH H
  obtain ⟨⟨t418, t419, t420, t421, t422, t423, t424, t425, t426, t427, t428, t429⟩, A8, H⟩ := H
  try dsimp only at H
  replace H := qH H
  obtain ⟨t431, A9, H⟩ := H
  try dsimp only at H
  by_cases c10 : t431 = true
  · subst c10
    replace H := qT H
    obtain rfl := Option.some.inj H
    go_enter Try.func4, Try.ntmps4
    try go_wp2_with (first | ((with_reducible refine gate_dst (N := 2) rfl ?_); refine bx (N := 2) (cs := #[.int .i64 a0_0, .int .i64 a0_1, .int .i64 a0_2, .int .i64 a0_3, .int .i64 a0_4, .int .i64 a0_5, .int .i64 a0_6, .int .i64 a0_7, .int .i64 a0_8, .int .i64 a0_9, .int .i64 a0_10, .int .i64 a0_11]) (t := 37) ?_; intro gb375 hg w11 hbox hb; have BK375 := az hbox; have GW375 := az ((gE hg (qL HB) : w.heap.size ≤ gb375)); have GE375 := GW375; replace HB := bS HB hb; clear hb hbox hg) | ((with_reducible refine gate_dst (N := 3) rfl ?_); refine bx (N := 3) (cs := #[.int .i64 a1_0, .int .i64 a1_1]) (t := 35) ?_; intro gb376 hg w12 hbox hb; have BK376 := az hbox; have GW376 := az ((gE hg (qL HB) : w.heap.size ≤ gb376)); have GE376 := GW376; obtain ⟨NB375_376, NB376_375⟩ := nPB BK375 hg; replace BK375 := kBB BK375 hb; replace HB := bS HB hb; clear hb hbox hg))
    replace BK375 := az (blk_drew BK375.out)
    replace BK376 := az (blk_drew BK376.out)
    replace HB := az (below_drew1 HB.out)
    refine start_ (n := 7) (S := fun w' => w'.cell? ⟨gb375, 0, none⟩ = some (.int .i64 a0_0) ∧ w'.cell? ⟨gb375, 1, none⟩ = some (.int .i64 a0_1) ∧ w'.cell? ⟨gb375, 2, none⟩ = some (.int .i64 a0_2) ∧ w'.cell? ⟨gb375, 3, none⟩ = some (.int .i64 a0_3) ∧ w'.cell? ⟨gb375, 4, none⟩ = some (.int .i64 a0_4) ∧ w'.cell? ⟨gb375, 5, none⟩ = some (.int .i64 a0_5) ∧ w'.cell? ⟨gb375, 6, none⟩ = some (.int .i64 a0_6) ∧ w'.cell? ⟨gb375, 7, none⟩ = some (.int .i64 a0_7) ∧ w'.cell? ⟨gb375, 8, none⟩ = some (.int .i64 a0_8) ∧ w'.cell? ⟨gb375, 9, none⟩ = some (.int .i64 a0_9) ∧ w'.cell? ⟨gb375, 10, none⟩ = some (.int .i64 a0_10) ∧ w'.cell? ⟨gb375, 11, none⟩ = some (.int .i64 a0_11) ∧ w'.cell? ⟨gb376, 0, none⟩ = some (.int .i64 a1_0) ∧ w'.cell? ⟨gb376, 1, none⟩ = some (.int .i64 a1_1)) (ds := []) #[false, false, false, false, false, false, false] (by kernel_rfl) rfl rfl ⟨bc BK375 0, bc BK375 1, bc BK375 2, bc BK375 3, bc BK375 4, bc BK375 5, bc BK375 6, bc BK375 7, bc BK375 8, bc BK375 9, bc BK375 10, bc BK375 11, bc BK376 0, bc BK376 1⟩ (fun hHeld => ?_)
    generalize w12.drew = w13 at BK375 BK376 HB hHeld ⊢
    refine take_ (i := 0) (N := some 7) (v := ?_) (a' := ?_) #[true, false, false, false, false, false, false] rfl rfl (by kernel_rfl) (fun _ _ _ h => h) (Or.inl ⟨by rfl, ?_⟩) hHeld ?_ ?_
    rotate_left
    · rintro w' ⟨s0, s1, s2, s3, s4, s5, s6, s7, s8, s9, s10, s11, s12, s13⟩
      go_simp
      with_reducible rfl
    rotate_left
    · simp only [Act.put, List.setIfInBounds_toArray, List.set_cons_zero, List.set_cons_succ, i64_w, i32_w]
      rfl
    refine take_ (i := 2) (N := some 9) (v := ?_) (a' := ?_) #[true, false, true, false, false, false, false] rfl rfl (by kernel_rfl) (fun _ _ _ h => h) (Or.inl ⟨by rfl, ?_⟩) hHeld ?_ ?_
    rotate_left
    · rintro w' ⟨s0, s1, s2, s3, s4, s5, s6, s7, s8, s9, s10, s11, s12, s13⟩
      go_simp
      with_reducible rfl
    rotate_left
    · simp only [Act.put, List.setIfInBounds_toArray, List.set_cons_zero, List.set_cons_succ, i64_w, i32_w]
      rfl
    refine join_ (σ := Nat) 1 (fl 7 63) (fun s_ => [(8, .agg #[.int .i64 t377, .int .i64 t378, .int .i64 t379, .int .i64 t380, .int .i64 t381, .int .i64 t382, .int .i64 t383, .int .i64 t384, .int .i64 t385, .int .i64 t386, .int .i64 t387, .int .i64 t388]), (10, .agg #[.int .i64 t389, .int .i64 t390]), (11, .agg #[.int .i64 t391, .int .i64 t392, .int .i64 t393, .int .i64 t394, .int .i64 t395, .int .i64 t396, .int .i64 t397, .int .i64 t398, .int .i64 t399, .int .i64 t400, .int .i64 t401, .int .i64 t402]), (5, .pointer (some ⟨s_, 0, none⟩))]) (fun s_ w' => (w'.cell? ⟨gb375, 0, none⟩ = some (.int .i64 a0_0) ∧ w'.cell? ⟨gb375, 1, none⟩ = some (.int .i64 a0_1) ∧ w'.cell? ⟨gb375, 2, none⟩ = some (.int .i64 a0_2) ∧ w'.cell? ⟨gb375, 3, none⟩ = some (.int .i64 a0_3) ∧ w'.cell? ⟨gb375, 4, none⟩ = some (.int .i64 a0_4) ∧ w'.cell? ⟨gb375, 5, none⟩ = some (.int .i64 a0_5) ∧ w'.cell? ⟨gb375, 6, none⟩ = some (.int .i64 a0_6) ∧ w'.cell? ⟨gb375, 7, none⟩ = some (.int .i64 a0_7) ∧ w'.cell? ⟨gb375, 8, none⟩ = some (.int .i64 a0_8) ∧ w'.cell? ⟨gb375, 9, none⟩ = some (.int .i64 a0_9) ∧ w'.cell? ⟨gb375, 10, none⟩ = some (.int .i64 a0_10) ∧ w'.cell? ⟨gb375, 11, none⟩ = some (.int .i64 a0_11) ∧ w'.cell? ⟨gb376, 0, none⟩ = some (.int .i64 a1_0) ∧ w'.cell? ⟨gb376, 1, none⟩ = some (.int .i64 a1_1)) ∧ (w'.heap[gb375]? = some (.cells #[.int .i64 a0_0, .int .i64 a0_1, .int .i64 a0_2, .int .i64 a0_3, .int .i64 a0_4, .int .i64 a0_5, .int .i64 a0_6, .int .i64 a0_7, .int .i64 a0_8, .int .i64 a0_9, .int .i64 a0_10, .int .i64 a0_11] 37 (0, 0))) ∧ (w'.heap[gb376]? = some (.cells #[.int .i64 a1_0, .int .i64 a1_1] 35 (0, 0))) ∧ (w'.heap[s_]? = some (.cells #[.int .i64 0, .int .i64 0, .int .i64 0, .int .i64 0, .int .i64 0, .int .i64 0, .int .i64 0, .int .i64 0, .int .i64 0, .int .i64 0, .int .i64 0, .int .i64 0] 40 (0, 0))) ∧ (w.heap.size ≤ s_) ∧ (w.heap.size ≤ s_) ∧ (gb375 ≠ s_) ∧ (s_ ≠ gb375) ∧ (gb376 ≠ s_) ∧ (s_ ≠ gb376) ∧ (Below w.heap.size w w')) ?_ ?_
    rotate_left
    · intro hCont
      refine two_ (i := 1) (j := 5) (Ni := some 8) (Nj := some 5) (fl 7 7) (fl 7 37) rfl rfl rfl rfl (by kernel_rfl) (by decide) (by decide) (fun K hK => ?_) (fun K hK => ?_)
      · skip
        refine go1 Try.func19 #[.agg #[.int .i64 a0_0, .int .i64 a0_1, .int .i64 a0_2, .int .i64 a0_3, .int .i64 a0_4, .int .i64 a0_5, .int .i64 a0_6, .int .i64 a0_7, .int .i64 a0_8, .int .i64 a0_9, .int .i64 a0_10, .int .i64 a0_11]] ?_
        with_reducible refine (laws_toBody.calls a0_0 a0_1 a0_2 a0_3 a0_4 a0_5 a0_6 a0_7 a0_8 a0_9 a0_10 a0_11 t377 t378 t379 t380 t381 t382 t383 t384 t385 t386 t387 t388 _ A3.out).mono ?_
        rintro e w14 ⟨rfl, hb⟩
        refine ⟨_, rfl, ?_⟩
        replace BK375 := kBB BK375 hb
        replace BK376 := kBB BK376 hb
        replace HB := bS HB hb
        clear hb
        refine hK.out _ _ ⟨bc BK375 0, bc BK375 1, bc BK375 2, bc BK375 3, bc BK375 4, bc BK375 5, bc BK375 6, bc BK375 7, bc BK375 8, bc BK375 9, bc BK375 10, bc BK375 11, bc BK376 0, bc BK376 1⟩ (fun hHeld => ?_)
        clear hK K
        refine nm (some 8) ?_
        refine two_ (i := 3) (j := 5) (Ni := some 10) (Nj := some 5) (fl 7 15) (fl 7 39) rfl rfl rfl rfl (by kernel_rfl) (by decide) (by decide) (fun K hK => ?_) (fun K hK => ?_)
        · skip
          refine go1 Try.func20 #[.agg #[.int .i64 a1_0, .int .i64 a1_1]] ?_
          with_reducible refine (laws_toVec.calls a1_0 a1_1 t389 t390 _ A4.out).mono ?_
          rintro e w15 ⟨rfl, hb⟩
          refine ⟨_, rfl, ?_⟩
          replace BK375 := kBB BK375 hb
          replace BK376 := kBB BK376 hb
          replace HB := bS HB hb
          clear hb
          refine hK.out _ _ ⟨bc BK375 0, bc BK375 1, bc BK375 2, bc BK375 3, bc BK375 4, bc BK375 5, bc BK375 6, bc BK375 7, bc BK375 8, bc BK375 9, bc BK375 10, bc BK375 11, bc BK376 0, bc BK376 1⟩ (fun hHeld => ?_)
          clear hK K
          refine nm (some 10) ?_
          refine two_ (i := 4) (j := 5) (Ni := some 11) (Nj := some 5) (fl 7 31) (fl 7 47) rfl rfl rfl rfl (by kernel_rfl) (by decide) (by decide) (fun K hK => ?_) (fun K hK => ?_)
          · skip
            refine go1 Try.func18 #[.agg #[.int .i64 t377, .int .i64 t378, .int .i64 t379, .int .i64 t380, .int .i64 t381, .int .i64 t382, .int .i64 t383, .int .i64 t384, .int .i64 t385, .int .i64 t386, .int .i64 t387, .int .i64 t388], .agg #[.int .i64 t389, .int .i64 t390]] ?_
            with_reducible refine (spec_BodyPush.calls k t377 t378 t379 t380 t381 t382 t383 t384 t385 t386 t387 t388 t389 t390 t391 t392 t393 t394 t395 t396 t397 t398 t399 t400 t401 t402 _ A5.out).mono ?_
            rintro e w16 ⟨rfl, hb⟩
            refine ⟨_, rfl, ?_⟩
            replace BK375 := kBB BK375 hb
            replace BK376 := kBB BK376 hb
            replace HB := bS HB hb
            clear hb
            refine hK.out _ _ ⟨bc BK375 0, bc BK375 1, bc BK375 2, bc BK375 3, bc BK375 4, bc BK375 5, bc BK375 6, bc BK375 7, bc BK375 8, bc BK375 9, bc BK375 10, bc BK375 11, bc BK376 0, bc BK376 1⟩ (fun hHeld => ?_)
            clear hK K
            refine nm (some 11) ?_
            refine one_ (i := 5) (N := some 5) #[true, true, true, true, true, true, false] rfl rfl (by kernel_rfl) (by decide) (fun K hK => ?_)
            refine box_step ?hg (N := 5) ?hd (cs := #[.int .i64 0, .int .i64 0, .int .i64 0, .int .i64 0, .int .i64 0, .int .i64 0, .int .i64 0, .int .i64 0, .int .i64 0, .int .i64 0, .int .i64 0, .int .i64 0]) (t := 40) ?hr ?_; (case hd => rfl); (case hg => rfl); (case hr => first | (go_simp; done) | (go_simp; rfl))
            intro gb403 hg w17 hbox hb
            have BK403 := az hbox
            have GW403 := az ((gE hg (qL HB) : w.heap.size ≤ gb403))
            have GE403 := GW403
            obtain ⟨NB375_403, NB403_375⟩ := nPB BK375 hg
            obtain ⟨NB376_403, NB403_376⟩ := nPB BK376 hg
            replace BK375 := kBB BK375 hb
            replace BK376 := kBB BK376 hb
            replace HB := bS HB hb
            clear hb hbox hg
            refine hK.out _ _ ⟨bc BK375 0, bc BK375 1, bc BK375 2, bc BK375 3, bc BK375 4, bc BK375 5, bc BK375 6, bc BK375 7, bc BK375 8, bc BK375 9, bc BK375 10, bc BK375 11, bc BK376 0, bc BK376 1⟩ (fun hHeld => ?_)
            clear hK K
            refine nm (some 5) ?_
            exact nrm (hCont (gb403) _ ⟨hHeld, (qB BK375), (qB BK376), (qB BK403), GW403.out, GE403.out, NB375_403.out, NB403_375.out, NB376_403.out, NB403_376.out, (qL HB)⟩)
          skip
          refine box_step ?hg (N := 5) ?hd (cs := #[.int .i64 0, .int .i64 0, .int .i64 0, .int .i64 0, .int .i64 0, .int .i64 0, .int .i64 0, .int .i64 0, .int .i64 0, .int .i64 0, .int .i64 0, .int .i64 0]) (t := 40) ?hr ?_; (case hd => rfl); (case hg => rfl); (case hr => first | (go_simp; done) | (go_simp; rfl))
          intro gb403 hg w16 hbox hb
          have BK403 := az hbox
          have GW403 := az ((gE hg (qL HB) : w.heap.size ≤ gb403))
          have GE403 := GW403
          obtain ⟨NB375_403, NB403_375⟩ := nPB BK375 hg
          obtain ⟨NB376_403, NB403_376⟩ := nPB BK376 hg
          replace BK375 := kBB BK375 hb
          replace BK376 := kBB BK376 hb
          replace HB := bS HB hb
          clear hb hbox hg
          refine hK.out _ _ ⟨bc BK375 0, bc BK375 1, bc BK375 2, bc BK375 3, bc BK375 4, bc BK375 5, bc BK375 6, bc BK375 7, bc BK375 8, bc BK375 9, bc BK375 10, bc BK375 11, bc BK376 0, bc BK376 1⟩ (fun hHeld => ?_)
          clear hK K
          refine nm (some 5) ?_
          refine one_ (i := 4) (N := some 11) #[true, true, true, true, true, true, false] rfl rfl (by kernel_rfl) (by decide) (fun K hK => ?_)
          refine go1 Try.func18 #[.agg #[.int .i64 t377, .int .i64 t378, .int .i64 t379, .int .i64 t380, .int .i64 t381, .int .i64 t382, .int .i64 t383, .int .i64 t384, .int .i64 t385, .int .i64 t386, .int .i64 t387, .int .i64 t388], .agg #[.int .i64 t389, .int .i64 t390]] ?_
          with_reducible refine (spec_BodyPush.calls k t377 t378 t379 t380 t381 t382 t383 t384 t385 t386 t387 t388 t389 t390 t391 t392 t393 t394 t395 t396 t397 t398 t399 t400 t401 t402 _ A5.out).mono ?_
          rintro e w17 ⟨rfl, hb⟩
          refine ⟨_, rfl, ?_⟩
          replace BK375 := kBB BK375 hb
          replace BK376 := kBB BK376 hb
          replace BK403 := kBB BK403 hb
          replace HB := bS HB hb
          clear hb
          refine hK.out _ _ ⟨bc BK375 0, bc BK375 1, bc BK375 2, bc BK375 3, bc BK375 4, bc BK375 5, bc BK375 6, bc BK375 7, bc BK375 8, bc BK375 9, bc BK375 10, bc BK375 11, bc BK376 0, bc BK376 1⟩ (fun hHeld => ?_)
          clear hK K
          refine nm (some 11) ?_
          exact nrm (hCont (gb403) _ ⟨hHeld, (qB BK375), (qB BK376), (qB BK403), GW403.out, GE403.out, NB375_403.out, NB403_375.out, NB376_403.out, NB403_376.out, (qL HB)⟩)
        skip
        refine box_step ?hg (N := 5) ?hd (cs := #[.int .i64 0, .int .i64 0, .int .i64 0, .int .i64 0, .int .i64 0, .int .i64 0, .int .i64 0, .int .i64 0, .int .i64 0, .int .i64 0, .int .i64 0, .int .i64 0]) (t := 40) ?hr ?_; (case hd => rfl); (case hg => rfl); (case hr => first | (go_simp; done) | (go_simp; rfl))
        intro gb403 hg w15 hbox hb
        have BK403 := az hbox
        have GW403 := az ((gE hg (qL HB) : w.heap.size ≤ gb403))
        have GE403 := GW403
        obtain ⟨NB375_403, NB403_375⟩ := nPB BK375 hg
        obtain ⟨NB376_403, NB403_376⟩ := nPB BK376 hg
        replace BK375 := kBB BK375 hb
        replace BK376 := kBB BK376 hb
        replace HB := bS HB hb
        clear hb hbox hg
        refine hK.out _ _ ⟨bc BK375 0, bc BK375 1, bc BK375 2, bc BK375 3, bc BK375 4, bc BK375 5, bc BK375 6, bc BK375 7, bc BK375 8, bc BK375 9, bc BK375 10, bc BK375 11, bc BK376 0, bc BK376 1⟩ (fun hHeld => ?_)
        clear hK K
        refine nm (some 5) ?_
        refine one_ (i := 3) (N := some 10) #[true, true, true, true, false, true, false] rfl rfl (by kernel_rfl) (by decide) (fun K hK => ?_)
        refine go1 Try.func20 #[.agg #[.int .i64 a1_0, .int .i64 a1_1]] ?_
        with_reducible refine (laws_toVec.calls a1_0 a1_1 t389 t390 _ A4.out).mono ?_
        rintro e w16 ⟨rfl, hb⟩
        refine ⟨_, rfl, ?_⟩
        replace BK375 := kBB BK375 hb
        replace BK376 := kBB BK376 hb
        replace BK403 := kBB BK403 hb
        replace HB := bS HB hb
        clear hb
        refine hK.out _ _ ⟨bc BK375 0, bc BK375 1, bc BK375 2, bc BK375 3, bc BK375 4, bc BK375 5, bc BK375 6, bc BK375 7, bc BK375 8, bc BK375 9, bc BK375 10, bc BK375 11, bc BK376 0, bc BK376 1⟩ (fun hHeld => ?_)
        clear hK K
        refine nm (some 10) ?_
        refine one_ (i := 4) (N := some 11) #[true, true, true, true, true, true, false] rfl rfl (by kernel_rfl) (by decide) (fun K hK => ?_)
        refine go1 Try.func18 #[.agg #[.int .i64 t377, .int .i64 t378, .int .i64 t379, .int .i64 t380, .int .i64 t381, .int .i64 t382, .int .i64 t383, .int .i64 t384, .int .i64 t385, .int .i64 t386, .int .i64 t387, .int .i64 t388], .agg #[.int .i64 t389, .int .i64 t390]] ?_
        with_reducible refine (spec_BodyPush.calls k t377 t378 t379 t380 t381 t382 t383 t384 t385 t386 t387 t388 t389 t390 t391 t392 t393 t394 t395 t396 t397 t398 t399 t400 t401 t402 _ A5.out).mono ?_
        rintro e w17 ⟨rfl, hb⟩
        refine ⟨_, rfl, ?_⟩
        replace BK375 := kBB BK375 hb
        replace BK376 := kBB BK376 hb
        replace BK403 := kBB BK403 hb
        replace HB := bS HB hb
        clear hb
        refine hK.out _ _ ⟨bc BK375 0, bc BK375 1, bc BK375 2, bc BK375 3, bc BK375 4, bc BK375 5, bc BK375 6, bc BK375 7, bc BK375 8, bc BK375 9, bc BK375 10, bc BK375 11, bc BK376 0, bc BK376 1⟩ (fun hHeld => ?_)
        clear hK K
        refine nm (some 11) ?_
        exact nrm (hCont (gb403) _ ⟨hHeld, (qB BK375), (qB BK376), (qB BK403), GW403.out, GE403.out, NB375_403.out, NB403_375.out, NB376_403.out, NB403_376.out, (qL HB)⟩)
      skip
      refine box_step ?hg (N := 5) ?hd (cs := #[.int .i64 0, .int .i64 0, .int .i64 0, .int .i64 0, .int .i64 0, .int .i64 0, .int .i64 0, .int .i64 0, .int .i64 0, .int .i64 0, .int .i64 0, .int .i64 0]) (t := 40) ?hr ?_; (case hd => rfl); (case hg => rfl); (case hr => first | (go_simp; done) | (go_simp; rfl))
      intro gb403 hg w14 hbox hb
      have BK403 := az hbox
      have GW403 := az ((gE hg (qL HB) : w.heap.size ≤ gb403))
      have GE403 := GW403
      obtain ⟨NB375_403, NB403_375⟩ := nPB BK375 hg
      obtain ⟨NB376_403, NB403_376⟩ := nPB BK376 hg
      replace BK375 := kBB BK375 hb
      replace BK376 := kBB BK376 hb
      replace HB := bS HB hb
      clear hb hbox hg
      refine hK.out _ _ ⟨bc BK375 0, bc BK375 1, bc BK375 2, bc BK375 3, bc BK375 4, bc BK375 5, bc BK375 6, bc BK375 7, bc BK375 8, bc BK375 9, bc BK375 10, bc BK375 11, bc BK376 0, bc BK376 1⟩ (fun hHeld => ?_)
      clear hK K
      refine nm (some 5) ?_
      refine one_ (i := 1) (N := some 8) #[true, true, true, false, false, true, false] rfl rfl (by kernel_rfl) (by decide) (fun K hK => ?_)
      refine go1 Try.func19 #[.agg #[.int .i64 a0_0, .int .i64 a0_1, .int .i64 a0_2, .int .i64 a0_3, .int .i64 a0_4, .int .i64 a0_5, .int .i64 a0_6, .int .i64 a0_7, .int .i64 a0_8, .int .i64 a0_9, .int .i64 a0_10, .int .i64 a0_11]] ?_
      with_reducible refine (laws_toBody.calls a0_0 a0_1 a0_2 a0_3 a0_4 a0_5 a0_6 a0_7 a0_8 a0_9 a0_10 a0_11 t377 t378 t379 t380 t381 t382 t383 t384 t385 t386 t387 t388 _ A3.out).mono ?_
      rintro e w15 ⟨rfl, hb⟩
      refine ⟨_, rfl, ?_⟩
      replace BK375 := kBB BK375 hb
      replace BK376 := kBB BK376 hb
      replace BK403 := kBB BK403 hb
      replace HB := bS HB hb
      clear hb
      refine hK.out _ _ ⟨bc BK375 0, bc BK375 1, bc BK375 2, bc BK375 3, bc BK375 4, bc BK375 5, bc BK375 6, bc BK375 7, bc BK375 8, bc BK375 9, bc BK375 10, bc BK375 11, bc BK376 0, bc BK376 1⟩ (fun hHeld => ?_)
      clear hK K
      refine nm (some 8) ?_
      refine one_ (i := 3) (N := some 10) #[true, true, true, true, false, true, false] rfl rfl (by kernel_rfl) (by decide) (fun K hK => ?_)
      refine go1 Try.func20 #[.agg #[.int .i64 a1_0, .int .i64 a1_1]] ?_
      with_reducible refine (laws_toVec.calls a1_0 a1_1 t389 t390 _ A4.out).mono ?_
      rintro e w16 ⟨rfl, hb⟩
      refine ⟨_, rfl, ?_⟩
      replace BK375 := kBB BK375 hb
      replace BK376 := kBB BK376 hb
      replace BK403 := kBB BK403 hb
      replace HB := bS HB hb
      clear hb
      refine hK.out _ _ ⟨bc BK375 0, bc BK375 1, bc BK375 2, bc BK375 3, bc BK375 4, bc BK375 5, bc BK375 6, bc BK375 7, bc BK375 8, bc BK375 9, bc BK375 10, bc BK375 11, bc BK376 0, bc BK376 1⟩ (fun hHeld => ?_)
      clear hK K
      refine nm (some 10) ?_
      refine one_ (i := 4) (N := some 11) #[true, true, true, true, true, true, false] rfl rfl (by kernel_rfl) (by decide) (fun K hK => ?_)
      refine go1 Try.func18 #[.agg #[.int .i64 t377, .int .i64 t378, .int .i64 t379, .int .i64 t380, .int .i64 t381, .int .i64 t382, .int .i64 t383, .int .i64 t384, .int .i64 t385, .int .i64 t386, .int .i64 t387, .int .i64 t388], .agg #[.int .i64 t389, .int .i64 t390]] ?_
      with_reducible refine (spec_BodyPush.calls k t377 t378 t379 t380 t381 t382 t383 t384 t385 t386 t387 t388 t389 t390 t391 t392 t393 t394 t395 t396 t397 t398 t399 t400 t401 t402 _ A5.out).mono ?_
      rintro e w17 ⟨rfl, hb⟩
      refine ⟨_, rfl, ?_⟩
      replace BK375 := kBB BK375 hb
      replace BK376 := kBB BK376 hb
      replace BK403 := kBB BK403 hb
      replace HB := bS HB hb
      clear hb
      refine hK.out _ _ ⟨bc BK375 0, bc BK375 1, bc BK375 2, bc BK375 3, bc BK375 4, bc BK375 5, bc BK375 6, bc BK375 7, bc BK375 8, bc BK375 9, bc BK375 10, bc BK375 11, bc BK376 0, bc BK376 1⟩ (fun hHeld => ?_)
      clear hK K
      refine nm (some 11) ?_
      exact nrm (hCont (gb403) _ ⟨hHeld, (qB BK375), (qB BK376), (qB BK403), GW403.out, GE403.out, NB375_403.out, NB403_375.out, NB376_403.out, NB403_376.out, (qL HB)⟩)
    rintro gb403 w18 ⟨hS_, h0_, h1_, h2_, h3_, h4_, h5_, h6_, h7_, h8_, h9_⟩
    have BK403 := az h2_
    have GW403 := az h3_
    have GE403 := az h4_
    have NB375_403 := az h5_
    have NB403_375 := az h6_
    have NB376_403 := az h7_
    have NB403_376 := az h8_
    replace BK375 := az h0_
    replace BK376 := az h1_
    replace HB := az h9_
    clear h0_ h1_ h2_ h3_ h4_ h5_ h6_ h7_ h8_ h9_
    have hHeld := hS_
    refine nmp ?_
    refine one_ (i := 6) (N := none) #[true, true, true, true, true, true, true] rfl rfl (by kernel_rfl) (by decide) (fun K hK => ?_)
    have hs19 : w18.cell? ⟨gb403, 0, none⟩ = some (.int .i64 0) := bc BK403 0
    have hfs19 := blk_frozen BK403.out 0
    have hns19_0 := NB375_403.out
    have hns19_1 := NB376_403.out
    have hms19_0 := NB403_375.out
    have hms19_1 := NB403_376.out
    have hs20 : w18.cell? ⟨gb403, 1, none⟩ = some (.int .i64 0) := bc BK403 1
    have hfs20 := blk_frozen BK403.out 1
    have hns20_0 := NB375_403.out
    have hns20_1 := NB376_403.out
    have hms20_0 := NB403_375.out
    have hms20_1 := NB403_376.out
    have hs21 : w18.cell? ⟨gb403, 2, none⟩ = some (.int .i64 0) := bc BK403 2
    have hfs21 := blk_frozen BK403.out 2
    have hns21_0 := NB375_403.out
    have hns21_1 := NB376_403.out
    have hms21_0 := NB403_375.out
    have hms21_1 := NB403_376.out
    have hs22 : w18.cell? ⟨gb403, 3, none⟩ = some (.int .i64 0) := bc BK403 3
    have hfs22 := blk_frozen BK403.out 3
    have hns22_0 := NB375_403.out
    have hns22_1 := NB376_403.out
    have hms22_0 := NB403_375.out
    have hms22_1 := NB403_376.out
    have hs23 : w18.cell? ⟨gb403, 4, none⟩ = some (.int .i64 0) := bc BK403 4
    have hfs23 := blk_frozen BK403.out 4
    have hns23_0 := NB375_403.out
    have hns23_1 := NB376_403.out
    have hms23_0 := NB403_375.out
    have hms23_1 := NB403_376.out
    have hs24 : w18.cell? ⟨gb403, 5, none⟩ = some (.int .i64 0) := bc BK403 5
    have hfs24 := blk_frozen BK403.out 5
    have hns24_0 := NB375_403.out
    have hns24_1 := NB376_403.out
    have hms24_0 := NB403_375.out
    have hms24_1 := NB403_376.out
    have hs25 : w18.cell? ⟨gb403, 6, none⟩ = some (.int .i64 0) := bc BK403 6
    have hfs25 := blk_frozen BK403.out 6
    have hns25_0 := NB375_403.out
    have hns25_1 := NB376_403.out
    have hms25_0 := NB403_375.out
    have hms25_1 := NB403_376.out
    have hs26 : w18.cell? ⟨gb403, 7, none⟩ = some (.int .i64 0) := bc BK403 7
    have hfs26 := blk_frozen BK403.out 7
    have hns26_0 := NB375_403.out
    have hns26_1 := NB376_403.out
    have hms26_0 := NB403_375.out
    have hms26_1 := NB403_376.out
    have hs27 : w18.cell? ⟨gb403, 8, none⟩ = some (.int .i64 0) := bc BK403 8
    have hfs27 := blk_frozen BK403.out 8
    have hns27_0 := NB375_403.out
    have hns27_1 := NB376_403.out
    have hms27_0 := NB403_375.out
    have hms27_1 := NB403_376.out
    have hs28 : w18.cell? ⟨gb403, 9, none⟩ = some (.int .i64 0) := bc BK403 9
    have hfs28 := blk_frozen BK403.out 9
    have hns28_0 := NB375_403.out
    have hns28_1 := NB376_403.out
    have hms28_0 := NB403_375.out
    have hms28_1 := NB403_376.out
    have hs29 : w18.cell? ⟨gb403, 10, none⟩ = some (.int .i64 0) := bc BK403 10
    have hfs29 := blk_frozen BK403.out 10
    have hns29_0 := NB375_403.out
    have hns29_1 := NB376_403.out
    have hms29_0 := NB403_375.out
    have hms29_1 := NB403_376.out
    have hs30 : w18.cell? ⟨gb403, 11, none⟩ = some (.int .i64 0) := bc BK403 11
    have hfs30 := blk_frozen BK403.out 11
    have hns30_0 := NB375_403.out
    have hns30_1 := NB376_403.out
    have hms30_0 := NB403_375.out
    have hms30_1 := NB403_376.out
    refine skip_ (w1 := ?_) ?hw ?hn ?_ ?_; (case hw => unfold Region.wanted; rfl); (case hn => rfl)
    rotate_left
    · go_simp
      rfl
    refine hK.out _ _ ⟨(cf NB375_403 ((cf NB375_403 ((cf NB375_403 ((cf NB375_403 ((cf NB375_403 ((cf NB375_403 ((cf NB375_403 ((cf NB375_403 ((cf NB375_403 ((cf NB375_403 ((cf NB375_403 ((cf NB375_403 (hHeld.1)))))))))))))))))))))))), (cf NB375_403 ((cf NB375_403 ((cf NB375_403 ((cf NB375_403 ((cf NB375_403 ((cf NB375_403 ((cf NB375_403 ((cf NB375_403 ((cf NB375_403 ((cf NB375_403 ((cf NB375_403 ((cf NB375_403 (hHeld.2.1)))))))))))))))))))))))), (cf NB375_403 ((cf NB375_403 ((cf NB375_403 ((cf NB375_403 ((cf NB375_403 ((cf NB375_403 ((cf NB375_403 ((cf NB375_403 ((cf NB375_403 ((cf NB375_403 ((cf NB375_403 ((cf NB375_403 (hHeld.2.2.1)))))))))))))))))))))))), (cf NB375_403 ((cf NB375_403 ((cf NB375_403 ((cf NB375_403 ((cf NB375_403 ((cf NB375_403 ((cf NB375_403 ((cf NB375_403 ((cf NB375_403 ((cf NB375_403 ((cf NB375_403 ((cf NB375_403 (hHeld.2.2.2.1)))))))))))))))))))))))), (cf NB375_403 ((cf NB375_403 ((cf NB375_403 ((cf NB375_403 ((cf NB375_403 ((cf NB375_403 ((cf NB375_403 ((cf NB375_403 ((cf NB375_403 ((cf NB375_403 ((cf NB375_403 ((cf NB375_403 (hHeld.2.2.2.2.1)))))))))))))))))))))))), (cf NB375_403 ((cf NB375_403 ((cf NB375_403 ((cf NB375_403 ((cf NB375_403 ((cf NB375_403 ((cf NB375_403 ((cf NB375_403 ((cf NB375_403 ((cf NB375_403 ((cf NB375_403 ((cf NB375_403 (hHeld.2.2.2.2.2.1)))))))))))))))))))))))), (cf NB375_403 ((cf NB375_403 ((cf NB375_403 ((cf NB375_403 ((cf NB375_403 ((cf NB375_403 ((cf NB375_403 ((cf NB375_403 ((cf NB375_403 ((cf NB375_403 ((cf NB375_403 ((cf NB375_403 (hHeld.2.2.2.2.2.2.1)))))))))))))))))))))))), (cf NB375_403 ((cf NB375_403 ((cf NB375_403 ((cf NB375_403 ((cf NB375_403 ((cf NB375_403 ((cf NB375_403 ((cf NB375_403 ((cf NB375_403 ((cf NB375_403 ((cf NB375_403 ((cf NB375_403 (hHeld.2.2.2.2.2.2.2.1)))))))))))))))))))))))), (cf NB375_403 ((cf NB375_403 ((cf NB375_403 ((cf NB375_403 ((cf NB375_403 ((cf NB375_403 ((cf NB375_403 ((cf NB375_403 ((cf NB375_403 ((cf NB375_403 ((cf NB375_403 ((cf NB375_403 (hHeld.2.2.2.2.2.2.2.2.1)))))))))))))))))))))))), (cf NB375_403 ((cf NB375_403 ((cf NB375_403 ((cf NB375_403 ((cf NB375_403 ((cf NB375_403 ((cf NB375_403 ((cf NB375_403 ((cf NB375_403 ((cf NB375_403 ((cf NB375_403 ((cf NB375_403 (hHeld.2.2.2.2.2.2.2.2.2.1)))))))))))))))))))))))), (cf NB375_403 ((cf NB375_403 ((cf NB375_403 ((cf NB375_403 ((cf NB375_403 ((cf NB375_403 ((cf NB375_403 ((cf NB375_403 ((cf NB375_403 ((cf NB375_403 ((cf NB375_403 ((cf NB375_403 (hHeld.2.2.2.2.2.2.2.2.2.2.1)))))))))))))))))))))))), (cf NB375_403 ((cf NB375_403 ((cf NB375_403 ((cf NB375_403 ((cf NB375_403 ((cf NB375_403 ((cf NB375_403 ((cf NB375_403 ((cf NB375_403 ((cf NB375_403 ((cf NB375_403 ((cf NB375_403 (hHeld.2.2.2.2.2.2.2.2.2.2.2.1)))))))))))))))))))))))), (cf NB376_403 ((cf NB376_403 ((cf NB376_403 ((cf NB376_403 ((cf NB376_403 ((cf NB376_403 ((cf NB376_403 ((cf NB376_403 ((cf NB376_403 ((cf NB376_403 ((cf NB376_403 ((cf NB376_403 (hHeld.2.2.2.2.2.2.2.2.2.2.2.2.1)))))))))))))))))))))))), (cf NB376_403 ((cf NB376_403 ((cf NB376_403 ((cf NB376_403 ((cf NB376_403 ((cf NB376_403 ((cf NB376_403 ((cf NB376_403 ((cf NB376_403 ((cf NB376_403 ((cf NB376_403 ((cf NB376_403 (hHeld.2.2.2.2.2.2.2.2.2.2.2.2.2))))))))))))))))))))))))⟩ (fun hHeld => ?_)
    clear hK K
    refine done_ (by kernel_rfl) ?_
    try go_wp2
    obtain ⟨w31, hw_⟩ : ∃ x, x = ((((((((((((w18.setCell ⟨gb403, 0, none⟩ (.int .i64 t391)).setCell ⟨gb403, 1, none⟩ (.int .i64 t392)).setCell ⟨gb403, 2, none⟩ (.int .i64 t393)).setCell ⟨gb403, 3, none⟩ (.int .i64 t394)).setCell ⟨gb403, 4, none⟩ (.int .i64 t395)).setCell ⟨gb403, 5, none⟩ (.int .i64 t396)).setCell ⟨gb403, 6, none⟩ (.int .i64 t397)).setCell ⟨gb403, 7, none⟩ (.int .i64 t398)).setCell ⟨gb403, 8, none⟩ (.int .i64 t399)).setCell ⟨gb403, 9, none⟩ (.int .i64 t400)).setCell ⟨gb403, 10, none⟩ (.int .i64 t401)).setCell ⟨gb403, 11, none⟩ (.int .i64 t402)) := ⟨_, rfl⟩
    replace BK375 : Aside0 (w31.heap[gb375]? = some (.cells #[.int .i64 a0_0, .int .i64 a0_1, .int .i64 a0_2, .int .i64 a0_3, .int .i64 a0_4, .int .i64 a0_5, .int .i64 a0_6, .int .i64 a0_7, .int .i64 a0_8, .int .i64 a0_9, .int .i64 a0_10, .int .i64 a0_11] 37 (0, 0))) := ⟨by rw [hw_]; exact qF BK375⟩
    replace BK376 : Aside0 (w31.heap[gb376]? = some (.cells #[.int .i64 a1_0, .int .i64 a1_1] 35 (0, 0))) := ⟨by rw [hw_]; exact qF BK376⟩
    replace BK403 : Aside0 (w31.heap[gb403]? = some (.cells #[.int .i64 t391, .int .i64 t392, .int .i64 t393, .int .i64 t394, .int .i64 t395, .int .i64 t396, .int .i64 t397, .int .i64 t398, .int .i64 t399, .int .i64 t400, .int .i64 t401, .int .i64 t402] 40 (0, 0))) := ⟨by rw [hw_]; exact qP BK403⟩
    replace HB : Aside0 (Below w.heap.size w w31) := ⟨by rw [hw_]; exact qL HB⟩
    rw [← hw_]
    clear hw_
    replace BK375 := az (blk_drew BK375.out)
    replace BK376 := az (blk_drew BK376.out)
    replace BK403 := az (blk_drew BK403.out)
    replace HB := az (below_drew1 HB.out)
    refine start_ (n := 7) (S := fun w' => w'.cell? ⟨gb375, 0, none⟩ = some (.int .i64 a0_0) ∧ w'.cell? ⟨gb375, 1, none⟩ = some (.int .i64 a0_1) ∧ w'.cell? ⟨gb375, 2, none⟩ = some (.int .i64 a0_2) ∧ w'.cell? ⟨gb375, 3, none⟩ = some (.int .i64 a0_3) ∧ w'.cell? ⟨gb375, 4, none⟩ = some (.int .i64 a0_4) ∧ w'.cell? ⟨gb375, 5, none⟩ = some (.int .i64 a0_5) ∧ w'.cell? ⟨gb375, 6, none⟩ = some (.int .i64 a0_6) ∧ w'.cell? ⟨gb375, 7, none⟩ = some (.int .i64 a0_7) ∧ w'.cell? ⟨gb375, 8, none⟩ = some (.int .i64 a0_8) ∧ w'.cell? ⟨gb375, 9, none⟩ = some (.int .i64 a0_9) ∧ w'.cell? ⟨gb375, 10, none⟩ = some (.int .i64 a0_10) ∧ w'.cell? ⟨gb375, 11, none⟩ = some (.int .i64 a0_11) ∧ w'.cell? ⟨gb376, 0, none⟩ = some (.int .i64 a1_0) ∧ w'.cell? ⟨gb376, 1, none⟩ = some (.int .i64 a1_1)) (ds := []) #[false, false, false, false, false, false, false] (by kernel_rfl) rfl rfl ⟨bc BK375 0, bc BK375 1, bc BK375 2, bc BK375 3, bc BK375 4, bc BK375 5, bc BK375 6, bc BK375 7, bc BK375 8, bc BK375 9, bc BK375 10, bc BK375 11, bc BK376 0, bc BK376 1⟩ (fun hHeld => ?_)
    generalize w31.drew = w32 at BK375 BK376 BK403 HB hHeld ⊢
    refine take_ (i := 0) (N := some 12) (v := ?_) (a' := ?_) #[true, false, false, false, false, false, false] rfl rfl (by kernel_rfl) (fun _ _ _ h => h) (Or.inl ⟨by rfl, ?_⟩) hHeld ?_ ?_
    rotate_left
    · rintro w' ⟨s0, s1, s2, s3, s4, s5, s6, s7, s8, s9, s10, s11, s12, s13⟩
      go_simp
      with_reducible rfl
    rotate_left
    · simp only [Act.put, List.setIfInBounds_toArray, List.set_cons_zero, List.set_cons_succ, i64_w, i32_w]
      rfl
    refine take_ (i := 2) (N := some 14) (v := ?_) (a' := ?_) #[true, false, true, false, false, false, false] rfl rfl (by kernel_rfl) (fun _ _ _ h => h) (Or.inl ⟨by rfl, ?_⟩) hHeld ?_ ?_
    rotate_left
    · rintro w' ⟨s0, s1, s2, s3, s4, s5, s6, s7, s8, s9, s10, s11, s12, s13⟩
      go_simp
      with_reducible rfl
    rotate_left
    · simp only [Act.put, List.setIfInBounds_toArray, List.set_cons_zero, List.set_cons_succ, i64_w, i32_w]
      rfl
    refine join_ (σ := Nat) 1 (fl 7 63) (fun s_ => [(13, .agg #[.int .i64 t404, .int .i64 t405, .int .i64 t406, .int .i64 t407, .int .i64 t408, .int .i64 t409, .int .i64 t410, .int .i64 t411, .int .i64 t412, .int .i64 t413, .int .i64 t414, .int .i64 t415]), (15, .agg #[.int .i64 t416, .int .i64 t417]), (16, .agg #[.int .i64 t418, .int .i64 t419, .int .i64 t420, .int .i64 t421, .int .i64 t422, .int .i64 t423, .int .i64 t424, .int .i64 t425, .int .i64 t426, .int .i64 t427, .int .i64 t428, .int .i64 t429]), (6, .pointer (some ⟨s_, 0, none⟩))]) (fun s_ w' => (w'.cell? ⟨gb375, 0, none⟩ = some (.int .i64 a0_0) ∧ w'.cell? ⟨gb375, 1, none⟩ = some (.int .i64 a0_1) ∧ w'.cell? ⟨gb375, 2, none⟩ = some (.int .i64 a0_2) ∧ w'.cell? ⟨gb375, 3, none⟩ = some (.int .i64 a0_3) ∧ w'.cell? ⟨gb375, 4, none⟩ = some (.int .i64 a0_4) ∧ w'.cell? ⟨gb375, 5, none⟩ = some (.int .i64 a0_5) ∧ w'.cell? ⟨gb375, 6, none⟩ = some (.int .i64 a0_6) ∧ w'.cell? ⟨gb375, 7, none⟩ = some (.int .i64 a0_7) ∧ w'.cell? ⟨gb375, 8, none⟩ = some (.int .i64 a0_8) ∧ w'.cell? ⟨gb375, 9, none⟩ = some (.int .i64 a0_9) ∧ w'.cell? ⟨gb375, 10, none⟩ = some (.int .i64 a0_10) ∧ w'.cell? ⟨gb375, 11, none⟩ = some (.int .i64 a0_11) ∧ w'.cell? ⟨gb376, 0, none⟩ = some (.int .i64 a1_0) ∧ w'.cell? ⟨gb376, 1, none⟩ = some (.int .i64 a1_1)) ∧ (w'.heap[gb375]? = some (.cells #[.int .i64 a0_0, .int .i64 a0_1, .int .i64 a0_2, .int .i64 a0_3, .int .i64 a0_4, .int .i64 a0_5, .int .i64 a0_6, .int .i64 a0_7, .int .i64 a0_8, .int .i64 a0_9, .int .i64 a0_10, .int .i64 a0_11] 37 (0, 0))) ∧ (w'.heap[gb376]? = some (.cells #[.int .i64 a1_0, .int .i64 a1_1] 35 (0, 0))) ∧ (w'.heap[gb403]? = some (.cells #[.int .i64 t391, .int .i64 t392, .int .i64 t393, .int .i64 t394, .int .i64 t395, .int .i64 t396, .int .i64 t397, .int .i64 t398, .int .i64 t399, .int .i64 t400, .int .i64 t401, .int .i64 t402] 40 (0, 0))) ∧ (w'.heap[s_]? = some (.cells #[.int .i64 0, .int .i64 0, .int .i64 0, .int .i64 0, .int .i64 0, .int .i64 0, .int .i64 0, .int .i64 0, .int .i64 0, .int .i64 0, .int .i64 0, .int .i64 0] 40 (0, 0))) ∧ (w.heap.size ≤ s_) ∧ (w.heap.size ≤ s_) ∧ (gb375 ≠ s_) ∧ (s_ ≠ gb375) ∧ (gb376 ≠ s_) ∧ (s_ ≠ gb376) ∧ (gb403 ≠ s_) ∧ (s_ ≠ gb403) ∧ (Below w.heap.size w w')) ?_ ?_
    rotate_left
    · intro hCont
      refine two_ (i := 1) (j := 5) (Ni := some 13) (Nj := some 6) (fl 7 7) (fl 7 37) rfl rfl rfl rfl (by kernel_rfl) (by decide) (by decide) (fun K hK => ?_) (fun K hK => ?_)
      · skip
        refine go1 Try.func19 #[.agg #[.int .i64 a0_0, .int .i64 a0_1, .int .i64 a0_2, .int .i64 a0_3, .int .i64 a0_4, .int .i64 a0_5, .int .i64 a0_6, .int .i64 a0_7, .int .i64 a0_8, .int .i64 a0_9, .int .i64 a0_10, .int .i64 a0_11]] ?_
        with_reducible refine (laws_toBody.calls a0_0 a0_1 a0_2 a0_3 a0_4 a0_5 a0_6 a0_7 a0_8 a0_9 a0_10 a0_11 t404 t405 t406 t407 t408 t409 t410 t411 t412 t413 t414 t415 _ A6.out).mono ?_
        rintro e w33 ⟨rfl, hb⟩
        refine ⟨_, rfl, ?_⟩
        replace BK375 := kBB BK375 hb
        replace BK376 := kBB BK376 hb
        replace BK403 := kBB BK403 hb
        replace HB := bS HB hb
        clear hb
        refine hK.out _ _ ⟨bc BK375 0, bc BK375 1, bc BK375 2, bc BK375 3, bc BK375 4, bc BK375 5, bc BK375 6, bc BK375 7, bc BK375 8, bc BK375 9, bc BK375 10, bc BK375 11, bc BK376 0, bc BK376 1⟩ (fun hHeld => ?_)
        clear hK K
        refine nm (some 13) ?_
        refine two_ (i := 3) (j := 5) (Ni := some 15) (Nj := some 6) (fl 7 15) (fl 7 39) rfl rfl rfl rfl (by kernel_rfl) (by decide) (by decide) (fun K hK => ?_) (fun K hK => ?_)
        · skip
          refine go1 Try.func20 #[.agg #[.int .i64 a1_0, .int .i64 a1_1]] ?_
          with_reducible refine (laws_toVec.calls a1_0 a1_1 t416 t417 _ A7.out).mono ?_
          rintro e w34 ⟨rfl, hb⟩
          refine ⟨_, rfl, ?_⟩
          replace BK375 := kBB BK375 hb
          replace BK376 := kBB BK376 hb
          replace BK403 := kBB BK403 hb
          replace HB := bS HB hb
          clear hb
          refine hK.out _ _ ⟨bc BK375 0, bc BK375 1, bc BK375 2, bc BK375 3, bc BK375 4, bc BK375 5, bc BK375 6, bc BK375 7, bc BK375 8, bc BK375 9, bc BK375 10, bc BK375 11, bc BK376 0, bc BK376 1⟩ (fun hHeld => ?_)
          clear hK K
          refine nm (some 15) ?_
          refine two_ (i := 4) (j := 5) (Ni := some 16) (Nj := some 6) (fl 7 31) (fl 7 47) rfl rfl rfl rfl (by kernel_rfl) (by decide) (by decide) (fun K hK => ?_) (fun K hK => ?_)
          · skip
            refine go1 Try.func21 #[.agg #[.int .i64 t404, .int .i64 t405, .int .i64 t406, .int .i64 t407, .int .i64 t408, .int .i64 t409, .int .i64 t410, .int .i64 t411, .int .i64 t412, .int .i64 t413, .int .i64 t414, .int .i64 t415], .agg #[.int .i64 t416, .int .i64 t417]] ?_
            with_reducible refine (impl_BodyPush.calls k t404 t405 t406 t407 t408 t409 t410 t411 t412 t413 t414 t415 t416 t417 t418 t419 t420 t421 t422 t423 t424 t425 t426 t427 t428 t429 _ A8.out).mono ?_
            rintro e w35 ⟨rfl, hb⟩
            refine ⟨_, rfl, ?_⟩
            replace BK375 := kBB BK375 hb
            replace BK376 := kBB BK376 hb
            replace BK403 := kBB BK403 hb
            replace HB := bS HB hb
            clear hb
            refine hK.out _ _ ⟨bc BK375 0, bc BK375 1, bc BK375 2, bc BK375 3, bc BK375 4, bc BK375 5, bc BK375 6, bc BK375 7, bc BK375 8, bc BK375 9, bc BK375 10, bc BK375 11, bc BK376 0, bc BK376 1⟩ (fun hHeld => ?_)
            clear hK K
            refine nm (some 16) ?_
            refine one_ (i := 5) (N := some 6) #[true, true, true, true, true, true, false] rfl rfl (by kernel_rfl) (by decide) (fun K hK => ?_)
            refine box_step ?hg (N := 6) ?hd (cs := #[.int .i64 0, .int .i64 0, .int .i64 0, .int .i64 0, .int .i64 0, .int .i64 0, .int .i64 0, .int .i64 0, .int .i64 0, .int .i64 0, .int .i64 0, .int .i64 0]) (t := 40) ?hr ?_; (case hd => rfl); (case hg => rfl); (case hr => first | (go_simp; done) | (go_simp; rfl))
            intro gb430 hg w36 hbox hb
            have BK430 := az hbox
            have GW430 := az ((gE hg (qL HB) : w.heap.size ≤ gb430))
            have GE430 := GW430
            obtain ⟨NB375_430, NB430_375⟩ := nPB BK375 hg
            obtain ⟨NB376_430, NB430_376⟩ := nPB BK376 hg
            obtain ⟨NB403_430, NB430_403⟩ := nPB BK403 hg
            replace BK375 := kBB BK375 hb
            replace BK376 := kBB BK376 hb
            replace BK403 := kBB BK403 hb
            replace HB := bS HB hb
            clear hb hbox hg
            refine hK.out _ _ ⟨bc BK375 0, bc BK375 1, bc BK375 2, bc BK375 3, bc BK375 4, bc BK375 5, bc BK375 6, bc BK375 7, bc BK375 8, bc BK375 9, bc BK375 10, bc BK375 11, bc BK376 0, bc BK376 1⟩ (fun hHeld => ?_)
            clear hK K
            refine nm (some 6) ?_
            exact nrm (hCont (gb430) _ ⟨hHeld, (qB BK375), (qB BK376), (qB BK403), (qB BK430), GW430.out, GE430.out, NB375_430.out, NB430_375.out, NB376_430.out, NB430_376.out, NB403_430.out, NB430_403.out, (qL HB)⟩)
          skip
          refine box_step ?hg (N := 6) ?hd (cs := #[.int .i64 0, .int .i64 0, .int .i64 0, .int .i64 0, .int .i64 0, .int .i64 0, .int .i64 0, .int .i64 0, .int .i64 0, .int .i64 0, .int .i64 0, .int .i64 0]) (t := 40) ?hr ?_; (case hd => rfl); (case hg => rfl); (case hr => first | (go_simp; done) | (go_simp; rfl))
          intro gb430 hg w35 hbox hb
          have BK430 := az hbox
          have GW430 := az ((gE hg (qL HB) : w.heap.size ≤ gb430))
          have GE430 := GW430
          obtain ⟨NB375_430, NB430_375⟩ := nPB BK375 hg
          obtain ⟨NB376_430, NB430_376⟩ := nPB BK376 hg
          obtain ⟨NB403_430, NB430_403⟩ := nPB BK403 hg
          replace BK375 := kBB BK375 hb
          replace BK376 := kBB BK376 hb
          replace BK403 := kBB BK403 hb
          replace HB := bS HB hb
          clear hb hbox hg
          refine hK.out _ _ ⟨bc BK375 0, bc BK375 1, bc BK375 2, bc BK375 3, bc BK375 4, bc BK375 5, bc BK375 6, bc BK375 7, bc BK375 8, bc BK375 9, bc BK375 10, bc BK375 11, bc BK376 0, bc BK376 1⟩ (fun hHeld => ?_)
          clear hK K
          refine nm (some 6) ?_
          refine one_ (i := 4) (N := some 16) #[true, true, true, true, true, true, false] rfl rfl (by kernel_rfl) (by decide) (fun K hK => ?_)
          refine go1 Try.func21 #[.agg #[.int .i64 t404, .int .i64 t405, .int .i64 t406, .int .i64 t407, .int .i64 t408, .int .i64 t409, .int .i64 t410, .int .i64 t411, .int .i64 t412, .int .i64 t413, .int .i64 t414, .int .i64 t415], .agg #[.int .i64 t416, .int .i64 t417]] ?_
          with_reducible refine (impl_BodyPush.calls k t404 t405 t406 t407 t408 t409 t410 t411 t412 t413 t414 t415 t416 t417 t418 t419 t420 t421 t422 t423 t424 t425 t426 t427 t428 t429 _ A8.out).mono ?_
          rintro e w36 ⟨rfl, hb⟩
          refine ⟨_, rfl, ?_⟩
          replace BK375 := kBB BK375 hb
          replace BK376 := kBB BK376 hb
          replace BK403 := kBB BK403 hb
          replace BK430 := kBB BK430 hb
          replace HB := bS HB hb
          clear hb
          refine hK.out _ _ ⟨bc BK375 0, bc BK375 1, bc BK375 2, bc BK375 3, bc BK375 4, bc BK375 5, bc BK375 6, bc BK375 7, bc BK375 8, bc BK375 9, bc BK375 10, bc BK375 11, bc BK376 0, bc BK376 1⟩ (fun hHeld => ?_)
          clear hK K
          refine nm (some 16) ?_
          exact nrm (hCont (gb430) _ ⟨hHeld, (qB BK375), (qB BK376), (qB BK403), (qB BK430), GW430.out, GE430.out, NB375_430.out, NB430_375.out, NB376_430.out, NB430_376.out, NB403_430.out, NB430_403.out, (qL HB)⟩)
        skip
        refine box_step ?hg (N := 6) ?hd (cs := #[.int .i64 0, .int .i64 0, .int .i64 0, .int .i64 0, .int .i64 0, .int .i64 0, .int .i64 0, .int .i64 0, .int .i64 0, .int .i64 0, .int .i64 0, .int .i64 0]) (t := 40) ?hr ?_; (case hd => rfl); (case hg => rfl); (case hr => first | (go_simp; done) | (go_simp; rfl))
        intro gb430 hg w34 hbox hb
        have BK430 := az hbox
        have GW430 := az ((gE hg (qL HB) : w.heap.size ≤ gb430))
        have GE430 := GW430
        obtain ⟨NB375_430, NB430_375⟩ := nPB BK375 hg
        obtain ⟨NB376_430, NB430_376⟩ := nPB BK376 hg
        obtain ⟨NB403_430, NB430_403⟩ := nPB BK403 hg
        replace BK375 := kBB BK375 hb
        replace BK376 := kBB BK376 hb
        replace BK403 := kBB BK403 hb
        replace HB := bS HB hb
        clear hb hbox hg
        refine hK.out _ _ ⟨bc BK375 0, bc BK375 1, bc BK375 2, bc BK375 3, bc BK375 4, bc BK375 5, bc BK375 6, bc BK375 7, bc BK375 8, bc BK375 9, bc BK375 10, bc BK375 11, bc BK376 0, bc BK376 1⟩ (fun hHeld => ?_)
        clear hK K
        refine nm (some 6) ?_
        refine one_ (i := 3) (N := some 15) #[true, true, true, true, false, true, false] rfl rfl (by kernel_rfl) (by decide) (fun K hK => ?_)
        refine go1 Try.func20 #[.agg #[.int .i64 a1_0, .int .i64 a1_1]] ?_
        with_reducible refine (laws_toVec.calls a1_0 a1_1 t416 t417 _ A7.out).mono ?_
        rintro e w35 ⟨rfl, hb⟩
        refine ⟨_, rfl, ?_⟩
        replace BK375 := kBB BK375 hb
        replace BK376 := kBB BK376 hb
        replace BK403 := kBB BK403 hb
        replace BK430 := kBB BK430 hb
        replace HB := bS HB hb
        clear hb
        refine hK.out _ _ ⟨bc BK375 0, bc BK375 1, bc BK375 2, bc BK375 3, bc BK375 4, bc BK375 5, bc BK375 6, bc BK375 7, bc BK375 8, bc BK375 9, bc BK375 10, bc BK375 11, bc BK376 0, bc BK376 1⟩ (fun hHeld => ?_)
        clear hK K
        refine nm (some 15) ?_
        refine one_ (i := 4) (N := some 16) #[true, true, true, true, true, true, false] rfl rfl (by kernel_rfl) (by decide) (fun K hK => ?_)
        refine go1 Try.func21 #[.agg #[.int .i64 t404, .int .i64 t405, .int .i64 t406, .int .i64 t407, .int .i64 t408, .int .i64 t409, .int .i64 t410, .int .i64 t411, .int .i64 t412, .int .i64 t413, .int .i64 t414, .int .i64 t415], .agg #[.int .i64 t416, .int .i64 t417]] ?_
        with_reducible refine (impl_BodyPush.calls k t404 t405 t406 t407 t408 t409 t410 t411 t412 t413 t414 t415 t416 t417 t418 t419 t420 t421 t422 t423 t424 t425 t426 t427 t428 t429 _ A8.out).mono ?_
        rintro e w36 ⟨rfl, hb⟩
        refine ⟨_, rfl, ?_⟩
        replace BK375 := kBB BK375 hb
        replace BK376 := kBB BK376 hb
        replace BK403 := kBB BK403 hb
        replace BK430 := kBB BK430 hb
        replace HB := bS HB hb
        clear hb
        refine hK.out _ _ ⟨bc BK375 0, bc BK375 1, bc BK375 2, bc BK375 3, bc BK375 4, bc BK375 5, bc BK375 6, bc BK375 7, bc BK375 8, bc BK375 9, bc BK375 10, bc BK375 11, bc BK376 0, bc BK376 1⟩ (fun hHeld => ?_)
        clear hK K
        refine nm (some 16) ?_
        exact nrm (hCont (gb430) _ ⟨hHeld, (qB BK375), (qB BK376), (qB BK403), (qB BK430), GW430.out, GE430.out, NB375_430.out, NB430_375.out, NB376_430.out, NB430_376.out, NB403_430.out, NB430_403.out, (qL HB)⟩)
      skip
      refine box_step ?hg (N := 6) ?hd (cs := #[.int .i64 0, .int .i64 0, .int .i64 0, .int .i64 0, .int .i64 0, .int .i64 0, .int .i64 0, .int .i64 0, .int .i64 0, .int .i64 0, .int .i64 0, .int .i64 0]) (t := 40) ?hr ?_; (case hd => rfl); (case hg => rfl); (case hr => first | (go_simp; done) | (go_simp; rfl))
      intro gb430 hg w33 hbox hb
      have BK430 := az hbox
      have GW430 := az ((gE hg (qL HB) : w.heap.size ≤ gb430))
      have GE430 := GW430
      obtain ⟨NB375_430, NB430_375⟩ := nPB BK375 hg
      obtain ⟨NB376_430, NB430_376⟩ := nPB BK376 hg
      obtain ⟨NB403_430, NB430_403⟩ := nPB BK403 hg
      replace BK375 := kBB BK375 hb
      replace BK376 := kBB BK376 hb
      replace BK403 := kBB BK403 hb
      replace HB := bS HB hb
      clear hb hbox hg
      refine hK.out _ _ ⟨bc BK375 0, bc BK375 1, bc BK375 2, bc BK375 3, bc BK375 4, bc BK375 5, bc BK375 6, bc BK375 7, bc BK375 8, bc BK375 9, bc BK375 10, bc BK375 11, bc BK376 0, bc BK376 1⟩ (fun hHeld => ?_)
      clear hK K
      refine nm (some 6) ?_
      refine one_ (i := 1) (N := some 13) #[true, true, true, false, false, true, false] rfl rfl (by kernel_rfl) (by decide) (fun K hK => ?_)
      refine go1 Try.func19 #[.agg #[.int .i64 a0_0, .int .i64 a0_1, .int .i64 a0_2, .int .i64 a0_3, .int .i64 a0_4, .int .i64 a0_5, .int .i64 a0_6, .int .i64 a0_7, .int .i64 a0_8, .int .i64 a0_9, .int .i64 a0_10, .int .i64 a0_11]] ?_
      with_reducible refine (laws_toBody.calls a0_0 a0_1 a0_2 a0_3 a0_4 a0_5 a0_6 a0_7 a0_8 a0_9 a0_10 a0_11 t404 t405 t406 t407 t408 t409 t410 t411 t412 t413 t414 t415 _ A6.out).mono ?_
      rintro e w34 ⟨rfl, hb⟩
      refine ⟨_, rfl, ?_⟩
      replace BK375 := kBB BK375 hb
      replace BK376 := kBB BK376 hb
      replace BK403 := kBB BK403 hb
      replace BK430 := kBB BK430 hb
      replace HB := bS HB hb
      clear hb
      refine hK.out _ _ ⟨bc BK375 0, bc BK375 1, bc BK375 2, bc BK375 3, bc BK375 4, bc BK375 5, bc BK375 6, bc BK375 7, bc BK375 8, bc BK375 9, bc BK375 10, bc BK375 11, bc BK376 0, bc BK376 1⟩ (fun hHeld => ?_)
      clear hK K
      refine nm (some 13) ?_
      refine one_ (i := 3) (N := some 15) #[true, true, true, true, false, true, false] rfl rfl (by kernel_rfl) (by decide) (fun K hK => ?_)
      refine go1 Try.func20 #[.agg #[.int .i64 a1_0, .int .i64 a1_1]] ?_
      with_reducible refine (laws_toVec.calls a1_0 a1_1 t416 t417 _ A7.out).mono ?_
      rintro e w35 ⟨rfl, hb⟩
      refine ⟨_, rfl, ?_⟩
      replace BK375 := kBB BK375 hb
      replace BK376 := kBB BK376 hb
      replace BK403 := kBB BK403 hb
      replace BK430 := kBB BK430 hb
      replace HB := bS HB hb
      clear hb
      refine hK.out _ _ ⟨bc BK375 0, bc BK375 1, bc BK375 2, bc BK375 3, bc BK375 4, bc BK375 5, bc BK375 6, bc BK375 7, bc BK375 8, bc BK375 9, bc BK375 10, bc BK375 11, bc BK376 0, bc BK376 1⟩ (fun hHeld => ?_)
      clear hK K
      refine nm (some 15) ?_
      refine one_ (i := 4) (N := some 16) #[true, true, true, true, true, true, false] rfl rfl (by kernel_rfl) (by decide) (fun K hK => ?_)
      refine go1 Try.func21 #[.agg #[.int .i64 t404, .int .i64 t405, .int .i64 t406, .int .i64 t407, .int .i64 t408, .int .i64 t409, .int .i64 t410, .int .i64 t411, .int .i64 t412, .int .i64 t413, .int .i64 t414, .int .i64 t415], .agg #[.int .i64 t416, .int .i64 t417]] ?_
      with_reducible refine (impl_BodyPush.calls k t404 t405 t406 t407 t408 t409 t410 t411 t412 t413 t414 t415 t416 t417 t418 t419 t420 t421 t422 t423 t424 t425 t426 t427 t428 t429 _ A8.out).mono ?_
      rintro e w36 ⟨rfl, hb⟩
      refine ⟨_, rfl, ?_⟩
      replace BK375 := kBB BK375 hb
      replace BK376 := kBB BK376 hb
      replace BK403 := kBB BK403 hb
      replace BK430 := kBB BK430 hb
      replace HB := bS HB hb
      clear hb
      refine hK.out _ _ ⟨bc BK375 0, bc BK375 1, bc BK375 2, bc BK375 3, bc BK375 4, bc BK375 5, bc BK375 6, bc BK375 7, bc BK375 8, bc BK375 9, bc BK375 10, bc BK375 11, bc BK376 0, bc BK376 1⟩ (fun hHeld => ?_)
      clear hK K
      refine nm (some 16) ?_
      exact nrm (hCont (gb430) _ ⟨hHeld, (qB BK375), (qB BK376), (qB BK403), (qB BK430), GW430.out, GE430.out, NB375_430.out, NB430_375.out, NB376_430.out, NB430_376.out, NB403_430.out, NB430_403.out, (qL HB)⟩)
    rintro gb430 w37 ⟨hS_, h0_, h1_, h2_, h3_, h4_, h5_, h6_, h7_, h8_, h9_, h10_, h11_, h12_⟩
    have BK430 := az h3_
    have GW430 := az h4_
    have GE430 := az h5_
    have NB375_430 := az h6_
    have NB430_375 := az h7_
    have NB376_430 := az h8_
    have NB430_376 := az h9_
    have NB403_430 := az h10_
    have NB430_403 := az h11_
    replace BK375 := az h0_
    replace BK376 := az h1_
    replace BK403 := az h2_
    replace HB := az h12_
    clear h0_ h1_ h2_ h3_ h4_ h5_ h6_ h7_ h8_ h9_ h10_ h11_ h12_
    have hHeld := hS_
    refine nmp ?_
    refine one_ (i := 6) (N := none) #[true, true, true, true, true, true, true] rfl rfl (by kernel_rfl) (by decide) (fun K hK => ?_)
    have hs38 : w37.cell? ⟨gb430, 0, none⟩ = some (.int .i64 0) := bc BK430 0
    have hfs38 := blk_frozen BK430.out 0
    have hns38_0 := NB375_430.out
    have hns38_1 := NB376_430.out
    have hns38_2 := NB403_430.out
    have hms38_0 := NB430_375.out
    have hms38_1 := NB430_376.out
    have hms38_2 := NB430_403.out
    have hs39 : w37.cell? ⟨gb430, 1, none⟩ = some (.int .i64 0) := bc BK430 1
    have hfs39 := blk_frozen BK430.out 1
    have hns39_0 := NB375_430.out
    have hns39_1 := NB376_430.out
    have hns39_2 := NB403_430.out
    have hms39_0 := NB430_375.out
    have hms39_1 := NB430_376.out
    have hms39_2 := NB430_403.out
    have hs40 : w37.cell? ⟨gb430, 2, none⟩ = some (.int .i64 0) := bc BK430 2
    have hfs40 := blk_frozen BK430.out 2
    have hns40_0 := NB375_430.out
    have hns40_1 := NB376_430.out
    have hns40_2 := NB403_430.out
    have hms40_0 := NB430_375.out
    have hms40_1 := NB430_376.out
    have hms40_2 := NB430_403.out
    have hs41 : w37.cell? ⟨gb430, 3, none⟩ = some (.int .i64 0) := bc BK430 3
    have hfs41 := blk_frozen BK430.out 3
    have hns41_0 := NB375_430.out
    have hns41_1 := NB376_430.out
    have hns41_2 := NB403_430.out
    have hms41_0 := NB430_375.out
    have hms41_1 := NB430_376.out
    have hms41_2 := NB430_403.out
    have hs42 : w37.cell? ⟨gb430, 4, none⟩ = some (.int .i64 0) := bc BK430 4
    have hfs42 := blk_frozen BK430.out 4
    have hns42_0 := NB375_430.out
    have hns42_1 := NB376_430.out
    have hns42_2 := NB403_430.out
    have hms42_0 := NB430_375.out
    have hms42_1 := NB430_376.out
    have hms42_2 := NB430_403.out
    have hs43 : w37.cell? ⟨gb430, 5, none⟩ = some (.int .i64 0) := bc BK430 5
    have hfs43 := blk_frozen BK430.out 5
    have hns43_0 := NB375_430.out
    have hns43_1 := NB376_430.out
    have hns43_2 := NB403_430.out
    have hms43_0 := NB430_375.out
    have hms43_1 := NB430_376.out
    have hms43_2 := NB430_403.out
    have hs44 : w37.cell? ⟨gb430, 6, none⟩ = some (.int .i64 0) := bc BK430 6
    have hfs44 := blk_frozen BK430.out 6
    have hns44_0 := NB375_430.out
    have hns44_1 := NB376_430.out
    have hns44_2 := NB403_430.out
    have hms44_0 := NB430_375.out
    have hms44_1 := NB430_376.out
    have hms44_2 := NB430_403.out
    have hs45 : w37.cell? ⟨gb430, 7, none⟩ = some (.int .i64 0) := bc BK430 7
    have hfs45 := blk_frozen BK430.out 7
    have hns45_0 := NB375_430.out
    have hns45_1 := NB376_430.out
    have hns45_2 := NB403_430.out
    have hms45_0 := NB430_375.out
    have hms45_1 := NB430_376.out
    have hms45_2 := NB430_403.out
    have hs46 : w37.cell? ⟨gb430, 8, none⟩ = some (.int .i64 0) := bc BK430 8
    have hfs46 := blk_frozen BK430.out 8
    have hns46_0 := NB375_430.out
    have hns46_1 := NB376_430.out
    have hns46_2 := NB403_430.out
    have hms46_0 := NB430_375.out
    have hms46_1 := NB430_376.out
    have hms46_2 := NB430_403.out
    have hs47 : w37.cell? ⟨gb430, 9, none⟩ = some (.int .i64 0) := bc BK430 9
    have hfs47 := blk_frozen BK430.out 9
    have hns47_0 := NB375_430.out
    have hns47_1 := NB376_430.out
    have hns47_2 := NB403_430.out
    have hms47_0 := NB430_375.out
    have hms47_1 := NB430_376.out
    have hms47_2 := NB430_403.out
    have hs48 : w37.cell? ⟨gb430, 10, none⟩ = some (.int .i64 0) := bc BK430 10
    have hfs48 := blk_frozen BK430.out 10
    have hns48_0 := NB375_430.out
    have hns48_1 := NB376_430.out
    have hns48_2 := NB403_430.out
    have hms48_0 := NB430_375.out
    have hms48_1 := NB430_376.out
    have hms48_2 := NB430_403.out
    have hs49 : w37.cell? ⟨gb430, 11, none⟩ = some (.int .i64 0) := bc BK430 11
    have hfs49 := blk_frozen BK430.out 11
    have hns49_0 := NB375_430.out
    have hns49_1 := NB376_430.out
    have hns49_2 := NB403_430.out
    have hms49_0 := NB430_375.out
    have hms49_1 := NB430_376.out
    have hms49_2 := NB430_403.out
    refine skip_ (w1 := ?_) ?hw ?hn ?_ ?_; (case hw => unfold Region.wanted; rfl); (case hn => rfl)
    rotate_left
    · go_simp
      rfl
    refine hK.out _ _ ⟨(cf NB375_430 ((cf NB375_430 ((cf NB375_430 ((cf NB375_430 ((cf NB375_430 ((cf NB375_430 ((cf NB375_430 ((cf NB375_430 ((cf NB375_430 ((cf NB375_430 ((cf NB375_430 ((cf NB375_430 (hHeld.1)))))))))))))))))))))))), (cf NB375_430 ((cf NB375_430 ((cf NB375_430 ((cf NB375_430 ((cf NB375_430 ((cf NB375_430 ((cf NB375_430 ((cf NB375_430 ((cf NB375_430 ((cf NB375_430 ((cf NB375_430 ((cf NB375_430 (hHeld.2.1)))))))))))))))))))))))), (cf NB375_430 ((cf NB375_430 ((cf NB375_430 ((cf NB375_430 ((cf NB375_430 ((cf NB375_430 ((cf NB375_430 ((cf NB375_430 ((cf NB375_430 ((cf NB375_430 ((cf NB375_430 ((cf NB375_430 (hHeld.2.2.1)))))))))))))))))))))))), (cf NB375_430 ((cf NB375_430 ((cf NB375_430 ((cf NB375_430 ((cf NB375_430 ((cf NB375_430 ((cf NB375_430 ((cf NB375_430 ((cf NB375_430 ((cf NB375_430 ((cf NB375_430 ((cf NB375_430 (hHeld.2.2.2.1)))))))))))))))))))))))), (cf NB375_430 ((cf NB375_430 ((cf NB375_430 ((cf NB375_430 ((cf NB375_430 ((cf NB375_430 ((cf NB375_430 ((cf NB375_430 ((cf NB375_430 ((cf NB375_430 ((cf NB375_430 ((cf NB375_430 (hHeld.2.2.2.2.1)))))))))))))))))))))))), (cf NB375_430 ((cf NB375_430 ((cf NB375_430 ((cf NB375_430 ((cf NB375_430 ((cf NB375_430 ((cf NB375_430 ((cf NB375_430 ((cf NB375_430 ((cf NB375_430 ((cf NB375_430 ((cf NB375_430 (hHeld.2.2.2.2.2.1)))))))))))))))))))))))), (cf NB375_430 ((cf NB375_430 ((cf NB375_430 ((cf NB375_430 ((cf NB375_430 ((cf NB375_430 ((cf NB375_430 ((cf NB375_430 ((cf NB375_430 ((cf NB375_430 ((cf NB375_430 ((cf NB375_430 (hHeld.2.2.2.2.2.2.1)))))))))))))))))))))))), (cf NB375_430 ((cf NB375_430 ((cf NB375_430 ((cf NB375_430 ((cf NB375_430 ((cf NB375_430 ((cf NB375_430 ((cf NB375_430 ((cf NB375_430 ((cf NB375_430 ((cf NB375_430 ((cf NB375_430 (hHeld.2.2.2.2.2.2.2.1)))))))))))))))))))))))), (cf NB375_430 ((cf NB375_430 ((cf NB375_430 ((cf NB375_430 ((cf NB375_430 ((cf NB375_430 ((cf NB375_430 ((cf NB375_430 ((cf NB375_430 ((cf NB375_430 ((cf NB375_430 ((cf NB375_430 (hHeld.2.2.2.2.2.2.2.2.1)))))))))))))))))))))))), (cf NB375_430 ((cf NB375_430 ((cf NB375_430 ((cf NB375_430 ((cf NB375_430 ((cf NB375_430 ((cf NB375_430 ((cf NB375_430 ((cf NB375_430 ((cf NB375_430 ((cf NB375_430 ((cf NB375_430 (hHeld.2.2.2.2.2.2.2.2.2.1)))))))))))))))))))))))), (cf NB375_430 ((cf NB375_430 ((cf NB375_430 ((cf NB375_430 ((cf NB375_430 ((cf NB375_430 ((cf NB375_430 ((cf NB375_430 ((cf NB375_430 ((cf NB375_430 ((cf NB375_430 ((cf NB375_430 (hHeld.2.2.2.2.2.2.2.2.2.2.1)))))))))))))))))))))))), (cf NB375_430 ((cf NB375_430 ((cf NB375_430 ((cf NB375_430 ((cf NB375_430 ((cf NB375_430 ((cf NB375_430 ((cf NB375_430 ((cf NB375_430 ((cf NB375_430 ((cf NB375_430 ((cf NB375_430 (hHeld.2.2.2.2.2.2.2.2.2.2.2.1)))))))))))))))))))))))), (cf NB376_430 ((cf NB376_430 ((cf NB376_430 ((cf NB376_430 ((cf NB376_430 ((cf NB376_430 ((cf NB376_430 ((cf NB376_430 ((cf NB376_430 ((cf NB376_430 ((cf NB376_430 ((cf NB376_430 (hHeld.2.2.2.2.2.2.2.2.2.2.2.2.1)))))))))))))))))))))))), (cf NB376_430 ((cf NB376_430 ((cf NB376_430 ((cf NB376_430 ((cf NB376_430 ((cf NB376_430 ((cf NB376_430 ((cf NB376_430 ((cf NB376_430 ((cf NB376_430 ((cf NB376_430 ((cf NB376_430 (hHeld.2.2.2.2.2.2.2.2.2.2.2.2.2))))))))))))))))))))))))⟩ (fun hHeld => ?_)
    clear hK K
    refine done_ (by kernel_rfl) ?_
    have hnb50 := NB430_375.out
    have hnc50 := NB375_430.out
    have hnb51 := NB430_376.out
    have hnc51 := NB376_430.out
    have hnb52 := NB430_403.out
    have hnc52 := NB403_430.out
    obtain ⟨hcz53_0, hcz53_1, hcz53_2, hcz53_3, hcz53_4, hcz53_5, hcz53_6, hcz53_7, hcz53_8, hcz53_9, hcz53_10, hcz53_11⟩ := cz12 BK430.out
    obtain ⟨hfz53_0, hfz53_1, hfz53_2, hfz53_3, hfz53_4, hfz53_5, hfz53_6, hfz53_7, hfz53_8, hfz53_9, hfz53_10, hfz53_11⟩ := fz12 BK430.out
    have hnb54 := NB403_375.out
    have hnc54 := NB375_403.out
    have hnb55 := NB403_376.out
    have hnc55 := NB376_403.out
    obtain ⟨hcz56_0, hcz56_1, hcz56_2, hcz56_3, hcz56_4, hcz56_5, hcz56_6, hcz56_7, hcz56_8, hcz56_9, hcz56_10, hcz56_11⟩ := cz12 BK403.out
    obtain ⟨hfz56_0, hfz56_1, hfz56_2, hfz56_3, hfz56_4, hfz56_5, hfz56_6, hfz56_7, hfz56_8, hfz56_9, hfz56_10, hfz56_11⟩ := fz12 BK403.out
    try go_wp2_with (first | ((with_reducible refine gate_callee (f := 22) rfl ?_); refine gl (some 19) Try.func22 #[.agg #[.int .i64 t418, .int .i64 t419, .int .i64 t420, .int .i64 t421, .int .i64 t422, .int .i64 t423, .int .i64 t424, .int .i64 t425, .int .i64 t426, .int .i64 t427, .int .i64 t428, .int .i64 t429], .agg #[.int .i64 t391, .int .i64 t392, .int .i64 t393, .int .i64 t394, .int .i64 t395, .int .i64 t396, .int .i64 t397, .int .i64 t398, .int .i64 t399, .int .i64 t400, .int .i64 t401, .int .i64 t402]] ?_; (with_reducible refine (laws_eqBody.calls t418 t419 t420 t421 t422 t423 t424 t425 t426 t427 t428 t429 t391 t392 t393 t394 t395 t396 t397 t398 t399 t400 t401 t402 true _ A9.out).mono ?_); rintro e w57 ⟨rfl, hb⟩; refine ⟨_, rfl, ?_⟩; replace BK375 := kBF BK375 hb; replace BK376 := kBF BK376 hb; replace BK403 := kBF BK403 hb; replace BK430 := kBP (o' := .cells #[.int .i64 t418, .int .i64 t419, .int .i64 t420, .int .i64 t421, .int .i64 t422, .int .i64 t423, .int .i64 t424, .int .i64 t425, .int .i64 t426, .int .i64 t427, .int .i64 t428, .int .i64 t429] 40 (0, 0)) BK430 hb; replace HB := bS HB hb; clear hb))
    go_ret
    exact ⟨qE, qL HB⟩
  replace c10 := Bool.eq_false_iff.mpr c10
  subst c10
  replace H := qU H
  obtain rfl := Option.some.inj H
  go_enter Try.func4, Try.ntmps4
  try go_wp2_with (first | ((with_reducible refine gate_dst (N := 2) rfl ?_); refine bx (N := 2) (cs := #[.int .i64 a0_0, .int .i64 a0_1, .int .i64 a0_2, .int .i64 a0_3, .int .i64 a0_4, .int .i64 a0_5, .int .i64 a0_6, .int .i64 a0_7, .int .i64 a0_8, .int .i64 a0_9, .int .i64 a0_10, .int .i64 a0_11]) (t := 37) ?_; intro gb375 hg w58 hbox hb; have BK375 := az hbox; have GW375 := az ((gE hg (qL HB) : w.heap.size ≤ gb375)); have GE375 := GW375; replace HB := bS HB hb; clear hb hbox hg) | ((with_reducible refine gate_dst (N := 3) rfl ?_); refine bx (N := 3) (cs := #[.int .i64 a1_0, .int .i64 a1_1]) (t := 35) ?_; intro gb376 hg w59 hbox hb; have BK376 := az hbox; have GW376 := az ((gE hg (qL HB) : w.heap.size ≤ gb376)); have GE376 := GW376; obtain ⟨NB375_376, NB376_375⟩ := nPB BK375 hg; replace BK375 := kBB BK375 hb; replace HB := bS HB hb; clear hb hbox hg))
  replace BK375 := az (blk_drew BK375.out)
  replace BK376 := az (blk_drew BK376.out)
  replace HB := az (below_drew1 HB.out)
  refine start_ (n := 7) (S := fun w' => w'.cell? ⟨gb375, 0, none⟩ = some (.int .i64 a0_0) ∧ w'.cell? ⟨gb375, 1, none⟩ = some (.int .i64 a0_1) ∧ w'.cell? ⟨gb375, 2, none⟩ = some (.int .i64 a0_2) ∧ w'.cell? ⟨gb375, 3, none⟩ = some (.int .i64 a0_3) ∧ w'.cell? ⟨gb375, 4, none⟩ = some (.int .i64 a0_4) ∧ w'.cell? ⟨gb375, 5, none⟩ = some (.int .i64 a0_5) ∧ w'.cell? ⟨gb375, 6, none⟩ = some (.int .i64 a0_6) ∧ w'.cell? ⟨gb375, 7, none⟩ = some (.int .i64 a0_7) ∧ w'.cell? ⟨gb375, 8, none⟩ = some (.int .i64 a0_8) ∧ w'.cell? ⟨gb375, 9, none⟩ = some (.int .i64 a0_9) ∧ w'.cell? ⟨gb375, 10, none⟩ = some (.int .i64 a0_10) ∧ w'.cell? ⟨gb375, 11, none⟩ = some (.int .i64 a0_11) ∧ w'.cell? ⟨gb376, 0, none⟩ = some (.int .i64 a1_0) ∧ w'.cell? ⟨gb376, 1, none⟩ = some (.int .i64 a1_1)) (ds := []) #[false, false, false, false, false, false, false] (by kernel_rfl) rfl rfl ⟨bc BK375 0, bc BK375 1, bc BK375 2, bc BK375 3, bc BK375 4, bc BK375 5, bc BK375 6, bc BK375 7, bc BK375 8, bc BK375 9, bc BK375 10, bc BK375 11, bc BK376 0, bc BK376 1⟩ (fun hHeld => ?_)
  generalize w59.drew = w60 at BK375 BK376 HB hHeld ⊢
  refine take_ (i := 0) (N := some 7) (v := ?_) (a' := ?_) #[true, false, false, false, false, false, false] rfl rfl (by kernel_rfl) (fun _ _ _ h => h) (Or.inl ⟨by rfl, ?_⟩) hHeld ?_ ?_
  rotate_left
  · rintro w' ⟨s0, s1, s2, s3, s4, s5, s6, s7, s8, s9, s10, s11, s12, s13⟩
    go_simp
    with_reducible rfl
  rotate_left
  · simp only [Act.put, List.setIfInBounds_toArray, List.set_cons_zero, List.set_cons_succ, i64_w, i32_w]
    rfl
  refine take_ (i := 2) (N := some 9) (v := ?_) (a' := ?_) #[true, false, true, false, false, false, false] rfl rfl (by kernel_rfl) (fun _ _ _ h => h) (Or.inl ⟨by rfl, ?_⟩) hHeld ?_ ?_
  rotate_left
  · rintro w' ⟨s0, s1, s2, s3, s4, s5, s6, s7, s8, s9, s10, s11, s12, s13⟩
    go_simp
    with_reducible rfl
  rotate_left
  · simp only [Act.put, List.setIfInBounds_toArray, List.set_cons_zero, List.set_cons_succ, i64_w, i32_w]
    rfl
  refine join_ (σ := Nat) 1 (fl 7 63) (fun s_ => [(8, .agg #[.int .i64 t377, .int .i64 t378, .int .i64 t379, .int .i64 t380, .int .i64 t381, .int .i64 t382, .int .i64 t383, .int .i64 t384, .int .i64 t385, .int .i64 t386, .int .i64 t387, .int .i64 t388]), (10, .agg #[.int .i64 t389, .int .i64 t390]), (11, .agg #[.int .i64 t391, .int .i64 t392, .int .i64 t393, .int .i64 t394, .int .i64 t395, .int .i64 t396, .int .i64 t397, .int .i64 t398, .int .i64 t399, .int .i64 t400, .int .i64 t401, .int .i64 t402]), (5, .pointer (some ⟨s_, 0, none⟩))]) (fun s_ w' => (w'.cell? ⟨gb375, 0, none⟩ = some (.int .i64 a0_0) ∧ w'.cell? ⟨gb375, 1, none⟩ = some (.int .i64 a0_1) ∧ w'.cell? ⟨gb375, 2, none⟩ = some (.int .i64 a0_2) ∧ w'.cell? ⟨gb375, 3, none⟩ = some (.int .i64 a0_3) ∧ w'.cell? ⟨gb375, 4, none⟩ = some (.int .i64 a0_4) ∧ w'.cell? ⟨gb375, 5, none⟩ = some (.int .i64 a0_5) ∧ w'.cell? ⟨gb375, 6, none⟩ = some (.int .i64 a0_6) ∧ w'.cell? ⟨gb375, 7, none⟩ = some (.int .i64 a0_7) ∧ w'.cell? ⟨gb375, 8, none⟩ = some (.int .i64 a0_8) ∧ w'.cell? ⟨gb375, 9, none⟩ = some (.int .i64 a0_9) ∧ w'.cell? ⟨gb375, 10, none⟩ = some (.int .i64 a0_10) ∧ w'.cell? ⟨gb375, 11, none⟩ = some (.int .i64 a0_11) ∧ w'.cell? ⟨gb376, 0, none⟩ = some (.int .i64 a1_0) ∧ w'.cell? ⟨gb376, 1, none⟩ = some (.int .i64 a1_1)) ∧ (w'.heap[gb375]? = some (.cells #[.int .i64 a0_0, .int .i64 a0_1, .int .i64 a0_2, .int .i64 a0_3, .int .i64 a0_4, .int .i64 a0_5, .int .i64 a0_6, .int .i64 a0_7, .int .i64 a0_8, .int .i64 a0_9, .int .i64 a0_10, .int .i64 a0_11] 37 (0, 0))) ∧ (w'.heap[gb376]? = some (.cells #[.int .i64 a1_0, .int .i64 a1_1] 35 (0, 0))) ∧ (w'.heap[s_]? = some (.cells #[.int .i64 0, .int .i64 0, .int .i64 0, .int .i64 0, .int .i64 0, .int .i64 0, .int .i64 0, .int .i64 0, .int .i64 0, .int .i64 0, .int .i64 0, .int .i64 0] 40 (0, 0))) ∧ (w.heap.size ≤ s_) ∧ (w.heap.size ≤ s_) ∧ (gb375 ≠ s_) ∧ (s_ ≠ gb375) ∧ (gb376 ≠ s_) ∧ (s_ ≠ gb376) ∧ (Below w.heap.size w w')) ?_ ?_
  rotate_left
  · intro hCont
    refine two_ (i := 1) (j := 5) (Ni := some 8) (Nj := some 5) (fl 7 7) (fl 7 37) rfl rfl rfl rfl (by kernel_rfl) (by decide) (by decide) (fun K hK => ?_) (fun K hK => ?_)
    · skip
      refine go1 Try.func19 #[.agg #[.int .i64 a0_0, .int .i64 a0_1, .int .i64 a0_2, .int .i64 a0_3, .int .i64 a0_4, .int .i64 a0_5, .int .i64 a0_6, .int .i64 a0_7, .int .i64 a0_8, .int .i64 a0_9, .int .i64 a0_10, .int .i64 a0_11]] ?_
      with_reducible refine (laws_toBody.calls a0_0 a0_1 a0_2 a0_3 a0_4 a0_5 a0_6 a0_7 a0_8 a0_9 a0_10 a0_11 t377 t378 t379 t380 t381 t382 t383 t384 t385 t386 t387 t388 _ A3.out).mono ?_
      rintro e w61 ⟨rfl, hb⟩
      refine ⟨_, rfl, ?_⟩
      replace BK375 := kBB BK375 hb
      replace BK376 := kBB BK376 hb
      replace HB := bS HB hb
      clear hb
      refine hK.out _ _ ⟨bc BK375 0, bc BK375 1, bc BK375 2, bc BK375 3, bc BK375 4, bc BK375 5, bc BK375 6, bc BK375 7, bc BK375 8, bc BK375 9, bc BK375 10, bc BK375 11, bc BK376 0, bc BK376 1⟩ (fun hHeld => ?_)
      clear hK K
      refine nm (some 8) ?_
      refine two_ (i := 3) (j := 5) (Ni := some 10) (Nj := some 5) (fl 7 15) (fl 7 39) rfl rfl rfl rfl (by kernel_rfl) (by decide) (by decide) (fun K hK => ?_) (fun K hK => ?_)
      · skip
        refine go1 Try.func20 #[.agg #[.int .i64 a1_0, .int .i64 a1_1]] ?_
        with_reducible refine (laws_toVec.calls a1_0 a1_1 t389 t390 _ A4.out).mono ?_
        rintro e w62 ⟨rfl, hb⟩
        refine ⟨_, rfl, ?_⟩
        replace BK375 := kBB BK375 hb
        replace BK376 := kBB BK376 hb
        replace HB := bS HB hb
        clear hb
        refine hK.out _ _ ⟨bc BK375 0, bc BK375 1, bc BK375 2, bc BK375 3, bc BK375 4, bc BK375 5, bc BK375 6, bc BK375 7, bc BK375 8, bc BK375 9, bc BK375 10, bc BK375 11, bc BK376 0, bc BK376 1⟩ (fun hHeld => ?_)
        clear hK K
        refine nm (some 10) ?_
        refine two_ (i := 4) (j := 5) (Ni := some 11) (Nj := some 5) (fl 7 31) (fl 7 47) rfl rfl rfl rfl (by kernel_rfl) (by decide) (by decide) (fun K hK => ?_) (fun K hK => ?_)
        · skip
          refine go1 Try.func18 #[.agg #[.int .i64 t377, .int .i64 t378, .int .i64 t379, .int .i64 t380, .int .i64 t381, .int .i64 t382, .int .i64 t383, .int .i64 t384, .int .i64 t385, .int .i64 t386, .int .i64 t387, .int .i64 t388], .agg #[.int .i64 t389, .int .i64 t390]] ?_
          with_reducible refine (spec_BodyPush.calls k t377 t378 t379 t380 t381 t382 t383 t384 t385 t386 t387 t388 t389 t390 t391 t392 t393 t394 t395 t396 t397 t398 t399 t400 t401 t402 _ A5.out).mono ?_
          rintro e w63 ⟨rfl, hb⟩
          refine ⟨_, rfl, ?_⟩
          replace BK375 := kBB BK375 hb
          replace BK376 := kBB BK376 hb
          replace HB := bS HB hb
          clear hb
          refine hK.out _ _ ⟨bc BK375 0, bc BK375 1, bc BK375 2, bc BK375 3, bc BK375 4, bc BK375 5, bc BK375 6, bc BK375 7, bc BK375 8, bc BK375 9, bc BK375 10, bc BK375 11, bc BK376 0, bc BK376 1⟩ (fun hHeld => ?_)
          clear hK K
          refine nm (some 11) ?_
          refine one_ (i := 5) (N := some 5) #[true, true, true, true, true, true, false] rfl rfl (by kernel_rfl) (by decide) (fun K hK => ?_)
          refine box_step ?hg (N := 5) ?hd (cs := #[.int .i64 0, .int .i64 0, .int .i64 0, .int .i64 0, .int .i64 0, .int .i64 0, .int .i64 0, .int .i64 0, .int .i64 0, .int .i64 0, .int .i64 0, .int .i64 0]) (t := 40) ?hr ?_; (case hd => rfl); (case hg => rfl); (case hr => first | (go_simp; done) | (go_simp; rfl))
          intro gb403 hg w64 hbox hb
          have BK403 := az hbox
          have GW403 := az ((gE hg (qL HB) : w.heap.size ≤ gb403))
          have GE403 := GW403
          obtain ⟨NB375_403, NB403_375⟩ := nPB BK375 hg
          obtain ⟨NB376_403, NB403_376⟩ := nPB BK376 hg
          replace BK375 := kBB BK375 hb
          replace BK376 := kBB BK376 hb
          replace HB := bS HB hb
          clear hb hbox hg
          refine hK.out _ _ ⟨bc BK375 0, bc BK375 1, bc BK375 2, bc BK375 3, bc BK375 4, bc BK375 5, bc BK375 6, bc BK375 7, bc BK375 8, bc BK375 9, bc BK375 10, bc BK375 11, bc BK376 0, bc BK376 1⟩ (fun hHeld => ?_)
          clear hK K
          refine nm (some 5) ?_
          exact nrm (hCont (gb403) _ ⟨hHeld, (qB BK375), (qB BK376), (qB BK403), GW403.out, GE403.out, NB375_403.out, NB403_375.out, NB376_403.out, NB403_376.out, (qL HB)⟩)
        skip
        refine box_step ?hg (N := 5) ?hd (cs := #[.int .i64 0, .int .i64 0, .int .i64 0, .int .i64 0, .int .i64 0, .int .i64 0, .int .i64 0, .int .i64 0, .int .i64 0, .int .i64 0, .int .i64 0, .int .i64 0]) (t := 40) ?hr ?_; (case hd => rfl); (case hg => rfl); (case hr => first | (go_simp; done) | (go_simp; rfl))
        intro gb403 hg w63 hbox hb
        have BK403 := az hbox
        have GW403 := az ((gE hg (qL HB) : w.heap.size ≤ gb403))
        have GE403 := GW403
        obtain ⟨NB375_403, NB403_375⟩ := nPB BK375 hg
        obtain ⟨NB376_403, NB403_376⟩ := nPB BK376 hg
        replace BK375 := kBB BK375 hb
        replace BK376 := kBB BK376 hb
        replace HB := bS HB hb
        clear hb hbox hg
        refine hK.out _ _ ⟨bc BK375 0, bc BK375 1, bc BK375 2, bc BK375 3, bc BK375 4, bc BK375 5, bc BK375 6, bc BK375 7, bc BK375 8, bc BK375 9, bc BK375 10, bc BK375 11, bc BK376 0, bc BK376 1⟩ (fun hHeld => ?_)
        clear hK K
        refine nm (some 5) ?_
        refine one_ (i := 4) (N := some 11) #[true, true, true, true, true, true, false] rfl rfl (by kernel_rfl) (by decide) (fun K hK => ?_)
        refine go1 Try.func18 #[.agg #[.int .i64 t377, .int .i64 t378, .int .i64 t379, .int .i64 t380, .int .i64 t381, .int .i64 t382, .int .i64 t383, .int .i64 t384, .int .i64 t385, .int .i64 t386, .int .i64 t387, .int .i64 t388], .agg #[.int .i64 t389, .int .i64 t390]] ?_
        with_reducible refine (spec_BodyPush.calls k t377 t378 t379 t380 t381 t382 t383 t384 t385 t386 t387 t388 t389 t390 t391 t392 t393 t394 t395 t396 t397 t398 t399 t400 t401 t402 _ A5.out).mono ?_
        rintro e w64 ⟨rfl, hb⟩
        refine ⟨_, rfl, ?_⟩
        replace BK375 := kBB BK375 hb
        replace BK376 := kBB BK376 hb
        replace BK403 := kBB BK403 hb
        replace HB := bS HB hb
        clear hb
        refine hK.out _ _ ⟨bc BK375 0, bc BK375 1, bc BK375 2, bc BK375 3, bc BK375 4, bc BK375 5, bc BK375 6, bc BK375 7, bc BK375 8, bc BK375 9, bc BK375 10, bc BK375 11, bc BK376 0, bc BK376 1⟩ (fun hHeld => ?_)
        clear hK K
        refine nm (some 11) ?_
        exact nrm (hCont (gb403) _ ⟨hHeld, (qB BK375), (qB BK376), (qB BK403), GW403.out, GE403.out, NB375_403.out, NB403_375.out, NB376_403.out, NB403_376.out, (qL HB)⟩)
      skip
      refine box_step ?hg (N := 5) ?hd (cs := #[.int .i64 0, .int .i64 0, .int .i64 0, .int .i64 0, .int .i64 0, .int .i64 0, .int .i64 0, .int .i64 0, .int .i64 0, .int .i64 0, .int .i64 0, .int .i64 0]) (t := 40) ?hr ?_; (case hd => rfl); (case hg => rfl); (case hr => first | (go_simp; done) | (go_simp; rfl))
      intro gb403 hg w62 hbox hb
      have BK403 := az hbox
      have GW403 := az ((gE hg (qL HB) : w.heap.size ≤ gb403))
      have GE403 := GW403
      obtain ⟨NB375_403, NB403_375⟩ := nPB BK375 hg
      obtain ⟨NB376_403, NB403_376⟩ := nPB BK376 hg
      replace BK375 := kBB BK375 hb
      replace BK376 := kBB BK376 hb
      replace HB := bS HB hb
      clear hb hbox hg
      refine hK.out _ _ ⟨bc BK375 0, bc BK375 1, bc BK375 2, bc BK375 3, bc BK375 4, bc BK375 5, bc BK375 6, bc BK375 7, bc BK375 8, bc BK375 9, bc BK375 10, bc BK375 11, bc BK376 0, bc BK376 1⟩ (fun hHeld => ?_)
      clear hK K
      refine nm (some 5) ?_
      refine one_ (i := 3) (N := some 10) #[true, true, true, true, false, true, false] rfl rfl (by kernel_rfl) (by decide) (fun K hK => ?_)
      refine go1 Try.func20 #[.agg #[.int .i64 a1_0, .int .i64 a1_1]] ?_
      with_reducible refine (laws_toVec.calls a1_0 a1_1 t389 t390 _ A4.out).mono ?_
      rintro e w63 ⟨rfl, hb⟩
      refine ⟨_, rfl, ?_⟩
      replace BK375 := kBB BK375 hb
      replace BK376 := kBB BK376 hb
      replace BK403 := kBB BK403 hb
      replace HB := bS HB hb
      clear hb
      refine hK.out _ _ ⟨bc BK375 0, bc BK375 1, bc BK375 2, bc BK375 3, bc BK375 4, bc BK375 5, bc BK375 6, bc BK375 7, bc BK375 8, bc BK375 9, bc BK375 10, bc BK375 11, bc BK376 0, bc BK376 1⟩ (fun hHeld => ?_)
      clear hK K
      refine nm (some 10) ?_
      refine one_ (i := 4) (N := some 11) #[true, true, true, true, true, true, false] rfl rfl (by kernel_rfl) (by decide) (fun K hK => ?_)
      refine go1 Try.func18 #[.agg #[.int .i64 t377, .int .i64 t378, .int .i64 t379, .int .i64 t380, .int .i64 t381, .int .i64 t382, .int .i64 t383, .int .i64 t384, .int .i64 t385, .int .i64 t386, .int .i64 t387, .int .i64 t388], .agg #[.int .i64 t389, .int .i64 t390]] ?_
      with_reducible refine (spec_BodyPush.calls k t377 t378 t379 t380 t381 t382 t383 t384 t385 t386 t387 t388 t389 t390 t391 t392 t393 t394 t395 t396 t397 t398 t399 t400 t401 t402 _ A5.out).mono ?_
      rintro e w64 ⟨rfl, hb⟩
      refine ⟨_, rfl, ?_⟩
      replace BK375 := kBB BK375 hb
      replace BK376 := kBB BK376 hb
      replace BK403 := kBB BK403 hb
      replace HB := bS HB hb
      clear hb
      refine hK.out _ _ ⟨bc BK375 0, bc BK375 1, bc BK375 2, bc BK375 3, bc BK375 4, bc BK375 5, bc BK375 6, bc BK375 7, bc BK375 8, bc BK375 9, bc BK375 10, bc BK375 11, bc BK376 0, bc BK376 1⟩ (fun hHeld => ?_)
      clear hK K
      refine nm (some 11) ?_
      exact nrm (hCont (gb403) _ ⟨hHeld, (qB BK375), (qB BK376), (qB BK403), GW403.out, GE403.out, NB375_403.out, NB403_375.out, NB376_403.out, NB403_376.out, (qL HB)⟩)
    skip
    refine box_step ?hg (N := 5) ?hd (cs := #[.int .i64 0, .int .i64 0, .int .i64 0, .int .i64 0, .int .i64 0, .int .i64 0, .int .i64 0, .int .i64 0, .int .i64 0, .int .i64 0, .int .i64 0, .int .i64 0]) (t := 40) ?hr ?_; (case hd => rfl); (case hg => rfl); (case hr => first | (go_simp; done) | (go_simp; rfl))
    intro gb403 hg w61 hbox hb
    have BK403 := az hbox
    have GW403 := az ((gE hg (qL HB) : w.heap.size ≤ gb403))
    have GE403 := GW403
    obtain ⟨NB375_403, NB403_375⟩ := nPB BK375 hg
    obtain ⟨NB376_403, NB403_376⟩ := nPB BK376 hg
    replace BK375 := kBB BK375 hb
    replace BK376 := kBB BK376 hb
    replace HB := bS HB hb
    clear hb hbox hg
    refine hK.out _ _ ⟨bc BK375 0, bc BK375 1, bc BK375 2, bc BK375 3, bc BK375 4, bc BK375 5, bc BK375 6, bc BK375 7, bc BK375 8, bc BK375 9, bc BK375 10, bc BK375 11, bc BK376 0, bc BK376 1⟩ (fun hHeld => ?_)
    clear hK K
    refine nm (some 5) ?_
    refine one_ (i := 1) (N := some 8) #[true, true, true, false, false, true, false] rfl rfl (by kernel_rfl) (by decide) (fun K hK => ?_)
    refine go1 Try.func19 #[.agg #[.int .i64 a0_0, .int .i64 a0_1, .int .i64 a0_2, .int .i64 a0_3, .int .i64 a0_4, .int .i64 a0_5, .int .i64 a0_6, .int .i64 a0_7, .int .i64 a0_8, .int .i64 a0_9, .int .i64 a0_10, .int .i64 a0_11]] ?_
    with_reducible refine (laws_toBody.calls a0_0 a0_1 a0_2 a0_3 a0_4 a0_5 a0_6 a0_7 a0_8 a0_9 a0_10 a0_11 t377 t378 t379 t380 t381 t382 t383 t384 t385 t386 t387 t388 _ A3.out).mono ?_
    rintro e w62 ⟨rfl, hb⟩
    refine ⟨_, rfl, ?_⟩
    replace BK375 := kBB BK375 hb
    replace BK376 := kBB BK376 hb
    replace BK403 := kBB BK403 hb
    replace HB := bS HB hb
    clear hb
    refine hK.out _ _ ⟨bc BK375 0, bc BK375 1, bc BK375 2, bc BK375 3, bc BK375 4, bc BK375 5, bc BK375 6, bc BK375 7, bc BK375 8, bc BK375 9, bc BK375 10, bc BK375 11, bc BK376 0, bc BK376 1⟩ (fun hHeld => ?_)
    clear hK K
    refine nm (some 8) ?_
    refine one_ (i := 3) (N := some 10) #[true, true, true, true, false, true, false] rfl rfl (by kernel_rfl) (by decide) (fun K hK => ?_)
    refine go1 Try.func20 #[.agg #[.int .i64 a1_0, .int .i64 a1_1]] ?_
    with_reducible refine (laws_toVec.calls a1_0 a1_1 t389 t390 _ A4.out).mono ?_
    rintro e w63 ⟨rfl, hb⟩
    refine ⟨_, rfl, ?_⟩
    replace BK375 := kBB BK375 hb
    replace BK376 := kBB BK376 hb
    replace BK403 := kBB BK403 hb
    replace HB := bS HB hb
    clear hb
    refine hK.out _ _ ⟨bc BK375 0, bc BK375 1, bc BK375 2, bc BK375 3, bc BK375 4, bc BK375 5, bc BK375 6, bc BK375 7, bc BK375 8, bc BK375 9, bc BK375 10, bc BK375 11, bc BK376 0, bc BK376 1⟩ (fun hHeld => ?_)
    clear hK K
    refine nm (some 10) ?_
    refine one_ (i := 4) (N := some 11) #[true, true, true, true, true, true, false] rfl rfl (by kernel_rfl) (by decide) (fun K hK => ?_)
    refine go1 Try.func18 #[.agg #[.int .i64 t377, .int .i64 t378, .int .i64 t379, .int .i64 t380, .int .i64 t381, .int .i64 t382, .int .i64 t383, .int .i64 t384, .int .i64 t385, .int .i64 t386, .int .i64 t387, .int .i64 t388], .agg #[.int .i64 t389, .int .i64 t390]] ?_
    with_reducible refine (spec_BodyPush.calls k t377 t378 t379 t380 t381 t382 t383 t384 t385 t386 t387 t388 t389 t390 t391 t392 t393 t394 t395 t396 t397 t398 t399 t400 t401 t402 _ A5.out).mono ?_
    rintro e w64 ⟨rfl, hb⟩
    refine ⟨_, rfl, ?_⟩
    replace BK375 := kBB BK375 hb
    replace BK376 := kBB BK376 hb
    replace BK403 := kBB BK403 hb
    replace HB := bS HB hb
    clear hb
    refine hK.out _ _ ⟨bc BK375 0, bc BK375 1, bc BK375 2, bc BK375 3, bc BK375 4, bc BK375 5, bc BK375 6, bc BK375 7, bc BK375 8, bc BK375 9, bc BK375 10, bc BK375 11, bc BK376 0, bc BK376 1⟩ (fun hHeld => ?_)
    clear hK K
    refine nm (some 11) ?_
    exact nrm (hCont (gb403) _ ⟨hHeld, (qB BK375), (qB BK376), (qB BK403), GW403.out, GE403.out, NB375_403.out, NB403_375.out, NB376_403.out, NB403_376.out, (qL HB)⟩)
  rintro gb403 w65 ⟨hS_, h0_, h1_, h2_, h3_, h4_, h5_, h6_, h7_, h8_, h9_⟩
  have BK403 := az h2_
  have GW403 := az h3_
  have GE403 := az h4_
  have NB375_403 := az h5_
  have NB403_375 := az h6_
  have NB376_403 := az h7_
  have NB403_376 := az h8_
  replace BK375 := az h0_
  replace BK376 := az h1_
  replace HB := az h9_
  clear h0_ h1_ h2_ h3_ h4_ h5_ h6_ h7_ h8_ h9_
  have hHeld := hS_
  refine nmp ?_
  refine one_ (i := 6) (N := none) #[true, true, true, true, true, true, true] rfl rfl (by kernel_rfl) (by decide) (fun K hK => ?_)
  have hs66 : w65.cell? ⟨gb403, 0, none⟩ = some (.int .i64 0) := bc BK403 0
  have hfs66 := blk_frozen BK403.out 0
  have hns66_0 := NB375_403.out
  have hns66_1 := NB376_403.out
  have hms66_0 := NB403_375.out
  have hms66_1 := NB403_376.out
  have hs67 : w65.cell? ⟨gb403, 1, none⟩ = some (.int .i64 0) := bc BK403 1
  have hfs67 := blk_frozen BK403.out 1
  have hns67_0 := NB375_403.out
  have hns67_1 := NB376_403.out
  have hms67_0 := NB403_375.out
  have hms67_1 := NB403_376.out
  have hs68 : w65.cell? ⟨gb403, 2, none⟩ = some (.int .i64 0) := bc BK403 2
  have hfs68 := blk_frozen BK403.out 2
  have hns68_0 := NB375_403.out
  have hns68_1 := NB376_403.out
  have hms68_0 := NB403_375.out
  have hms68_1 := NB403_376.out
  have hs69 : w65.cell? ⟨gb403, 3, none⟩ = some (.int .i64 0) := bc BK403 3
  have hfs69 := blk_frozen BK403.out 3
  have hns69_0 := NB375_403.out
  have hns69_1 := NB376_403.out
  have hms69_0 := NB403_375.out
  have hms69_1 := NB403_376.out
  have hs70 : w65.cell? ⟨gb403, 4, none⟩ = some (.int .i64 0) := bc BK403 4
  have hfs70 := blk_frozen BK403.out 4
  have hns70_0 := NB375_403.out
  have hns70_1 := NB376_403.out
  have hms70_0 := NB403_375.out
  have hms70_1 := NB403_376.out
  have hs71 : w65.cell? ⟨gb403, 5, none⟩ = some (.int .i64 0) := bc BK403 5
  have hfs71 := blk_frozen BK403.out 5
  have hns71_0 := NB375_403.out
  have hns71_1 := NB376_403.out
  have hms71_0 := NB403_375.out
  have hms71_1 := NB403_376.out
  have hs72 : w65.cell? ⟨gb403, 6, none⟩ = some (.int .i64 0) := bc BK403 6
  have hfs72 := blk_frozen BK403.out 6
  have hns72_0 := NB375_403.out
  have hns72_1 := NB376_403.out
  have hms72_0 := NB403_375.out
  have hms72_1 := NB403_376.out
  have hs73 : w65.cell? ⟨gb403, 7, none⟩ = some (.int .i64 0) := bc BK403 7
  have hfs73 := blk_frozen BK403.out 7
  have hns73_0 := NB375_403.out
  have hns73_1 := NB376_403.out
  have hms73_0 := NB403_375.out
  have hms73_1 := NB403_376.out
  have hs74 : w65.cell? ⟨gb403, 8, none⟩ = some (.int .i64 0) := bc BK403 8
  have hfs74 := blk_frozen BK403.out 8
  have hns74_0 := NB375_403.out
  have hns74_1 := NB376_403.out
  have hms74_0 := NB403_375.out
  have hms74_1 := NB403_376.out
  have hs75 : w65.cell? ⟨gb403, 9, none⟩ = some (.int .i64 0) := bc BK403 9
  have hfs75 := blk_frozen BK403.out 9
  have hns75_0 := NB375_403.out
  have hns75_1 := NB376_403.out
  have hms75_0 := NB403_375.out
  have hms75_1 := NB403_376.out
  have hs76 : w65.cell? ⟨gb403, 10, none⟩ = some (.int .i64 0) := bc BK403 10
  have hfs76 := blk_frozen BK403.out 10
  have hns76_0 := NB375_403.out
  have hns76_1 := NB376_403.out
  have hms76_0 := NB403_375.out
  have hms76_1 := NB403_376.out
  have hs77 : w65.cell? ⟨gb403, 11, none⟩ = some (.int .i64 0) := bc BK403 11
  have hfs77 := blk_frozen BK403.out 11
  have hns77_0 := NB375_403.out
  have hns77_1 := NB376_403.out
  have hms77_0 := NB403_375.out
  have hms77_1 := NB403_376.out
  refine skip_ (w1 := ?_) ?hw ?hn ?_ ?_; (case hw => unfold Region.wanted; rfl); (case hn => rfl)
  rotate_left
  · go_simp
    rfl
  refine hK.out _ _ ⟨(cf NB375_403 ((cf NB375_403 ((cf NB375_403 ((cf NB375_403 ((cf NB375_403 ((cf NB375_403 ((cf NB375_403 ((cf NB375_403 ((cf NB375_403 ((cf NB375_403 ((cf NB375_403 ((cf NB375_403 (hHeld.1)))))))))))))))))))))))), (cf NB375_403 ((cf NB375_403 ((cf NB375_403 ((cf NB375_403 ((cf NB375_403 ((cf NB375_403 ((cf NB375_403 ((cf NB375_403 ((cf NB375_403 ((cf NB375_403 ((cf NB375_403 ((cf NB375_403 (hHeld.2.1)))))))))))))))))))))))), (cf NB375_403 ((cf NB375_403 ((cf NB375_403 ((cf NB375_403 ((cf NB375_403 ((cf NB375_403 ((cf NB375_403 ((cf NB375_403 ((cf NB375_403 ((cf NB375_403 ((cf NB375_403 ((cf NB375_403 (hHeld.2.2.1)))))))))))))))))))))))), (cf NB375_403 ((cf NB375_403 ((cf NB375_403 ((cf NB375_403 ((cf NB375_403 ((cf NB375_403 ((cf NB375_403 ((cf NB375_403 ((cf NB375_403 ((cf NB375_403 ((cf NB375_403 ((cf NB375_403 (hHeld.2.2.2.1)))))))))))))))))))))))), (cf NB375_403 ((cf NB375_403 ((cf NB375_403 ((cf NB375_403 ((cf NB375_403 ((cf NB375_403 ((cf NB375_403 ((cf NB375_403 ((cf NB375_403 ((cf NB375_403 ((cf NB375_403 ((cf NB375_403 (hHeld.2.2.2.2.1)))))))))))))))))))))))), (cf NB375_403 ((cf NB375_403 ((cf NB375_403 ((cf NB375_403 ((cf NB375_403 ((cf NB375_403 ((cf NB375_403 ((cf NB375_403 ((cf NB375_403 ((cf NB375_403 ((cf NB375_403 ((cf NB375_403 (hHeld.2.2.2.2.2.1)))))))))))))))))))))))), (cf NB375_403 ((cf NB375_403 ((cf NB375_403 ((cf NB375_403 ((cf NB375_403 ((cf NB375_403 ((cf NB375_403 ((cf NB375_403 ((cf NB375_403 ((cf NB375_403 ((cf NB375_403 ((cf NB375_403 (hHeld.2.2.2.2.2.2.1)))))))))))))))))))))))), (cf NB375_403 ((cf NB375_403 ((cf NB375_403 ((cf NB375_403 ((cf NB375_403 ((cf NB375_403 ((cf NB375_403 ((cf NB375_403 ((cf NB375_403 ((cf NB375_403 ((cf NB375_403 ((cf NB375_403 (hHeld.2.2.2.2.2.2.2.1)))))))))))))))))))))))), (cf NB375_403 ((cf NB375_403 ((cf NB375_403 ((cf NB375_403 ((cf NB375_403 ((cf NB375_403 ((cf NB375_403 ((cf NB375_403 ((cf NB375_403 ((cf NB375_403 ((cf NB375_403 ((cf NB375_403 (hHeld.2.2.2.2.2.2.2.2.1)))))))))))))))))))))))), (cf NB375_403 ((cf NB375_403 ((cf NB375_403 ((cf NB375_403 ((cf NB375_403 ((cf NB375_403 ((cf NB375_403 ((cf NB375_403 ((cf NB375_403 ((cf NB375_403 ((cf NB375_403 ((cf NB375_403 (hHeld.2.2.2.2.2.2.2.2.2.1)))))))))))))))))))))))), (cf NB375_403 ((cf NB375_403 ((cf NB375_403 ((cf NB375_403 ((cf NB375_403 ((cf NB375_403 ((cf NB375_403 ((cf NB375_403 ((cf NB375_403 ((cf NB375_403 ((cf NB375_403 ((cf NB375_403 (hHeld.2.2.2.2.2.2.2.2.2.2.1)))))))))))))))))))))))), (cf NB375_403 ((cf NB375_403 ((cf NB375_403 ((cf NB375_403 ((cf NB375_403 ((cf NB375_403 ((cf NB375_403 ((cf NB375_403 ((cf NB375_403 ((cf NB375_403 ((cf NB375_403 ((cf NB375_403 (hHeld.2.2.2.2.2.2.2.2.2.2.2.1)))))))))))))))))))))))), (cf NB376_403 ((cf NB376_403 ((cf NB376_403 ((cf NB376_403 ((cf NB376_403 ((cf NB376_403 ((cf NB376_403 ((cf NB376_403 ((cf NB376_403 ((cf NB376_403 ((cf NB376_403 ((cf NB376_403 (hHeld.2.2.2.2.2.2.2.2.2.2.2.2.1)))))))))))))))))))))))), (cf NB376_403 ((cf NB376_403 ((cf NB376_403 ((cf NB376_403 ((cf NB376_403 ((cf NB376_403 ((cf NB376_403 ((cf NB376_403 ((cf NB376_403 ((cf NB376_403 ((cf NB376_403 ((cf NB376_403 (hHeld.2.2.2.2.2.2.2.2.2.2.2.2.2))))))))))))))))))))))))⟩ (fun hHeld => ?_)
  clear hK K
  refine done_ (by kernel_rfl) ?_
  try go_wp2
  obtain ⟨w78, hw_⟩ : ∃ x, x = ((((((((((((w65.setCell ⟨gb403, 0, none⟩ (.int .i64 t391)).setCell ⟨gb403, 1, none⟩ (.int .i64 t392)).setCell ⟨gb403, 2, none⟩ (.int .i64 t393)).setCell ⟨gb403, 3, none⟩ (.int .i64 t394)).setCell ⟨gb403, 4, none⟩ (.int .i64 t395)).setCell ⟨gb403, 5, none⟩ (.int .i64 t396)).setCell ⟨gb403, 6, none⟩ (.int .i64 t397)).setCell ⟨gb403, 7, none⟩ (.int .i64 t398)).setCell ⟨gb403, 8, none⟩ (.int .i64 t399)).setCell ⟨gb403, 9, none⟩ (.int .i64 t400)).setCell ⟨gb403, 10, none⟩ (.int .i64 t401)).setCell ⟨gb403, 11, none⟩ (.int .i64 t402)) := ⟨_, rfl⟩
  replace BK375 : Aside0 (w78.heap[gb375]? = some (.cells #[.int .i64 a0_0, .int .i64 a0_1, .int .i64 a0_2, .int .i64 a0_3, .int .i64 a0_4, .int .i64 a0_5, .int .i64 a0_6, .int .i64 a0_7, .int .i64 a0_8, .int .i64 a0_9, .int .i64 a0_10, .int .i64 a0_11] 37 (0, 0))) := ⟨by rw [hw_]; exact qF BK375⟩
  replace BK376 : Aside0 (w78.heap[gb376]? = some (.cells #[.int .i64 a1_0, .int .i64 a1_1] 35 (0, 0))) := ⟨by rw [hw_]; exact qF BK376⟩
  replace BK403 : Aside0 (w78.heap[gb403]? = some (.cells #[.int .i64 t391, .int .i64 t392, .int .i64 t393, .int .i64 t394, .int .i64 t395, .int .i64 t396, .int .i64 t397, .int .i64 t398, .int .i64 t399, .int .i64 t400, .int .i64 t401, .int .i64 t402] 40 (0, 0))) := ⟨by rw [hw_]; exact qP BK403⟩
  replace HB : Aside0 (Below w.heap.size w w78) := ⟨by rw [hw_]; exact qL HB⟩
  rw [← hw_]
  clear hw_
  replace BK375 := az (blk_drew BK375.out)
  replace BK376 := az (blk_drew BK376.out)
  replace BK403 := az (blk_drew BK403.out)
  replace HB := az (below_drew1 HB.out)
  refine start_ (n := 7) (S := fun w' => w'.cell? ⟨gb375, 0, none⟩ = some (.int .i64 a0_0) ∧ w'.cell? ⟨gb375, 1, none⟩ = some (.int .i64 a0_1) ∧ w'.cell? ⟨gb375, 2, none⟩ = some (.int .i64 a0_2) ∧ w'.cell? ⟨gb375, 3, none⟩ = some (.int .i64 a0_3) ∧ w'.cell? ⟨gb375, 4, none⟩ = some (.int .i64 a0_4) ∧ w'.cell? ⟨gb375, 5, none⟩ = some (.int .i64 a0_5) ∧ w'.cell? ⟨gb375, 6, none⟩ = some (.int .i64 a0_6) ∧ w'.cell? ⟨gb375, 7, none⟩ = some (.int .i64 a0_7) ∧ w'.cell? ⟨gb375, 8, none⟩ = some (.int .i64 a0_8) ∧ w'.cell? ⟨gb375, 9, none⟩ = some (.int .i64 a0_9) ∧ w'.cell? ⟨gb375, 10, none⟩ = some (.int .i64 a0_10) ∧ w'.cell? ⟨gb375, 11, none⟩ = some (.int .i64 a0_11) ∧ w'.cell? ⟨gb376, 0, none⟩ = some (.int .i64 a1_0) ∧ w'.cell? ⟨gb376, 1, none⟩ = some (.int .i64 a1_1)) (ds := []) #[false, false, false, false, false, false, false] (by kernel_rfl) rfl rfl ⟨bc BK375 0, bc BK375 1, bc BK375 2, bc BK375 3, bc BK375 4, bc BK375 5, bc BK375 6, bc BK375 7, bc BK375 8, bc BK375 9, bc BK375 10, bc BK375 11, bc BK376 0, bc BK376 1⟩ (fun hHeld => ?_)
  generalize w78.drew = w79 at BK375 BK376 BK403 HB hHeld ⊢
  refine take_ (i := 0) (N := some 12) (v := ?_) (a' := ?_) #[true, false, false, false, false, false, false] rfl rfl (by kernel_rfl) (fun _ _ _ h => h) (Or.inl ⟨by rfl, ?_⟩) hHeld ?_ ?_
  rotate_left
  · rintro w' ⟨s0, s1, s2, s3, s4, s5, s6, s7, s8, s9, s10, s11, s12, s13⟩
    go_simp
    with_reducible rfl
  rotate_left
  · simp only [Act.put, List.setIfInBounds_toArray, List.set_cons_zero, List.set_cons_succ, i64_w, i32_w]
    rfl
  refine take_ (i := 2) (N := some 14) (v := ?_) (a' := ?_) #[true, false, true, false, false, false, false] rfl rfl (by kernel_rfl) (fun _ _ _ h => h) (Or.inl ⟨by rfl, ?_⟩) hHeld ?_ ?_
  rotate_left
  · rintro w' ⟨s0, s1, s2, s3, s4, s5, s6, s7, s8, s9, s10, s11, s12, s13⟩
    go_simp
    with_reducible rfl
  rotate_left
  · simp only [Act.put, List.setIfInBounds_toArray, List.set_cons_zero, List.set_cons_succ, i64_w, i32_w]
    rfl
  refine join_ (σ := Nat) 1 (fl 7 63) (fun s_ => [(13, .agg #[.int .i64 t404, .int .i64 t405, .int .i64 t406, .int .i64 t407, .int .i64 t408, .int .i64 t409, .int .i64 t410, .int .i64 t411, .int .i64 t412, .int .i64 t413, .int .i64 t414, .int .i64 t415]), (15, .agg #[.int .i64 t416, .int .i64 t417]), (16, .agg #[.int .i64 t418, .int .i64 t419, .int .i64 t420, .int .i64 t421, .int .i64 t422, .int .i64 t423, .int .i64 t424, .int .i64 t425, .int .i64 t426, .int .i64 t427, .int .i64 t428, .int .i64 t429]), (6, .pointer (some ⟨s_, 0, none⟩))]) (fun s_ w' => (w'.cell? ⟨gb375, 0, none⟩ = some (.int .i64 a0_0) ∧ w'.cell? ⟨gb375, 1, none⟩ = some (.int .i64 a0_1) ∧ w'.cell? ⟨gb375, 2, none⟩ = some (.int .i64 a0_2) ∧ w'.cell? ⟨gb375, 3, none⟩ = some (.int .i64 a0_3) ∧ w'.cell? ⟨gb375, 4, none⟩ = some (.int .i64 a0_4) ∧ w'.cell? ⟨gb375, 5, none⟩ = some (.int .i64 a0_5) ∧ w'.cell? ⟨gb375, 6, none⟩ = some (.int .i64 a0_6) ∧ w'.cell? ⟨gb375, 7, none⟩ = some (.int .i64 a0_7) ∧ w'.cell? ⟨gb375, 8, none⟩ = some (.int .i64 a0_8) ∧ w'.cell? ⟨gb375, 9, none⟩ = some (.int .i64 a0_9) ∧ w'.cell? ⟨gb375, 10, none⟩ = some (.int .i64 a0_10) ∧ w'.cell? ⟨gb375, 11, none⟩ = some (.int .i64 a0_11) ∧ w'.cell? ⟨gb376, 0, none⟩ = some (.int .i64 a1_0) ∧ w'.cell? ⟨gb376, 1, none⟩ = some (.int .i64 a1_1)) ∧ (w'.heap[gb375]? = some (.cells #[.int .i64 a0_0, .int .i64 a0_1, .int .i64 a0_2, .int .i64 a0_3, .int .i64 a0_4, .int .i64 a0_5, .int .i64 a0_6, .int .i64 a0_7, .int .i64 a0_8, .int .i64 a0_9, .int .i64 a0_10, .int .i64 a0_11] 37 (0, 0))) ∧ (w'.heap[gb376]? = some (.cells #[.int .i64 a1_0, .int .i64 a1_1] 35 (0, 0))) ∧ (w'.heap[gb403]? = some (.cells #[.int .i64 t391, .int .i64 t392, .int .i64 t393, .int .i64 t394, .int .i64 t395, .int .i64 t396, .int .i64 t397, .int .i64 t398, .int .i64 t399, .int .i64 t400, .int .i64 t401, .int .i64 t402] 40 (0, 0))) ∧ (w'.heap[s_]? = some (.cells #[.int .i64 0, .int .i64 0, .int .i64 0, .int .i64 0, .int .i64 0, .int .i64 0, .int .i64 0, .int .i64 0, .int .i64 0, .int .i64 0, .int .i64 0, .int .i64 0] 40 (0, 0))) ∧ (w.heap.size ≤ s_) ∧ (w.heap.size ≤ s_) ∧ (gb375 ≠ s_) ∧ (s_ ≠ gb375) ∧ (gb376 ≠ s_) ∧ (s_ ≠ gb376) ∧ (gb403 ≠ s_) ∧ (s_ ≠ gb403) ∧ (Below w.heap.size w w')) ?_ ?_
  rotate_left
  · intro hCont
    refine two_ (i := 1) (j := 5) (Ni := some 13) (Nj := some 6) (fl 7 7) (fl 7 37) rfl rfl rfl rfl (by kernel_rfl) (by decide) (by decide) (fun K hK => ?_) (fun K hK => ?_)
    · skip
      refine go1 Try.func19 #[.agg #[.int .i64 a0_0, .int .i64 a0_1, .int .i64 a0_2, .int .i64 a0_3, .int .i64 a0_4, .int .i64 a0_5, .int .i64 a0_6, .int .i64 a0_7, .int .i64 a0_8, .int .i64 a0_9, .int .i64 a0_10, .int .i64 a0_11]] ?_
      with_reducible refine (laws_toBody.calls a0_0 a0_1 a0_2 a0_3 a0_4 a0_5 a0_6 a0_7 a0_8 a0_9 a0_10 a0_11 t404 t405 t406 t407 t408 t409 t410 t411 t412 t413 t414 t415 _ A6.out).mono ?_
      rintro e w80 ⟨rfl, hb⟩
      refine ⟨_, rfl, ?_⟩
      replace BK375 := kBB BK375 hb
      replace BK376 := kBB BK376 hb
      replace BK403 := kBB BK403 hb
      replace HB := bS HB hb
      clear hb
      refine hK.out _ _ ⟨bc BK375 0, bc BK375 1, bc BK375 2, bc BK375 3, bc BK375 4, bc BK375 5, bc BK375 6, bc BK375 7, bc BK375 8, bc BK375 9, bc BK375 10, bc BK375 11, bc BK376 0, bc BK376 1⟩ (fun hHeld => ?_)
      clear hK K
      refine nm (some 13) ?_
      refine two_ (i := 3) (j := 5) (Ni := some 15) (Nj := some 6) (fl 7 15) (fl 7 39) rfl rfl rfl rfl (by kernel_rfl) (by decide) (by decide) (fun K hK => ?_) (fun K hK => ?_)
      · skip
        refine go1 Try.func20 #[.agg #[.int .i64 a1_0, .int .i64 a1_1]] ?_
        with_reducible refine (laws_toVec.calls a1_0 a1_1 t416 t417 _ A7.out).mono ?_
        rintro e w81 ⟨rfl, hb⟩
        refine ⟨_, rfl, ?_⟩
        replace BK375 := kBB BK375 hb
        replace BK376 := kBB BK376 hb
        replace BK403 := kBB BK403 hb
        replace HB := bS HB hb
        clear hb
        refine hK.out _ _ ⟨bc BK375 0, bc BK375 1, bc BK375 2, bc BK375 3, bc BK375 4, bc BK375 5, bc BK375 6, bc BK375 7, bc BK375 8, bc BK375 9, bc BK375 10, bc BK375 11, bc BK376 0, bc BK376 1⟩ (fun hHeld => ?_)
        clear hK K
        refine nm (some 15) ?_
        refine two_ (i := 4) (j := 5) (Ni := some 16) (Nj := some 6) (fl 7 31) (fl 7 47) rfl rfl rfl rfl (by kernel_rfl) (by decide) (by decide) (fun K hK => ?_) (fun K hK => ?_)
        · skip
          refine go1 Try.func21 #[.agg #[.int .i64 t404, .int .i64 t405, .int .i64 t406, .int .i64 t407, .int .i64 t408, .int .i64 t409, .int .i64 t410, .int .i64 t411, .int .i64 t412, .int .i64 t413, .int .i64 t414, .int .i64 t415], .agg #[.int .i64 t416, .int .i64 t417]] ?_
          with_reducible refine (impl_BodyPush.calls k t404 t405 t406 t407 t408 t409 t410 t411 t412 t413 t414 t415 t416 t417 t418 t419 t420 t421 t422 t423 t424 t425 t426 t427 t428 t429 _ A8.out).mono ?_
          rintro e w82 ⟨rfl, hb⟩
          refine ⟨_, rfl, ?_⟩
          replace BK375 := kBB BK375 hb
          replace BK376 := kBB BK376 hb
          replace BK403 := kBB BK403 hb
          replace HB := bS HB hb
          clear hb
          refine hK.out _ _ ⟨bc BK375 0, bc BK375 1, bc BK375 2, bc BK375 3, bc BK375 4, bc BK375 5, bc BK375 6, bc BK375 7, bc BK375 8, bc BK375 9, bc BK375 10, bc BK375 11, bc BK376 0, bc BK376 1⟩ (fun hHeld => ?_)
          clear hK K
          refine nm (some 16) ?_
          refine one_ (i := 5) (N := some 6) #[true, true, true, true, true, true, false] rfl rfl (by kernel_rfl) (by decide) (fun K hK => ?_)
          refine box_step ?hg (N := 6) ?hd (cs := #[.int .i64 0, .int .i64 0, .int .i64 0, .int .i64 0, .int .i64 0, .int .i64 0, .int .i64 0, .int .i64 0, .int .i64 0, .int .i64 0, .int .i64 0, .int .i64 0]) (t := 40) ?hr ?_; (case hd => rfl); (case hg => rfl); (case hr => first | (go_simp; done) | (go_simp; rfl))
          intro gb430 hg w83 hbox hb
          have BK430 := az hbox
          have GW430 := az ((gE hg (qL HB) : w.heap.size ≤ gb430))
          have GE430 := GW430
          obtain ⟨NB375_430, NB430_375⟩ := nPB BK375 hg
          obtain ⟨NB376_430, NB430_376⟩ := nPB BK376 hg
          obtain ⟨NB403_430, NB430_403⟩ := nPB BK403 hg
          replace BK375 := kBB BK375 hb
          replace BK376 := kBB BK376 hb
          replace BK403 := kBB BK403 hb
          replace HB := bS HB hb
          clear hb hbox hg
          refine hK.out _ _ ⟨bc BK375 0, bc BK375 1, bc BK375 2, bc BK375 3, bc BK375 4, bc BK375 5, bc BK375 6, bc BK375 7, bc BK375 8, bc BK375 9, bc BK375 10, bc BK375 11, bc BK376 0, bc BK376 1⟩ (fun hHeld => ?_)
          clear hK K
          refine nm (some 6) ?_
          exact nrm (hCont (gb430) _ ⟨hHeld, (qB BK375), (qB BK376), (qB BK403), (qB BK430), GW430.out, GE430.out, NB375_430.out, NB430_375.out, NB376_430.out, NB430_376.out, NB403_430.out, NB430_403.out, (qL HB)⟩)
        skip
        refine box_step ?hg (N := 6) ?hd (cs := #[.int .i64 0, .int .i64 0, .int .i64 0, .int .i64 0, .int .i64 0, .int .i64 0, .int .i64 0, .int .i64 0, .int .i64 0, .int .i64 0, .int .i64 0, .int .i64 0]) (t := 40) ?hr ?_; (case hd => rfl); (case hg => rfl); (case hr => first | (go_simp; done) | (go_simp; rfl))
        intro gb430 hg w82 hbox hb
        have BK430 := az hbox
        have GW430 := az ((gE hg (qL HB) : w.heap.size ≤ gb430))
        have GE430 := GW430
        obtain ⟨NB375_430, NB430_375⟩ := nPB BK375 hg
        obtain ⟨NB376_430, NB430_376⟩ := nPB BK376 hg
        obtain ⟨NB403_430, NB430_403⟩ := nPB BK403 hg
        replace BK375 := kBB BK375 hb
        replace BK376 := kBB BK376 hb
        replace BK403 := kBB BK403 hb
        replace HB := bS HB hb
        clear hb hbox hg
        refine hK.out _ _ ⟨bc BK375 0, bc BK375 1, bc BK375 2, bc BK375 3, bc BK375 4, bc BK375 5, bc BK375 6, bc BK375 7, bc BK375 8, bc BK375 9, bc BK375 10, bc BK375 11, bc BK376 0, bc BK376 1⟩ (fun hHeld => ?_)
        clear hK K
        refine nm (some 6) ?_
        refine one_ (i := 4) (N := some 16) #[true, true, true, true, true, true, false] rfl rfl (by kernel_rfl) (by decide) (fun K hK => ?_)
        refine go1 Try.func21 #[.agg #[.int .i64 t404, .int .i64 t405, .int .i64 t406, .int .i64 t407, .int .i64 t408, .int .i64 t409, .int .i64 t410, .int .i64 t411, .int .i64 t412, .int .i64 t413, .int .i64 t414, .int .i64 t415], .agg #[.int .i64 t416, .int .i64 t417]] ?_
        with_reducible refine (impl_BodyPush.calls k t404 t405 t406 t407 t408 t409 t410 t411 t412 t413 t414 t415 t416 t417 t418 t419 t420 t421 t422 t423 t424 t425 t426 t427 t428 t429 _ A8.out).mono ?_
        rintro e w83 ⟨rfl, hb⟩
        refine ⟨_, rfl, ?_⟩
        replace BK375 := kBB BK375 hb
        replace BK376 := kBB BK376 hb
        replace BK403 := kBB BK403 hb
        replace BK430 := kBB BK430 hb
        replace HB := bS HB hb
        clear hb
        refine hK.out _ _ ⟨bc BK375 0, bc BK375 1, bc BK375 2, bc BK375 3, bc BK375 4, bc BK375 5, bc BK375 6, bc BK375 7, bc BK375 8, bc BK375 9, bc BK375 10, bc BK375 11, bc BK376 0, bc BK376 1⟩ (fun hHeld => ?_)
        clear hK K
        refine nm (some 16) ?_
        exact nrm (hCont (gb430) _ ⟨hHeld, (qB BK375), (qB BK376), (qB BK403), (qB BK430), GW430.out, GE430.out, NB375_430.out, NB430_375.out, NB376_430.out, NB430_376.out, NB403_430.out, NB430_403.out, (qL HB)⟩)
      skip
      refine box_step ?hg (N := 6) ?hd (cs := #[.int .i64 0, .int .i64 0, .int .i64 0, .int .i64 0, .int .i64 0, .int .i64 0, .int .i64 0, .int .i64 0, .int .i64 0, .int .i64 0, .int .i64 0, .int .i64 0]) (t := 40) ?hr ?_; (case hd => rfl); (case hg => rfl); (case hr => first | (go_simp; done) | (go_simp; rfl))
      intro gb430 hg w81 hbox hb
      have BK430 := az hbox
      have GW430 := az ((gE hg (qL HB) : w.heap.size ≤ gb430))
      have GE430 := GW430
      obtain ⟨NB375_430, NB430_375⟩ := nPB BK375 hg
      obtain ⟨NB376_430, NB430_376⟩ := nPB BK376 hg
      obtain ⟨NB403_430, NB430_403⟩ := nPB BK403 hg
      replace BK375 := kBB BK375 hb
      replace BK376 := kBB BK376 hb
      replace BK403 := kBB BK403 hb
      replace HB := bS HB hb
      clear hb hbox hg
      refine hK.out _ _ ⟨bc BK375 0, bc BK375 1, bc BK375 2, bc BK375 3, bc BK375 4, bc BK375 5, bc BK375 6, bc BK375 7, bc BK375 8, bc BK375 9, bc BK375 10, bc BK375 11, bc BK376 0, bc BK376 1⟩ (fun hHeld => ?_)
      clear hK K
      refine nm (some 6) ?_
      refine one_ (i := 3) (N := some 15) #[true, true, true, true, false, true, false] rfl rfl (by kernel_rfl) (by decide) (fun K hK => ?_)
      refine go1 Try.func20 #[.agg #[.int .i64 a1_0, .int .i64 a1_1]] ?_
      with_reducible refine (laws_toVec.calls a1_0 a1_1 t416 t417 _ A7.out).mono ?_
      rintro e w82 ⟨rfl, hb⟩
      refine ⟨_, rfl, ?_⟩
      replace BK375 := kBB BK375 hb
      replace BK376 := kBB BK376 hb
      replace BK403 := kBB BK403 hb
      replace BK430 := kBB BK430 hb
      replace HB := bS HB hb
      clear hb
      refine hK.out _ _ ⟨bc BK375 0, bc BK375 1, bc BK375 2, bc BK375 3, bc BK375 4, bc BK375 5, bc BK375 6, bc BK375 7, bc BK375 8, bc BK375 9, bc BK375 10, bc BK375 11, bc BK376 0, bc BK376 1⟩ (fun hHeld => ?_)
      clear hK K
      refine nm (some 15) ?_
      refine one_ (i := 4) (N := some 16) #[true, true, true, true, true, true, false] rfl rfl (by kernel_rfl) (by decide) (fun K hK => ?_)
      refine go1 Try.func21 #[.agg #[.int .i64 t404, .int .i64 t405, .int .i64 t406, .int .i64 t407, .int .i64 t408, .int .i64 t409, .int .i64 t410, .int .i64 t411, .int .i64 t412, .int .i64 t413, .int .i64 t414, .int .i64 t415], .agg #[.int .i64 t416, .int .i64 t417]] ?_
      with_reducible refine (impl_BodyPush.calls k t404 t405 t406 t407 t408 t409 t410 t411 t412 t413 t414 t415 t416 t417 t418 t419 t420 t421 t422 t423 t424 t425 t426 t427 t428 t429 _ A8.out).mono ?_
      rintro e w83 ⟨rfl, hb⟩
      refine ⟨_, rfl, ?_⟩
      replace BK375 := kBB BK375 hb
      replace BK376 := kBB BK376 hb
      replace BK403 := kBB BK403 hb
      replace BK430 := kBB BK430 hb
      replace HB := bS HB hb
      clear hb
      refine hK.out _ _ ⟨bc BK375 0, bc BK375 1, bc BK375 2, bc BK375 3, bc BK375 4, bc BK375 5, bc BK375 6, bc BK375 7, bc BK375 8, bc BK375 9, bc BK375 10, bc BK375 11, bc BK376 0, bc BK376 1⟩ (fun hHeld => ?_)
      clear hK K
      refine nm (some 16) ?_
      exact nrm (hCont (gb430) _ ⟨hHeld, (qB BK375), (qB BK376), (qB BK403), (qB BK430), GW430.out, GE430.out, NB375_430.out, NB430_375.out, NB376_430.out, NB430_376.out, NB403_430.out, NB430_403.out, (qL HB)⟩)
    skip
    refine box_step ?hg (N := 6) ?hd (cs := #[.int .i64 0, .int .i64 0, .int .i64 0, .int .i64 0, .int .i64 0, .int .i64 0, .int .i64 0, .int .i64 0, .int .i64 0, .int .i64 0, .int .i64 0, .int .i64 0]) (t := 40) ?hr ?_; (case hd => rfl); (case hg => rfl); (case hr => first | (go_simp; done) | (go_simp; rfl))
    intro gb430 hg w80 hbox hb
    have BK430 := az hbox
    have GW430 := az ((gE hg (qL HB) : w.heap.size ≤ gb430))
    have GE430 := GW430
    obtain ⟨NB375_430, NB430_375⟩ := nPB BK375 hg
    obtain ⟨NB376_430, NB430_376⟩ := nPB BK376 hg
    obtain ⟨NB403_430, NB430_403⟩ := nPB BK403 hg
    replace BK375 := kBB BK375 hb
    replace BK376 := kBB BK376 hb
    replace BK403 := kBB BK403 hb
    replace HB := bS HB hb
    clear hb hbox hg
    refine hK.out _ _ ⟨bc BK375 0, bc BK375 1, bc BK375 2, bc BK375 3, bc BK375 4, bc BK375 5, bc BK375 6, bc BK375 7, bc BK375 8, bc BK375 9, bc BK375 10, bc BK375 11, bc BK376 0, bc BK376 1⟩ (fun hHeld => ?_)
    clear hK K
    refine nm (some 6) ?_
    refine one_ (i := 1) (N := some 13) #[true, true, true, false, false, true, false] rfl rfl (by kernel_rfl) (by decide) (fun K hK => ?_)
    refine go1 Try.func19 #[.agg #[.int .i64 a0_0, .int .i64 a0_1, .int .i64 a0_2, .int .i64 a0_3, .int .i64 a0_4, .int .i64 a0_5, .int .i64 a0_6, .int .i64 a0_7, .int .i64 a0_8, .int .i64 a0_9, .int .i64 a0_10, .int .i64 a0_11]] ?_
    with_reducible refine (laws_toBody.calls a0_0 a0_1 a0_2 a0_3 a0_4 a0_5 a0_6 a0_7 a0_8 a0_9 a0_10 a0_11 t404 t405 t406 t407 t408 t409 t410 t411 t412 t413 t414 t415 _ A6.out).mono ?_
    rintro e w81 ⟨rfl, hb⟩
    refine ⟨_, rfl, ?_⟩
    replace BK375 := kBB BK375 hb
    replace BK376 := kBB BK376 hb
    replace BK403 := kBB BK403 hb
    replace BK430 := kBB BK430 hb
    replace HB := bS HB hb
    clear hb
    refine hK.out _ _ ⟨bc BK375 0, bc BK375 1, bc BK375 2, bc BK375 3, bc BK375 4, bc BK375 5, bc BK375 6, bc BK375 7, bc BK375 8, bc BK375 9, bc BK375 10, bc BK375 11, bc BK376 0, bc BK376 1⟩ (fun hHeld => ?_)
    clear hK K
    refine nm (some 13) ?_
    refine one_ (i := 3) (N := some 15) #[true, true, true, true, false, true, false] rfl rfl (by kernel_rfl) (by decide) (fun K hK => ?_)
    refine go1 Try.func20 #[.agg #[.int .i64 a1_0, .int .i64 a1_1]] ?_
    with_reducible refine (laws_toVec.calls a1_0 a1_1 t416 t417 _ A7.out).mono ?_
    rintro e w82 ⟨rfl, hb⟩
    refine ⟨_, rfl, ?_⟩
    replace BK375 := kBB BK375 hb
    replace BK376 := kBB BK376 hb
    replace BK403 := kBB BK403 hb
    replace BK430 := kBB BK430 hb
    replace HB := bS HB hb
    clear hb
    refine hK.out _ _ ⟨bc BK375 0, bc BK375 1, bc BK375 2, bc BK375 3, bc BK375 4, bc BK375 5, bc BK375 6, bc BK375 7, bc BK375 8, bc BK375 9, bc BK375 10, bc BK375 11, bc BK376 0, bc BK376 1⟩ (fun hHeld => ?_)
    clear hK K
    refine nm (some 15) ?_
    refine one_ (i := 4) (N := some 16) #[true, true, true, true, true, true, false] rfl rfl (by kernel_rfl) (by decide) (fun K hK => ?_)
    refine go1 Try.func21 #[.agg #[.int .i64 t404, .int .i64 t405, .int .i64 t406, .int .i64 t407, .int .i64 t408, .int .i64 t409, .int .i64 t410, .int .i64 t411, .int .i64 t412, .int .i64 t413, .int .i64 t414, .int .i64 t415], .agg #[.int .i64 t416, .int .i64 t417]] ?_
    with_reducible refine (impl_BodyPush.calls k t404 t405 t406 t407 t408 t409 t410 t411 t412 t413 t414 t415 t416 t417 t418 t419 t420 t421 t422 t423 t424 t425 t426 t427 t428 t429 _ A8.out).mono ?_
    rintro e w83 ⟨rfl, hb⟩
    refine ⟨_, rfl, ?_⟩
    replace BK375 := kBB BK375 hb
    replace BK376 := kBB BK376 hb
    replace BK403 := kBB BK403 hb
    replace BK430 := kBB BK430 hb
    replace HB := bS HB hb
    clear hb
    refine hK.out _ _ ⟨bc BK375 0, bc BK375 1, bc BK375 2, bc BK375 3, bc BK375 4, bc BK375 5, bc BK375 6, bc BK375 7, bc BK375 8, bc BK375 9, bc BK375 10, bc BK375 11, bc BK376 0, bc BK376 1⟩ (fun hHeld => ?_)
    clear hK K
    refine nm (some 16) ?_
    exact nrm (hCont (gb430) _ ⟨hHeld, (qB BK375), (qB BK376), (qB BK403), (qB BK430), GW430.out, GE430.out, NB375_430.out, NB430_375.out, NB376_430.out, NB430_376.out, NB403_430.out, NB430_403.out, (qL HB)⟩)
  rintro gb430 w84 ⟨hS_, h0_, h1_, h2_, h3_, h4_, h5_, h6_, h7_, h8_, h9_, h10_, h11_, h12_⟩
  have BK430 := az h3_
  have GW430 := az h4_
  have GE430 := az h5_
  have NB375_430 := az h6_
  have NB430_375 := az h7_
  have NB376_430 := az h8_
  have NB430_376 := az h9_
  have NB403_430 := az h10_
  have NB430_403 := az h11_
  replace BK375 := az h0_
  replace BK376 := az h1_
  replace BK403 := az h2_
  replace HB := az h12_
  clear h0_ h1_ h2_ h3_ h4_ h5_ h6_ h7_ h8_ h9_ h10_ h11_ h12_
  have hHeld := hS_
  refine nmp ?_
  refine one_ (i := 6) (N := none) #[true, true, true, true, true, true, true] rfl rfl (by kernel_rfl) (by decide) (fun K hK => ?_)
  have hs85 : w84.cell? ⟨gb430, 0, none⟩ = some (.int .i64 0) := bc BK430 0
  have hfs85 := blk_frozen BK430.out 0
  have hns85_0 := NB375_430.out
  have hns85_1 := NB376_430.out
  have hns85_2 := NB403_430.out
  have hms85_0 := NB430_375.out
  have hms85_1 := NB430_376.out
  have hms85_2 := NB430_403.out
  have hs86 : w84.cell? ⟨gb430, 1, none⟩ = some (.int .i64 0) := bc BK430 1
  have hfs86 := blk_frozen BK430.out 1
  have hns86_0 := NB375_430.out
  have hns86_1 := NB376_430.out
  have hns86_2 := NB403_430.out
  have hms86_0 := NB430_375.out
  have hms86_1 := NB430_376.out
  have hms86_2 := NB430_403.out
  have hs87 : w84.cell? ⟨gb430, 2, none⟩ = some (.int .i64 0) := bc BK430 2
  have hfs87 := blk_frozen BK430.out 2
  have hns87_0 := NB375_430.out
  have hns87_1 := NB376_430.out
  have hns87_2 := NB403_430.out
  have hms87_0 := NB430_375.out
  have hms87_1 := NB430_376.out
  have hms87_2 := NB430_403.out
  have hs88 : w84.cell? ⟨gb430, 3, none⟩ = some (.int .i64 0) := bc BK430 3
  have hfs88 := blk_frozen BK430.out 3
  have hns88_0 := NB375_430.out
  have hns88_1 := NB376_430.out
  have hns88_2 := NB403_430.out
  have hms88_0 := NB430_375.out
  have hms88_1 := NB430_376.out
  have hms88_2 := NB430_403.out
  have hs89 : w84.cell? ⟨gb430, 4, none⟩ = some (.int .i64 0) := bc BK430 4
  have hfs89 := blk_frozen BK430.out 4
  have hns89_0 := NB375_430.out
  have hns89_1 := NB376_430.out
  have hns89_2 := NB403_430.out
  have hms89_0 := NB430_375.out
  have hms89_1 := NB430_376.out
  have hms89_2 := NB430_403.out
  have hs90 : w84.cell? ⟨gb430, 5, none⟩ = some (.int .i64 0) := bc BK430 5
  have hfs90 := blk_frozen BK430.out 5
  have hns90_0 := NB375_430.out
  have hns90_1 := NB376_430.out
  have hns90_2 := NB403_430.out
  have hms90_0 := NB430_375.out
  have hms90_1 := NB430_376.out
  have hms90_2 := NB430_403.out
  have hs91 : w84.cell? ⟨gb430, 6, none⟩ = some (.int .i64 0) := bc BK430 6
  have hfs91 := blk_frozen BK430.out 6
  have hns91_0 := NB375_430.out
  have hns91_1 := NB376_430.out
  have hns91_2 := NB403_430.out
  have hms91_0 := NB430_375.out
  have hms91_1 := NB430_376.out
  have hms91_2 := NB430_403.out
  have hs92 : w84.cell? ⟨gb430, 7, none⟩ = some (.int .i64 0) := bc BK430 7
  have hfs92 := blk_frozen BK430.out 7
  have hns92_0 := NB375_430.out
  have hns92_1 := NB376_430.out
  have hns92_2 := NB403_430.out
  have hms92_0 := NB430_375.out
  have hms92_1 := NB430_376.out
  have hms92_2 := NB430_403.out
  have hs93 : w84.cell? ⟨gb430, 8, none⟩ = some (.int .i64 0) := bc BK430 8
  have hfs93 := blk_frozen BK430.out 8
  have hns93_0 := NB375_430.out
  have hns93_1 := NB376_430.out
  have hns93_2 := NB403_430.out
  have hms93_0 := NB430_375.out
  have hms93_1 := NB430_376.out
  have hms93_2 := NB430_403.out
  have hs94 : w84.cell? ⟨gb430, 9, none⟩ = some (.int .i64 0) := bc BK430 9
  have hfs94 := blk_frozen BK430.out 9
  have hns94_0 := NB375_430.out
  have hns94_1 := NB376_430.out
  have hns94_2 := NB403_430.out
  have hms94_0 := NB430_375.out
  have hms94_1 := NB430_376.out
  have hms94_2 := NB430_403.out
  have hs95 : w84.cell? ⟨gb430, 10, none⟩ = some (.int .i64 0) := bc BK430 10
  have hfs95 := blk_frozen BK430.out 10
  have hns95_0 := NB375_430.out
  have hns95_1 := NB376_430.out
  have hns95_2 := NB403_430.out
  have hms95_0 := NB430_375.out
  have hms95_1 := NB430_376.out
  have hms95_2 := NB430_403.out
  have hs96 : w84.cell? ⟨gb430, 11, none⟩ = some (.int .i64 0) := bc BK430 11
  have hfs96 := blk_frozen BK430.out 11
  have hns96_0 := NB375_430.out
  have hns96_1 := NB376_430.out
  have hns96_2 := NB403_430.out
  have hms96_0 := NB430_375.out
  have hms96_1 := NB430_376.out
  have hms96_2 := NB430_403.out
  refine skip_ (w1 := ?_) ?hw ?hn ?_ ?_; (case hw => unfold Region.wanted; rfl); (case hn => rfl)
  rotate_left
  · go_simp
    rfl
  refine hK.out _ _ ⟨(cf NB375_430 ((cf NB375_430 ((cf NB375_430 ((cf NB375_430 ((cf NB375_430 ((cf NB375_430 ((cf NB375_430 ((cf NB375_430 ((cf NB375_430 ((cf NB375_430 ((cf NB375_430 ((cf NB375_430 (hHeld.1)))))))))))))))))))))))), (cf NB375_430 ((cf NB375_430 ((cf NB375_430 ((cf NB375_430 ((cf NB375_430 ((cf NB375_430 ((cf NB375_430 ((cf NB375_430 ((cf NB375_430 ((cf NB375_430 ((cf NB375_430 ((cf NB375_430 (hHeld.2.1)))))))))))))))))))))))), (cf NB375_430 ((cf NB375_430 ((cf NB375_430 ((cf NB375_430 ((cf NB375_430 ((cf NB375_430 ((cf NB375_430 ((cf NB375_430 ((cf NB375_430 ((cf NB375_430 ((cf NB375_430 ((cf NB375_430 (hHeld.2.2.1)))))))))))))))))))))))), (cf NB375_430 ((cf NB375_430 ((cf NB375_430 ((cf NB375_430 ((cf NB375_430 ((cf NB375_430 ((cf NB375_430 ((cf NB375_430 ((cf NB375_430 ((cf NB375_430 ((cf NB375_430 ((cf NB375_430 (hHeld.2.2.2.1)))))))))))))))))))))))), (cf NB375_430 ((cf NB375_430 ((cf NB375_430 ((cf NB375_430 ((cf NB375_430 ((cf NB375_430 ((cf NB375_430 ((cf NB375_430 ((cf NB375_430 ((cf NB375_430 ((cf NB375_430 ((cf NB375_430 (hHeld.2.2.2.2.1)))))))))))))))))))))))), (cf NB375_430 ((cf NB375_430 ((cf NB375_430 ((cf NB375_430 ((cf NB375_430 ((cf NB375_430 ((cf NB375_430 ((cf NB375_430 ((cf NB375_430 ((cf NB375_430 ((cf NB375_430 ((cf NB375_430 (hHeld.2.2.2.2.2.1)))))))))))))))))))))))), (cf NB375_430 ((cf NB375_430 ((cf NB375_430 ((cf NB375_430 ((cf NB375_430 ((cf NB375_430 ((cf NB375_430 ((cf NB375_430 ((cf NB375_430 ((cf NB375_430 ((cf NB375_430 ((cf NB375_430 (hHeld.2.2.2.2.2.2.1)))))))))))))))))))))))), (cf NB375_430 ((cf NB375_430 ((cf NB375_430 ((cf NB375_430 ((cf NB375_430 ((cf NB375_430 ((cf NB375_430 ((cf NB375_430 ((cf NB375_430 ((cf NB375_430 ((cf NB375_430 ((cf NB375_430 (hHeld.2.2.2.2.2.2.2.1)))))))))))))))))))))))), (cf NB375_430 ((cf NB375_430 ((cf NB375_430 ((cf NB375_430 ((cf NB375_430 ((cf NB375_430 ((cf NB375_430 ((cf NB375_430 ((cf NB375_430 ((cf NB375_430 ((cf NB375_430 ((cf NB375_430 (hHeld.2.2.2.2.2.2.2.2.1)))))))))))))))))))))))), (cf NB375_430 ((cf NB375_430 ((cf NB375_430 ((cf NB375_430 ((cf NB375_430 ((cf NB375_430 ((cf NB375_430 ((cf NB375_430 ((cf NB375_430 ((cf NB375_430 ((cf NB375_430 ((cf NB375_430 (hHeld.2.2.2.2.2.2.2.2.2.1)))))))))))))))))))))))), (cf NB375_430 ((cf NB375_430 ((cf NB375_430 ((cf NB375_430 ((cf NB375_430 ((cf NB375_430 ((cf NB375_430 ((cf NB375_430 ((cf NB375_430 ((cf NB375_430 ((cf NB375_430 ((cf NB375_430 (hHeld.2.2.2.2.2.2.2.2.2.2.1)))))))))))))))))))))))), (cf NB375_430 ((cf NB375_430 ((cf NB375_430 ((cf NB375_430 ((cf NB375_430 ((cf NB375_430 ((cf NB375_430 ((cf NB375_430 ((cf NB375_430 ((cf NB375_430 ((cf NB375_430 ((cf NB375_430 (hHeld.2.2.2.2.2.2.2.2.2.2.2.1)))))))))))))))))))))))), (cf NB376_430 ((cf NB376_430 ((cf NB376_430 ((cf NB376_430 ((cf NB376_430 ((cf NB376_430 ((cf NB376_430 ((cf NB376_430 ((cf NB376_430 ((cf NB376_430 ((cf NB376_430 ((cf NB376_430 (hHeld.2.2.2.2.2.2.2.2.2.2.2.2.1)))))))))))))))))))))))), (cf NB376_430 ((cf NB376_430 ((cf NB376_430 ((cf NB376_430 ((cf NB376_430 ((cf NB376_430 ((cf NB376_430 ((cf NB376_430 ((cf NB376_430 ((cf NB376_430 ((cf NB376_430 ((cf NB376_430 (hHeld.2.2.2.2.2.2.2.2.2.2.2.2.2))))))))))))))))))))))))⟩ (fun hHeld => ?_)
  clear hK K
  refine done_ (by kernel_rfl) ?_
  have hnb97 := NB430_375.out
  have hnc97 := NB375_430.out
  have hnb98 := NB430_376.out
  have hnc98 := NB376_430.out
  have hnb99 := NB430_403.out
  have hnc99 := NB403_430.out
  obtain ⟨hcz100_0, hcz100_1, hcz100_2, hcz100_3, hcz100_4, hcz100_5, hcz100_6, hcz100_7, hcz100_8, hcz100_9, hcz100_10, hcz100_11⟩ := cz12 BK430.out
  obtain ⟨hfz100_0, hfz100_1, hfz100_2, hfz100_3, hfz100_4, hfz100_5, hfz100_6, hfz100_7, hfz100_8, hfz100_9, hfz100_10, hfz100_11⟩ := fz12 BK430.out
  have hnb101 := NB403_375.out
  have hnc101 := NB375_403.out
  have hnb102 := NB403_376.out
  have hnc102 := NB376_403.out
  obtain ⟨hcz103_0, hcz103_1, hcz103_2, hcz103_3, hcz103_4, hcz103_5, hcz103_6, hcz103_7, hcz103_8, hcz103_9, hcz103_10, hcz103_11⟩ := cz12 BK403.out
  obtain ⟨hfz103_0, hfz103_1, hfz103_2, hfz103_3, hfz103_4, hfz103_5, hfz103_6, hfz103_7, hfz103_8, hfz103_9, hfz103_10, hfz103_11⟩ := fz12 BK403.out
  try go_wp2_with (first | ((with_reducible refine gate_callee (f := 22) rfl ?_); refine gl (some 19) Try.func22 #[.agg #[.int .i64 t418, .int .i64 t419, .int .i64 t420, .int .i64 t421, .int .i64 t422, .int .i64 t423, .int .i64 t424, .int .i64 t425, .int .i64 t426, .int .i64 t427, .int .i64 t428, .int .i64 t429], .agg #[.int .i64 t391, .int .i64 t392, .int .i64 t393, .int .i64 t394, .int .i64 t395, .int .i64 t396, .int .i64 t397, .int .i64 t398, .int .i64 t399, .int .i64 t400, .int .i64 t401, .int .i64 t402]] ?_; (with_reducible refine (laws_eqBody.calls t418 t419 t420 t421 t422 t423 t424 t425 t426 t427 t428 t429 t391 t392 t393 t394 t395 t396 t397 t398 t399 t400 t401 t402 false _ A9.out).mono ?_); rintro e w104 ⟨rfl, hb⟩; refine ⟨_, rfl, ?_⟩; replace BK375 := kBF BK375 hb; replace BK376 := kBF BK376 hb; replace BK403 := kBF BK403 hb; replace BK430 := kBP (o' := .cells #[.int .i64 t418, .int .i64 t419, .int .i64 t420, .int .i64 t421, .int .i64 t422, .int .i64 t423, .int .i64 t424, .int .i64 t425, .int .i64 t426, .int .i64 t427, .int .i64 t428, .int .i64 t429] 40 (0, 0)) BK430 hb; replace HB := bS HB hb; clear hb))
  go_ret
  exact ⟨qE, qL HB⟩
end Go.Proofs.Ytihajbjkjclmoaa.PBig
