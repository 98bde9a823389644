/- What these functions compute, each walked once: laws_markContactS, laws_heldContactS; for all arguments and worlds, under the conditions that each theorem names. -/
import Derived.Test.YtdngjedhbnoaoaaSq
import Derived.Test.YtdngjedhbnoaoaaPBigx1015
namespace Go.Proofs.Ytdngjedhbnoaoaa.PBig
open Go.RowKit Go.Proofs.YtdngjedhbnoaoaaW.PrintWords Go.Proofs.YtdngjedhbnoaoaaW.PrintLast Go.Proofs.YtdngjedhbnoaoaaW.PrintMore
attribute [local go_sem] max2_int min2_int max_two min_two max_three min_three max_four min_four   -- for this text's walks alone
set_option linter.unusedVariables false
set_option linter.unusedSimpArgs false

/-! ### laws_markContactS: function 34 -/
/-- Every cell of an element marked, from x1 on. -/
def laws_markContactS.mk (x1 : Int) : S37 := ⟨x1, wrap64 (x1 + 1), ⟨⟨wrap64 ((wrap64 (x1 + 1)) + 1), wrap64 ((wrap64 ((wrap64 (x1 + 1)) + 1)) + 1)⟩, wrap64 ((wrap64 ((wrap64 ((wrap64 (x1 + 1)) + 1)) + 1)) + 1)⟩⟩
def laws_markContactS.l0 : Nat → List (S37) → Int → Int → Option (Int × List (S37))
  | 0, _, _, _ => none
  | k + 1, x0, x1, x5 => if x5 < (x0.length : Int) then (if 0 ≤ x5 then (laws_markContactS.l0 k (x0.set (x5 : Int).toNat (laws_markContactS.mk x1)) (wrap64 ((wrap64 ((wrap64 ((wrap64 ((wrap64 (x1 + 1)) + 1)) + 1)) + 1)) + 1)) (wrap64 (x5 + 1))) else (none)) else (some (x1, x0))
def laws_markContactS.f (k : Nat) (l0 : List (S37)) (a1 : Int) : Option (Int × List (S37)) := laws_markContactS.l0 k l0 a1 0
theorem laws_markContactS.mono_l : ∀ k, (∀ y0 y1 y2, LeO (laws_markContactS.l0 k y0 y1 y2) (laws_markContactS.l0 (k + 1) y0 y1 y2))
  | 0 => fun _ _ _ r h => by simp [laws_markContactS.l0] at h
  | k + 1 => by
    have ih0 := laws_markContactS.mono_l k
    · intro y0 y1 y2
      unfold laws_markContactS.l0
      repeat' first
      | (with_reducible exact ih0 _ _ _)
      | (with_reducible exact LeO.refl _)
      | (with_reducible exact LeO.none _)
      | (with_reducible refine LeO.ite ?_ ?_)
theorem laws_markContactS.mono : ∀ a0 a1 k, LeO (laws_markContactS.f k a0 a1) (laws_markContactS.f (k + 1) a0 a1) := fun _ _ k => laws_markContactS.mono_l k _ _ _
set_option maxHeartbeats 8000000 in
set_option maxRecDepth 100000 in
theorem laws_markContactS.calls (k : Nat) (P0_ : Nat → Prop) (u : Value) (l0 : List (S37)) (a1 : Int) (r1 : Int) (r2 : List (S37)) (w0 w : World) (hB : Below w0.heap.size w0 w) (ho : Kd.R k37 37 w w0.heap.size P0_ u l0) (h : laws_markContactS.f k l0 a1 = some (r1, r2)) :
    Calls Try.prog 34 #[u, .int .i64 a1] w fun e w' => e = .returned (.int .i64 r1) ∧ Kd.R k37 37 w' w0.heap.size (fun k_ => (P0_ k_ ∨ w.heap.size ≤ k_)) u r2 ∧ Below w0.heap.size w0 w' ∧ Kept w w' (fun k_ => P0_ k_) := by
  have hu := Try.underlying37
  have hu33 := Try.underlying33
  have hu35 := Try.underlying35
  have HX := az (show Kd.R k37 37 w w0.heap.size (fun k_ => (P0_ k_ ∨ w.heap.size ≤ k_)) u l0 from Kd.R_mono ho (fun k_ hk => (.inl hk)))
  have HK := az (Kept.refl w (fun k_ => P0_ k_))
  have HB := az hB
  clear hB
  have H' : Aside0 ((laws_markContactS.l0 k l0 a1 0) = some (r1, r2)) := az h
  clear h
  go_enter Try.func34, Try.ntmps34
  go_wp2
  go_loopg [1, 5] k (fun kq v1 v5 w' => ∃ (xs : List (S37)) (x1 : Int) (i : Int), v1 = .int .i64 x1 ∧ v5 = .int .i64 i ∧ Aside0 (laws_markContactS.l0 kq xs x1 i = some (r1, r2)) ∧ Aside0 (kq ≤ k) ∧ Aside0 (Kd.R k37 37 w' w0.heap.size (fun k_ => (P0_ k_ ∨ w.heap.size ≤ k_)) u xs) ∧ Aside0 (Kept w w' (fun k_ => P0_ k_)) ∧ Aside0 (Below w0.heap.size w0 w'))
  case atStart => exact ⟨l0, a1, 0, qE, qE, H', ⟨Nat.le_refl _⟩, HX, HK, HB⟩
  case round =>
    clear H' HX HK HB ho
    obtain ⟨xs, x1, i, rfl, rfl, HA, aB, HX, HK, HB⟩ := hrel
    cases gk with
    | zero => exact absurd HA.out (by simp [laws_markContactS.l0])
    | succ k1 => ?_
    have H := HA.out
    clear HA
    simp only [laws_markContactS.l0] at H
    by_cases c3 : i < (xs.length : Int)
    · rw [if_pos c3] at H
      have c3b : decide (i < (xs.length : Int)) = true := decide_eq_true c3
      by_cases c4 : 0 ≤ i
      · rw [if_pos c4] at H
        have c4b : decide (0 ≤ i) = true := decide_eq_true c4
        have H' := az H
        clear H
        obtain ⟨g, cap, rfl, hbg, hlg, cells, hcell⟩ := Kd.R_form HX.out (by omega)
        have GB := az hbg
        have HO := az (show (P0_ g ∨ w.heap.size ≤ g) from (HX.out.1 _ rfl))
        clear hbg hlg hcell cells
        replace HX := az (show Kd.R k37 37 wr w0.heap.size (fun k_ => (P0_ k_ ∨ w.heap.size ≤ k_)) (.slice (some ⟨g, 0, none⟩) xs.length cap) (xs.set i.toNat (xs.getD i.toNat z37)) from by rw [set_rd]; exact HX.out)
        generalize xs.getD i.toNat z37 = y at HX
        have C3 := az c3
        have C4 := az c4
        replace c4 := eq_true c4
        replace c3 := eq_true c3
        go_wp2_with (first | ((with_reducible refine gate_store (t := 3) (p := 16) rfl ?_); obtain ⟨hc, hf, hR, hG⟩ := el_set (d := k37) z37 (fun y : S37 => [.int .i64 y.f0, .int .i64 y.f1, .int .i64 y.f2.f0.f0, .int .i64 y.f2.f0.f1, .int .i64 y.f2.f1]) (fun h => k37_openM h) (fun w b o y => k37_mkM w b o y) i (x := y) HX.out C4.out C3.out 0 (.int .i64 y.f0) (.int .i64 (x1)) (⟨x1, y.f1, ⟨⟨y.f2.f0.f0, y.f2.f0.f1⟩, y.f2.f1⟩⟩ : S37) rfl rfl; replace hc : wr.cell? ⟨g, i.toNat * 5, none⟩ = some (.int .i64 y.f0) := hc; replace hf : wr.frozen? ⟨g, i.toNat * 5, none⟩ = false := hf; refine store_event (t := 3) (p := 16) (v := ?vo0) (w1 := (wr.setCell ⟨g, i.toNat * 5, none⟩ (.int .i64 (x1)))) ?hg ?ho ?hn ?hr ?_; (case ho => rfl); (case hg => rfl); (case hn => rfl); (case hr => first | (go_simp; done) | (go_simp; rfl)); intro w8 hw; replace hG : wr.grownBy w8 (some g) := (by rw [hw]; exact hG); replace hR : Kd.R k37 37 w8 w0.heap.size (fun k_ => (P0_ k_ ∨ w.heap.size ≤ k_)) (.slice (some ⟨g, 0, none⟩) xs.length cap) (xs.set i.toNat (⟨x1, y.f1, ⟨⟨y.f2.f0.f0, y.f2.f0.f1⟩, y.f2.f1⟩⟩ : S37)) := (by rw [hw]; exact hR); replace HB := az ((by rw [hw]; exact below_set (HB.out) GB.out : Below w0.heap.size w0 w8)); replace HK := az (Kept.of_grown (S := (fun k_ => P0_ k_)) hG HK.out (fun k_ e_ => by cases e_; exact HO.out)); replace HX := az hR; clear hc hf hG hR hw) | ((with_reducible refine gate_store (t := 3) (p := 23) rfl ?_); obtain ⟨hc, hf, hR, hG⟩ := el_set (d := k37) z37 (fun y : S37 => [.int .i64 y.f0, .int .i64 y.f1, .int .i64 y.f2.f0.f0, .int .i64 y.f2.f0.f1, .int .i64 y.f2.f1]) (fun h => k37_openM h) (fun w b o y => k37_mkM w b o y) i (x := (⟨x1, y.f1, ⟨⟨y.f2.f0.f0, y.f2.f0.f1⟩, y.f2.f1⟩⟩ : S37)) HX.out C4.out C3.out 1 (.int .i64 (⟨x1, y.f1, ⟨⟨y.f2.f0.f0, y.f2.f0.f1⟩, y.f2.f1⟩⟩ : S37).f1) (.int .i64 (wrap64 (x1 + 1))) (⟨x1, wrap64 (x1 + 1), ⟨⟨y.f2.f0.f0, y.f2.f0.f1⟩, y.f2.f1⟩⟩ : S37) rfl rfl; replace hc : w8.cell? ⟨g, i.toNat * 5 + 1, none⟩ = some (.int .i64 (⟨x1, y.f1, ⟨⟨y.f2.f0.f0, y.f2.f0.f1⟩, y.f2.f1⟩⟩ : S37).f1) := hc; replace hf : w8.frozen? ⟨g, i.toNat * 5 + 1, none⟩ = false := hf; refine store_event (t := 3) (p := 23) (v := ?vo1) (w1 := (w8.setCell ⟨g, i.toNat * 5 + 1, none⟩ (.int .i64 (wrap64 (x1 + 1))))) ?hg ?ho ?hn ?hr ?_; (case ho => rfl); (case hg => rfl); (case hn => rfl); (case hr => first | (go_simp; done) | (go_simp; rfl)); intro w9 hw; replace hG : w8.grownBy w9 (some g) := (by rw [hw]; exact hG); replace hR : Kd.R k37 37 w9 w0.heap.size (fun k_ => (P0_ k_ ∨ w.heap.size ≤ k_)) (.slice (some ⟨g, 0, none⟩) xs.length cap) (xs.set i.toNat (⟨x1, wrap64 (x1 + 1), ⟨⟨y.f2.f0.f0, y.f2.f0.f1⟩, y.f2.f1⟩⟩ : S37)) := (by rw [hw]; exact hR); replace HB := az ((by rw [hw]; exact below_set (HB.out) GB.out : Below w0.heap.size w0 w9)); replace HK := az (Kept.of_grown (S := (fun k_ => P0_ k_)) hG HK.out (fun k_ e_ => by cases e_; exact HO.out)); replace HX := az hR; clear hc hf hG hR hw) | ((with_reducible refine gate_store (t := 3) (p := 32) rfl ?_); obtain ⟨hc, hf, hR, hG⟩ := el_set (d := k37) z37 (fun y : S37 => [.int .i64 y.f0, .int .i64 y.f1, .int .i64 y.f2.f0.f0, .int .i64 y.f2.f0.f1, .int .i64 y.f2.f1]) (fun h => k37_openM h) (fun w b o y => k37_mkM w b o y) i (x := (⟨x1, wrap64 (x1 + 1), ⟨⟨y.f2.f0.f0, y.f2.f0.f1⟩, y.f2.f1⟩⟩ : S37)) HX.out C4.out C3.out 2 (.int .i64 (⟨x1, wrap64 (x1 + 1), ⟨⟨y.f2.f0.f0, y.f2.f0.f1⟩, y.f2.f1⟩⟩ : S37).f2.f0.f0) (.int .i64 (wrap64 ((wrap64 (x1 + 1)) + 1))) (⟨x1, wrap64 (x1 + 1), ⟨⟨wrap64 ((wrap64 (x1 + 1)) + 1), y.f2.f0.f1⟩, y.f2.f1⟩⟩ : S37) rfl rfl; replace hc : w9.cell? ⟨g, i.toNat * 5 + 2, none⟩ = some (.int .i64 (⟨x1, wrap64 (x1 + 1), ⟨⟨y.f2.f0.f0, y.f2.f0.f1⟩, y.f2.f1⟩⟩ : S37).f2.f0.f0) := hc; replace hf : w9.frozen? ⟨g, i.toNat * 5 + 2, none⟩ = false := hf; refine store_event (t := 3) (p := 32) (v := ?vo2) (w1 := (w9.setCell ⟨g, i.toNat * 5 + 2, none⟩ (.int .i64 (wrap64 ((wrap64 (x1 + 1)) + 1))))) ?hg ?ho ?hn ?hr ?_; (case ho => rfl); (case hg => rfl); (case hn => rfl); (case hr => first | (go_simp; done) | (go_simp; rfl)); intro w10 hw; replace hG : w9.grownBy w10 (some g) := (by rw [hw]; exact hG); replace hR : Kd.R k37 37 w10 w0.heap.size (fun k_ => (P0_ k_ ∨ w.heap.size ≤ k_)) (.slice (some ⟨g, 0, none⟩) xs.length cap) (xs.set i.toNat (⟨x1, wrap64 (x1 + 1), ⟨⟨wrap64 ((wrap64 (x1 + 1)) + 1), y.f2.f0.f1⟩, y.f2.f1⟩⟩ : S37)) := (by rw [hw]; exact hR); replace HB := az ((by rw [hw]; exact below_set (HB.out) GB.out : Below w0.heap.size w0 w10)); replace HK := az (Kept.of_grown (S := (fun k_ => P0_ k_)) hG HK.out (fun k_ e_ => by cases e_; exact HO.out)); replace HX := az hR; clear hc hf hG hR hw) | ((with_reducible refine gate_store (t := 3) (p := 41) rfl ?_); obtain ⟨hc, hf, hR, hG⟩ := el_set (d := k37) z37 (fun y : S37 => [.int .i64 y.f0, .int .i64 y.f1, .int .i64 y.f2.f0.f0, .int .i64 y.f2.f0.f1, .int .i64 y.f2.f1]) (fun h => k37_openM h) (fun w b o y => k37_mkM w b o y) i (x := (⟨x1, wrap64 (x1 + 1), ⟨⟨wrap64 ((wrap64 (x1 + 1)) + 1), y.f2.f0.f1⟩, y.f2.f1⟩⟩ : S37)) HX.out C4.out C3.out 3 (.int .i64 (⟨x1, wrap64 (x1 + 1), ⟨⟨wrap64 ((wrap64 (x1 + 1)) + 1), y.f2.f0.f1⟩, y.f2.f1⟩⟩ : S37).f2.f0.f1) (.int .i64 (wrap64 ((wrap64 ((wrap64 (x1 + 1)) + 1)) + 1))) (⟨x1, wrap64 (x1 + 1), ⟨⟨wrap64 ((wrap64 (x1 + 1)) + 1), wrap64 ((wrap64 ((wrap64 (x1 + 1)) + 1)) + 1)⟩, y.f2.f1⟩⟩ : S37) rfl rfl; replace hc : w10.cell? ⟨g, i.toNat * 5 + 3, none⟩ = some (.int .i64 (⟨x1, wrap64 (x1 + 1), ⟨⟨wrap64 ((wrap64 (x1 + 1)) + 1), y.f2.f0.f1⟩, y.f2.f1⟩⟩ : S37).f2.f0.f1) := hc; replace hf : w10.frozen? ⟨g, i.toNat * 5 + 3, none⟩ = false := hf; refine store_event (t := 3) (p := 41) (v := ?vo3) (w1 := (w10.setCell ⟨g, i.toNat * 5 + 3, none⟩ (.int .i64 (wrap64 ((wrap64 ((wrap64 (x1 + 1)) + 1)) + 1))))) ?hg ?ho ?hn ?hr ?_; (case ho => rfl); (case hg => rfl); (case hn => rfl); (case hr => first | (go_simp; done) | (go_simp; rfl)); intro w11 hw; replace hG : w10.grownBy w11 (some g) := (by rw [hw]; exact hG); replace hR : Kd.R k37 37 w11 w0.heap.size (fun k_ => (P0_ k_ ∨ w.heap.size ≤ k_)) (.slice (some ⟨g, 0, none⟩) xs.length cap) (xs.set i.toNat (⟨x1, wrap64 (x1 + 1), ⟨⟨wrap64 ((wrap64 (x1 + 1)) + 1), wrap64 ((wrap64 ((wrap64 (x1 + 1)) + 1)) + 1)⟩, y.f2.f1⟩⟩ : S37)) := (by rw [hw]; exact hR); replace HB := az ((by rw [hw]; exact below_set (HB.out) GB.out : Below w0.heap.size w0 w11)); replace HK := az (Kept.of_grown (S := (fun k_ => P0_ k_)) hG HK.out (fun k_ e_ => by cases e_; exact HO.out)); replace HX := az hR; clear hc hf hG hR hw) | ((with_reducible refine gate_store (t := 3) (p := 49) rfl ?_); obtain ⟨hc, hf, hR, hG⟩ := el_set (d := k37) z37 (fun y : S37 => [.int .i64 y.f0, .int .i64 y.f1, .int .i64 y.f2.f0.f0, .int .i64 y.f2.f0.f1, .int .i64 y.f2.f1]) (fun h => k37_openM h) (fun w b o y => k37_mkM w b o y) i (x := (⟨x1, wrap64 (x1 + 1), ⟨⟨wrap64 ((wrap64 (x1 + 1)) + 1), wrap64 ((wrap64 ((wrap64 (x1 + 1)) + 1)) + 1)⟩, y.f2.f1⟩⟩ : S37)) HX.out C4.out C3.out 4 (.int .i64 (⟨x1, wrap64 (x1 + 1), ⟨⟨wrap64 ((wrap64 (x1 + 1)) + 1), wrap64 ((wrap64 ((wrap64 (x1 + 1)) + 1)) + 1)⟩, y.f2.f1⟩⟩ : S37).f2.f1) (.int .i64 (wrap64 ((wrap64 ((wrap64 ((wrap64 (x1 + 1)) + 1)) + 1)) + 1))) (⟨x1, wrap64 (x1 + 1), ⟨⟨wrap64 ((wrap64 (x1 + 1)) + 1), wrap64 ((wrap64 ((wrap64 (x1 + 1)) + 1)) + 1)⟩, wrap64 ((wrap64 ((wrap64 ((wrap64 (x1 + 1)) + 1)) + 1)) + 1)⟩⟩ : S37) rfl rfl; replace hc : w11.cell? ⟨g, i.toNat * 5 + 4, none⟩ = some (.int .i64 (⟨x1, wrap64 (x1 + 1), ⟨⟨wrap64 ((wrap64 (x1 + 1)) + 1), wrap64 ((wrap64 ((wrap64 (x1 + 1)) + 1)) + 1)⟩, y.f2.f1⟩⟩ : S37).f2.f1) := hc; replace hf : w11.frozen? ⟨g, i.toNat * 5 + 4, none⟩ = false := hf; refine store_event (t := 3) (p := 49) (v := ?vo4) (w1 := (w11.setCell ⟨g, i.toNat * 5 + 4, none⟩ (.int .i64 (wrap64 ((wrap64 ((wrap64 ((wrap64 (x1 + 1)) + 1)) + 1)) + 1))))) ?hg ?ho ?hn ?hr ?_; (case ho => rfl); (case hg => rfl); (case hn => rfl); (case hr => first | (go_simp; done) | (go_simp; rfl)); intro w12 hw; replace hG : w11.grownBy w12 (some g) := (by rw [hw]; exact hG); replace hR : Kd.R k37 37 w12 w0.heap.size (fun k_ => (P0_ k_ ∨ w.heap.size ≤ k_)) (.slice (some ⟨g, 0, none⟩) xs.length cap) (xs.set i.toNat (⟨x1, wrap64 (x1 + 1), ⟨⟨wrap64 ((wrap64 (x1 + 1)) + 1), wrap64 ((wrap64 ((wrap64 (x1 + 1)) + 1)) + 1)⟩, wrap64 ((wrap64 ((wrap64 ((wrap64 (x1 + 1)) + 1)) + 1)) + 1)⟩⟩ : S37)) := (by rw [hw]; exact hR); replace HB := az ((by rw [hw]; exact below_set (HB.out) GB.out : Below w0.heap.size w0 w12)); replace HK := az (Kept.of_grown (S := (fun k_ => P0_ k_)) hG HK.out (fun k_ e_ => by cases e_; exact HO.out)); replace HX := az hR; clear hc hf hG hR hw))
        go_roundg k1
        case measure => have := aB.out; omega
        case rel => exact ⟨_, _, _, qE, qE, H', ⟨by have := aB.out; omega⟩, HX, HK, HB⟩
      · rw [if_neg c4] at H
        exact absurd H (by simp)
    · rw [if_neg c3] at H
      have c3b : decide (i < (xs.length : Int)) = false := decide_eq_false c3
      simp only [Option.some.injEq, Prod.mk.injEq] at H
      obtain ⟨rfl, rfl⟩ := H
      obtain ⟨A, c, hs⟩ := Kd.R_slice HX.out
      subst hs
      go_wp2
      go_ret
      exact ⟨qE, HX.out, HB.out, HK.out⟩

/-! ### laws_heldContactS: function 35 -/
def laws_heldContactS.l0 : Nat → List (S37) → Int → Int → Option (Int)
  | 0, _, _, _ => none
  | k + 1, x0, x1, x5 => if x5 < (x0.length : Int) then (if 0 ≤ x5 then (if ((rd_T37 x0 x5).f0) = x1 then (if ((rd_T37 x0 x5).f1) = (wrap64 (x1 + 1)) then (if ((rd_T37 x0 x5).f2.f0.f0) = (wrap64 ((wrap64 (x1 + 1)) + 1)) then (if ((rd_T37 x0 x5).f2.f0.f1) = (wrap64 ((wrap64 ((wrap64 (x1 + 1)) + 1)) + 1)) then (if ((rd_T37 x0 x5).f2.f1) = (wrap64 ((wrap64 ((wrap64 ((wrap64 (x1 + 1)) + 1)) + 1)) + 1)) then (laws_heldContactS.l0 k x0 (wrap64 ((wrap64 ((wrap64 ((wrap64 ((wrap64 (x1 + 1)) + 1)) + 1)) + 1)) + 1)) (wrap64 (x5 + 1))) else (some (-1))) else (some (-1))) else (some (-1))) else (some (-1))) else (some (-1))) else (none)) else (some x1)
def laws_heldContactS.f (k : Nat) (l0 : List (S37)) (a1 : Int) : Option (Int) := laws_heldContactS.l0 k l0 a1 0
theorem laws_heldContactS.mono_l : ∀ k, (∀ y0 y1 y2, LeO (laws_heldContactS.l0 k y0 y1 y2) (laws_heldContactS.l0 (k + 1) y0 y1 y2))
  | 0 => fun _ _ _ r h => by simp [laws_heldContactS.l0] at h
  | k + 1 => by
    have ih0 := laws_heldContactS.mono_l k
    · intro y0 y1 y2
      unfold laws_heldContactS.l0
      repeat' first
      | (with_reducible exact ih0 _ _ _)
      | (with_reducible exact LeO.refl _)
      | (with_reducible exact LeO.none _)
      | (with_reducible refine LeO.ite ?_ ?_)
      | (with_reducible refine LeO.bind ?_ (fun _ => ?_))
theorem laws_heldContactS.mono : ∀ a0 a1 k, LeO (laws_heldContactS.f k a0 a1) (laws_heldContactS.f (k + 1) a0 a1) := by
  intro a0 a1 k
  have ih0 := laws_heldContactS.mono_l k
  unfold laws_heldContactS.f
  repeat' first
      | (with_reducible exact ih0 _ _ _)
      | (with_reducible exact LeO.refl _)
      | (with_reducible exact LeO.none _)
      | (with_reducible refine LeO.ite ?_ ?_)
      | (with_reducible refine LeO.bind ?_ (fun _ => ?_))
set_option maxHeartbeats 8000000 in
set_option maxRecDepth 100000 in
theorem laws_heldContactS.calls (k : Nat) (A0 : Option Addr) (c0 : Nat) (l0 : List (S37)) (a1 : Int) (r : Int) (w : World) (hr0 : Kd.C k37 w A0 l0.length l0) (hc0 : l0.length ≤ c0) (h : laws_heldContactS.f k l0 a1 = some r) :
    Calls Try.prog 35 #[.slice A0 l0.length c0, .int .i64 a1] w fun e w' => e = .returned (.int .i64 r) ∧ Drawn0 w w' := by
  have HR0 := az hr0; have bQ := az hc0; clear hr0 hc0; have H : (laws_heldContactS.l0 k l0 a1 0) = some r := h; clear h; have H' := az H; clear H; go_enter Try.func35, Try.ntmps35; go_wp2
  go_loopg [1, 5] k (fun kq v1 v5 w' => ∃ (a3 : Int) (a2 : Int), v1 = .int .i64 a3 ∧ v5 = .int .i64 a2 ∧ Aside0 (laws_heldContactS.l0 kq l0 a3 a2 = some r) ∧ Aside0 (kq ≤ k) ∧ Drawn0 w w')
  case atStart => exact ⟨(a1), (0), qG, qG, H', ⟨Nat.le_refl _⟩, by repeat (first | exact Drawn0.refl _ | apply Drawn0.step)⟩
  case round =>
    clear H'
    try clear p2
    obtain ⟨a3, a2, rfl, rfl, HA, bD, ⟨m1, rfl⟩⟩ := hrel
    cases gk with
    | zero => exact absurd HA.out (by simp [laws_heldContactS.l0])
    | succ k1 => ?_
    have H := HA.out; clear HA; simp only [laws_heldContactS.l0] at H; by_cases c3 : a2 < (l0.length : Int)
    · rw [if_pos c3] at H; have bE : decide (a2 < (l0.length : Int)) = true := decide_eq_true c3; clear c3; by_cases c4 : 0 ≤ a2
      · rw [if_pos c4] at H; have bP : decide (0 ≤ a2) = true := decide_eq_true c4; clear c4; by_cases c5 : ((rd_T37 l0 a2).f0) = a3
        · rw [if_pos c5] at H; have bF : (((rd_T37 l0 a2).f0) == a3) = true := beq_iff_eq.mpr c5; have bG : (((rd_T37 l0 a2).f0) != a3) = false := bne_eq_false_iff_eq.mpr c5; clear c5; by_cases c6 : ((rd_T37 l0 a2).f1) = (wrap64 (a3 + 1))
          · rw [if_pos c6] at H; have bH : (((rd_T37 l0 a2).f1) == (wrap64 (a3 + 1))) = true := beq_iff_eq.mpr c6; have bI : (((rd_T37 l0 a2).f1) != (wrap64 (a3 + 1))) = false := bne_eq_false_iff_eq.mpr c6; clear c6; by_cases c7 : ((rd_T37 l0 a2).f2.f0.f0) = (wrap64 ((wrap64 (a3 + 1)) + 1))
            · rw [if_pos c7] at H; have bJ : (((rd_T37 l0 a2).f2.f0.f0) == (wrap64 ((wrap64 (a3 + 1)) + 1))) = true := beq_iff_eq.mpr c7; have bK : (((rd_T37 l0 a2).f2.f0.f0) != (wrap64 ((wrap64 (a3 + 1)) + 1))) = false := bne_eq_false_iff_eq.mpr c7; clear c7; by_cases c8 : ((rd_T37 l0 a2).f2.f0.f1) = (wrap64 ((wrap64 ((wrap64 (a3 + 1)) + 1)) + 1))
              · rw [if_pos c8] at H; have bL : (((rd_T37 l0 a2).f2.f0.f1) == (wrap64 ((wrap64 ((wrap64 (a3 + 1)) + 1)) + 1))) = true := beq_iff_eq.mpr c8; have bM : (((rd_T37 l0 a2).f2.f0.f1) != (wrap64 ((wrap64 ((wrap64 (a3 + 1)) + 1)) + 1))) = false := bne_eq_false_iff_eq.mpr c8; clear c8; by_cases c9 : ((rd_T37 l0 a2).f2.f1) = (wrap64 ((wrap64 ((wrap64 ((wrap64 (a3 + 1)) + 1)) + 1)) + 1))
                · rw [if_pos c9] at H; have bN : (((rd_T37 l0 a2).f2.f1) == (wrap64 ((wrap64 ((wrap64 ((wrap64 (a3 + 1)) + 1)) + 1)) + 1))) = true := beq_iff_eq.mpr c9; have bO : (((rd_T37 l0 a2).f2.f1) != (wrap64 ((wrap64 ((wrap64 ((wrap64 (a3 + 1)) + 1)) + 1)) + 1))) = false := bne_eq_false_iff_eq.mpr c9; clear c9; have H' := az H; clear H; have a4 : 0 ≤ (a2 : Int) := qD; have a5 : a2 < (l0.length : Int) := qD; obtain ⟨a6, aB, aG, aH, aI, aJ, aK⟩ := at_T37 HR0.out a2 a4 a5; cases aB; replace a4 := eq_true a4; replace a5 := eq_true a5; have a7 : 0 ≤ (a2 : Int) := qD; have a8 : a2 < (l0.length : Int) := qD; obtain ⟨aC, aF, aM, aN, aO, aP, aQ⟩ := at_T37 HR0.out a2 a7 a8; obtain rfl : a6 = aC := (by injection aF); replace a7 := eq_true a7; replace a8 := eq_true a8; have a9 : 0 ≤ (a2 : Int) := qD; have aA : a2 < (l0.length : Int) := qD; obtain ⟨aL, aR, aV, aW, aX, aY, aZ⟩ := at_T37 HR0.out a2 a9 aA; obtain rfl : a6 = aL := (by injection aR); replace a9 := eq_true a9; replace aA := eq_true aA; have aD : 0 ≤ (a2 : Int) := qD; have aE : a2 < (l0.length : Int) := qD; obtain ⟨aU, b0, b1, b2, b3, b4, b5⟩ := at_T37 HR0.out a2 aD aE; obtain rfl : a6 = aU := (by injection b0); replace aD := eq_true aD; replace aE := eq_true aE; have aS : 0 ≤ (a2 : Int) := qD; have aT : a2 < (l0.length : Int) := qD; obtain ⟨b6, b7, b8, b9, bA, bB, bC⟩ := at_T37 HR0.out a2 aS aT; obtain rfl : a6 = b6 := (by injection b7); replace aS := eq_true aS; replace aT := eq_true aT; go_wp2
                  go_roundg k1
                  case measure => have := bD.out; omega
                  case rel => exact ⟨(wrap64 ((wrap64 ((wrap64 ((wrap64 ((wrap64 (a3 + 1)) + 1)) + 1)) + 1)) + 1)), (wrap64 (a2 + 1)), qG, qG, H', ⟨by have := bD.out; omega⟩, by repeat (first | exact Drawn0.refl _ | apply Drawn0.step)⟩
                rw [if_neg c9] at H; have bN : (((rd_T37 l0 a2).f2.f1) == (wrap64 ((wrap64 ((wrap64 ((wrap64 (a3 + 1)) + 1)) + 1)) + 1))) = false := beq_eq_false_iff_ne.mpr c9; have bO : (((rd_T37 l0 a2).f2.f1) != (wrap64 ((wrap64 ((wrap64 ((wrap64 (a3 + 1)) + 1)) + 1)) + 1))) = true := bne_iff_ne.mpr c9; obtain rfl := Option.some.inj H; have a4 : 0 ≤ (a2 : Int) := qD; have a5 : a2 < (l0.length : Int) := qD; obtain ⟨a6, aB, aG, aH, aI, aJ, aK⟩ := at_T37 HR0.out a2 a4 a5; cases aB; replace a4 := eq_true a4; replace a5 := eq_true a5; have a7 : 0 ≤ (a2 : Int) := qD; have a8 : a2 < (l0.length : Int) := qD; obtain ⟨aC, aF, aM, aN, aO, aP, aQ⟩ := at_T37 HR0.out a2 a7 a8; obtain rfl : a6 = aC := (by injection aF); replace a7 := eq_true a7; replace a8 := eq_true a8; have a9 : 0 ≤ (a2 : Int) := qD; have aA : a2 < (l0.length : Int) := qD; obtain ⟨aL, aR, aV, aW, aX, aY, aZ⟩ := at_T37 HR0.out a2 a9 aA; obtain rfl : a6 = aL := (by injection aR); replace a9 := eq_true a9; replace aA := eq_true aA; have aD : 0 ≤ (a2 : Int) := qD; have aE : a2 < (l0.length : Int) := qD; obtain ⟨aU, b0, b1, b2, b3, b4, b5⟩ := at_T37 HR0.out a2 aD aE; obtain rfl : a6 = aU := (by injection b0); replace aD := eq_true aD; replace aE := eq_true aE; have aS : 0 ≤ (a2 : Int) := qD; have aT : a2 < (l0.length : Int) := qD; obtain ⟨b6, b7, b8, b9, bA, bB, bC⟩ := at_T37 HR0.out a2 aS aT; obtain rfl : a6 = b6 := (by injection b7); replace aS := eq_true aS; replace aT := eq_true aT; go_wp2
                go_ret
                exact ⟨by first | rfl | (simp; done) | (simp [*]; done), by repeat (first | exact Drawn0.refl _ | apply Drawn0.step)⟩
              rw [if_neg c8] at H; have bL : (((rd_T37 l0 a2).f2.f0.f1) == (wrap64 ((wrap64 ((wrap64 (a3 + 1)) + 1)) + 1))) = false := beq_eq_false_iff_ne.mpr c8; have bM : (((rd_T37 l0 a2).f2.f0.f1) != (wrap64 ((wrap64 ((wrap64 (a3 + 1)) + 1)) + 1))) = true := bne_iff_ne.mpr c8; obtain rfl := Option.some.inj H; have a4 : 0 ≤ (a2 : Int) := qD; have a5 : a2 < (l0.length : Int) := qD; obtain ⟨a6, aB, aG, aH, aI, aJ, aK⟩ := at_T37 HR0.out a2 a4 a5; cases aB; replace a4 := eq_true a4; replace a5 := eq_true a5; have a7 : 0 ≤ (a2 : Int) := qD; have a8 : a2 < (l0.length : Int) := qD; obtain ⟨aC, aF, aM, aN, aO, aP, aQ⟩ := at_T37 HR0.out a2 a7 a8; obtain rfl : a6 = aC := (by injection aF); replace a7 := eq_true a7; replace a8 := eq_true a8; have a9 : 0 ≤ (a2 : Int) := qD; have aA : a2 < (l0.length : Int) := qD; obtain ⟨aL, aR, aV, aW, aX, aY, aZ⟩ := at_T37 HR0.out a2 a9 aA; obtain rfl : a6 = aL := (by injection aR); replace a9 := eq_true a9; replace aA := eq_true aA; have aD : 0 ≤ (a2 : Int) := qD; have aE : a2 < (l0.length : Int) := qD; obtain ⟨aU, b0, b1, b2, b3, b4, b5⟩ := at_T37 HR0.out a2 aD aE; obtain rfl : a6 = aU := (by injection b0); replace aD := eq_true aD; replace aE := eq_true aE; go_wp2
              go_ret
              exact ⟨by first | rfl | (simp; done) | (simp [*]; done), by repeat (first | exact Drawn0.refl _ | apply Drawn0.step)⟩
            rw [if_neg c7] at H; have bJ : (((rd_T37 l0 a2).f2.f0.f0) == (wrap64 ((wrap64 (a3 + 1)) + 1))) = false := beq_eq_false_iff_ne.mpr c7; have bK : (((rd_T37 l0 a2).f2.f0.f0) != (wrap64 ((wrap64 (a3 + 1)) + 1))) = true := bne_iff_ne.mpr c7; obtain rfl := Option.some.inj H; have a4 : 0 ≤ (a2 : Int) := qD; have a5 : a2 < (l0.length : Int) := qD; obtain ⟨a6, aB, aG, aH, aI, aJ, aK⟩ := at_T37 HR0.out a2 a4 a5; cases aB; replace a4 := eq_true a4; replace a5 := eq_true a5; have a7 : 0 ≤ (a2 : Int) := qD; have a8 : a2 < (l0.length : Int) := qD; obtain ⟨aC, aF, aM, aN, aO, aP, aQ⟩ := at_T37 HR0.out a2 a7 a8; obtain rfl : a6 = aC := (by injection aF); replace a7 := eq_true a7; replace a8 := eq_true a8; have a9 : 0 ≤ (a2 : Int) := qD; have aA : a2 < (l0.length : Int) := qD; obtain ⟨aL, aR, aV, aW, aX, aY, aZ⟩ := at_T37 HR0.out a2 a9 aA; obtain rfl : a6 = aL := (by injection aR); replace a9 := eq_true a9; replace aA := eq_true aA; go_wp2
            go_ret
            exact ⟨by first | rfl | (simp; done) | (simp [*]; done), by repeat (first | exact Drawn0.refl _ | apply Drawn0.step)⟩
          rw [if_neg c6] at H; have bH : (((rd_T37 l0 a2).f1) == (wrap64 (a3 + 1))) = false := beq_eq_false_iff_ne.mpr c6; have bI : (((rd_T37 l0 a2).f1) != (wrap64 (a3 + 1))) = true := bne_iff_ne.mpr c6; obtain rfl := Option.some.inj H; have a4 : 0 ≤ (a2 : Int) := qD; have a5 : a2 < (l0.length : Int) := qD; obtain ⟨a6, aB, aG, aH, aI, aJ, aK⟩ := at_T37 HR0.out a2 a4 a5; cases aB; replace a4 := eq_true a4; replace a5 := eq_true a5; have a7 : 0 ≤ (a2 : Int) := qD; have a8 : a2 < (l0.length : Int) := qD; obtain ⟨aC, aF, aM, aN, aO, aP, aQ⟩ := at_T37 HR0.out a2 a7 a8; obtain rfl : a6 = aC := (by injection aF); replace a7 := eq_true a7; replace a8 := eq_true a8; go_wp2
          go_ret
          exact ⟨by first | rfl | (simp; done) | (simp [*]; done), by repeat (first | exact Drawn0.refl _ | apply Drawn0.step)⟩
        rw [if_neg c5] at H; have bF : (((rd_T37 l0 a2).f0) == a3) = false := beq_eq_false_iff_ne.mpr c5; have bG : (((rd_T37 l0 a2).f0) != a3) = true := bne_iff_ne.mpr c5; obtain rfl := Option.some.inj H; have a4 : 0 ≤ (a2 : Int) := qD; have a5 : a2 < (l0.length : Int) := qD; obtain ⟨a6, aB, aG, aH, aI, aJ, aK⟩ := at_T37 HR0.out a2 a4 a5; cases aB; replace a4 := eq_true a4; replace a5 := eq_true a5; go_wp2
        go_ret
        exact ⟨by first | rfl | (simp; done) | (simp [*]; done), by repeat (first | exact Drawn0.refl _ | apply Drawn0.step)⟩
      rw [if_neg c4] at H; exact absurd H (by simp)
    rw [if_neg c3] at H; have bE : decide (a2 < (l0.length : Int)) = false := decide_eq_false c3; clear c3; obtain rfl := Option.some.inj H; go_wp2
    go_ret
    exact ⟨by first | rfl | (simp; done) | (simp [*]; done), by repeat (first | exact Drawn0.refl _ | apply Drawn0.step)⟩
end Go.Proofs.Ytdngjedhbnoaoaa.PBig
