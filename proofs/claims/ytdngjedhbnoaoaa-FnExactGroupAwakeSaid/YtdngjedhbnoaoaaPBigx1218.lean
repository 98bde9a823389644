/- What these functions compute, each walked once: laws_markBoolS, laws_heldBoolS; for all arguments and worlds, under the conditions that each theorem names. -/
import Derived.Test.YtdngjedhbnoaoaaSq
namespace Go.Proofs.Ytdngjedhbnoaoaa.PBig
open Go.RowKit Go.Proofs.YtdngjedhbnoaoaaW.PrintWords Go.Proofs.YtdngjedhbnoaoaaW.PrintLast Go.Proofs.YtdngjedhbnoaoaaW.PrintMore
attribute [local go_sem] max2_int min2_int max_two min_two max_three min_three max_four min_four   -- for this text's walks alone
set_option linter.unusedVariables false
set_option linter.unusedSimpArgs false

/-! ### laws_markBoolS: function 40 -/
def laws_markBoolS.l0 : Nat → List Bool → Int → Int → Option (Int × List Bool)
  | 0, _, _, _ => none
  | k + 1, x0, x1, x5 => if x5 < (x0.length : Int) then (if 0 ≤ x5 then (laws_markBoolS.l0 k (x0.set (x5 : Int).toNat ((Int.tmod x1 3) == 0)) (wrap64 (x1 + 1)) (wrap64 (x5 + 1))) else (none)) else (some (x1, x0))
def laws_markBoolS.f (k : Nat) (l0 : List Bool) (a1 : Int) : Option (Int × List Bool) := laws_markBoolS.l0 k l0 a1 0
theorem laws_markBoolS.mono_l : ∀ k, (∀ y0 y1 y2, LeO (laws_markBoolS.l0 k y0 y1 y2) (laws_markBoolS.l0 (k + 1) y0 y1 y2))
  | 0 => fun _ _ _ r h => by simp [laws_markBoolS.l0] at h
  | k + 1 => by
    have ih0 := laws_markBoolS.mono_l k
    · intro y0 y1 y2
      unfold laws_markBoolS.l0
      repeat' first
      | (with_reducible exact ih0 _ _ _)
      | (with_reducible exact LeO.refl _)
      | (with_reducible exact LeO.none _)
      | (with_reducible refine LeO.ite ?_ ?_)
      | (with_reducible refine LeO.bind ?_ (fun _ => ?_))
theorem laws_markBoolS.mono : ∀ a0 a1 k, LeO (laws_markBoolS.f k a0 a1) (laws_markBoolS.f (k + 1) a0 a1) := by
  intro a0 a1 k
  have ih0 := laws_markBoolS.mono_l k
  unfold laws_markBoolS.f
  repeat' first
      | (with_reducible exact ih0 _ _ _)
      | (with_reducible exact LeO.refl _)
      | (with_reducible exact LeO.none _)
      | (with_reducible refine LeO.ite ?_ ?_)
      | (with_reducible refine LeO.bind ?_ (fun _ => ?_))
set_option maxHeartbeats 8000000 in
set_option maxRecDepth 100000 in
theorem laws_markBoolS.calls (k : Nat) (P0_ : Nat → Prop) (a5 : Value) (l0 : List Bool) (a1 : Int) (r1 : Int) (r2 : List Bool) (w0 w : World) (hB : Below w0.heap.size w0 w) (aI : Kd.R Kd.bool 4 w w0.heap.size P0_ a5 l0) (h : laws_markBoolS.f k l0 a1 = some (r1, r2)) :
    Calls Try.prog 40 #[a5, .int .i64 a1] w fun e w' => e = .returned (.int .i64 r1) ∧ Kd.R Kd.bool 4 w' w0.heap.size (fun k_ => (P0_ k_ ∨ w.heap.size ≤ k_)) a5 r2 ∧ Below w0.heap.size w0 w' ∧ Kept w w' (fun k_ => P0_ k_) := by
  have aJ := az (show Kd.R Kd.bool 4 w w0.heap.size (fun k_ => (P0_ k_ ∨ w.heap.size ≤ k_)) a5 l0 from Kd.R_mono aI (fun k_ hk => (.inl hk))); have HK := az (Kept.refl w (fun k_ => P0_ k_)); have HW0 := az hB.size; have HB := az hB; clear hB; have H : (laws_markBoolS.l0 k l0 a1 0) = some (r1, r2) := h; clear h; have H' := az H; clear H; go_enter Try.func40, Try.ntmps40; go_wp2
  go_loopg [1, 5] k (fun kq v1 v5 w' => ∃ (a3 : List Bool) (a6 : Int) (a2 : Int), v1 = .int .i64 a6 ∧ v5 = .int .i64 a2 ∧ Aside0 (laws_markBoolS.l0 kq a3 a6 a2 = some (r1, r2)) ∧ Aside0 (kq ≤ k) ∧ Aside0 (Kd.R Kd.bool 4 w' w0.heap.size (fun k_ => (P0_ k_ ∨ w.heap.size ≤ k_)) a5 a3) ∧ Aside0 (Kept w w' (fun k_ => P0_ k_)) ∧ Aside0 (Below w0.heap.size w0 w'))
  case atStart => exact ⟨(l0), (a1), (0), qG, qG, H', ⟨Nat.le_refl _⟩, ⟨qR aJ⟩, ⟨by repeat (first | (with_reducible first | exact HK.out | apply Kept.alloc | apply Kept.drewN | apply Kept.drew) | exact HK.out)⟩, ⟨qL HB⟩⟩
  case round =>
    clear H'
    try clear p2
    obtain ⟨a3, a6, a2, rfl, rfl, HA, aE, a4, HK, HB⟩ := hrel
    cases gk with
    | zero => exact absurd HA.out (by simp [laws_markBoolS.l0])
    | succ k1 => ?_
    have H := HA.out; clear HA; simp only [laws_markBoolS.l0] at H; by_cases a8 : a2 < (a3.length : Int); rw [if_pos a8] at H; have aC : decide (a2 < (a3.length : Int)) = true := decide_eq_true a8; clear a8; replace H := qif H; obtain ⟨aB, H⟩ := H; have aH : decide (0 ≤ a2) = true := decide_eq_true aB; clear aB; obtain ⟨a9, a7⟩ : ∃ y_ : List Bool, y_ = (a3.set (a2 : Int).toNat ((Int.tmod a6 3) == 0)) := ⟨_, rfl⟩
    replace H : (laws_markBoolS.l0 k1 a9 (wrap64 (a6 + 1)) (wrap64 (a2 + 1))) = some (r1, r2) := by first | (rw [a7]; with_reducible exact H) | (have H2_ := (Option.bind_some _ _).symm.trans H; rw [a7]; with_reducible exact H2_) | (have H2_ := (Option.bind_some _ _).symm.trans H; with_reducible exact H2_) | with_reducible exact H | (rw [a7]; exact H) | exact H
    have aD := az a7; clear a7; have H' := az H; clear H; refine ?L1; rotate_left; rw [if_neg a8] at H; have aC : decide (a2 < (a3.length : Int)) = false := decide_eq_false a8; clear a8; simp only [Option.some.injEq, Prod.mk.injEq] at H; obtain ⟨rfl, rfl⟩ := H; refine ?L2
    rotate_right
    case' L1 | L2 =>
      obtain ⟨aO, aK, aL⟩ := Kd.R_slice a4.out; subst aL
    case L1 =>
      have p5 : 0 ≤ (a2 : Int) := qD; have q5 : (a2 : Int) < ((a3.length : Int) : Int) := qD; obtain ⟨aA, aP, aF, aG, aM, cl5, HG5⟩ := Kd.R_form a4.out (by omega); (first | cases aF | (injection aF with ea_ en_ ec_; (first | subst ea_ | (injection ea_ with ea_; subst ea_)); subst ec_; clear en_)); have GB5 := az aG; have GG5 := az HG5; clear aG aM HG5; have HMgo5 := az (show (P0_ aA ∨ w.heap.size ≤ aA) from (a4.out.1 _ rfl)); obtain ⟨aN, hf5_0⟩ := Kd.R_celln false a4.out (a2 : Int) p5 q5; replace p5 := eq_true p5; replace q5 := eq_true q5; have HP7 := Kd.R_putg a4.out (a2 : Int) ((Int.tmod a6 3) == 0); go_wp2_with (first | ((with_reducible refine gate_store (t := 4) (p := 17) rfl ?_); refine store_event (t := 4) (p := 17) (v := ?vo_w8) (w1 := (wr.setCell ⟨aA, (a2 : Int).toNat, none⟩ (.bool ((Int.tmod a6 3) == 0)))) ?hg ?ho ?hn ?hr ?_; (case ho => rfl); (case hg => rfl); (case hn => rfl); (case hr => first | (go_simp; done) | (go_simp; rfl)); intro w8 hw; have hg : wr.grownBy w8 (some aA) := (by rw [hw]; exact HP7.2); have hp_ : Kd.R Kd.bool 4 w8 w0.heap.size (fun k_ => (P0_ k_ ∨ w.heap.size ≤ k_)) (.slice (some ⟨aA, 0, none⟩) a3.length aK) a9 := (by rw [hw, aD.out]; exact HP7.1); clear HP7; replace HB := az ((by rw [hw]; exact below_set (HB.out) GB5.out : Below w0.heap.size w0 w8)); replace HK := az (Kept.of_grown (S := (fun k_ => P0_ k_)) hg (by repeat (first | (with_reducible first | exact HK.out | apply Kept.alloc | apply Kept.drewN | apply Kept.drew) | exact HK.out)) (fun k_ e_ => (a4.out.1 k_ e_))); replace a4 := az (hp_); clear hg hw hp_))
      go_roundg k1
      case measure => have := aE.out; omega
      exact ⟨(a9), (wrap64 (a6 + 1)), (wrap64 (a2 + 1)), qG, qG, H', ⟨by have := aE.out; omega⟩, ⟨qR a4⟩, ⟨by repeat (first | (with_reducible first | exact HK.out | apply Kept.alloc | apply Kept.drewN | apply Kept.drew) | exact HK.out)⟩, ⟨qL HB⟩⟩
    case L2 =>
      go_wp2
      go_ret
      exact ⟨qE, qR a4, qL HB, by repeat (first | (with_reducible first | exact HK.out | apply Kept.alloc | apply Kept.drewN | apply Kept.drew) | exact HK.out)⟩
      

/-! ### laws_heldBoolS: function 41 -/
def laws_heldBoolS.l0 : Nat → List Bool → Int → Int → Option (Int)
  | 0, _, _, _ => none
  | k + 1, x0, x1, x5 => if x5 < (x0.length : Int) then (if 0 ≤ x5 then (if ((rdOf false x0 x5) != ((Int.tmod x1 3) == 0)) = true then (some (-1)) else (laws_heldBoolS.l0 k x0 (wrap64 (x1 + 1)) (wrap64 (x5 + 1)))) else (none)) else (some x1)
def laws_heldBoolS.f (k : Nat) (l0 : List Bool) (a1 : Int) : Option (Int) := laws_heldBoolS.l0 k l0 a1 0
theorem laws_heldBoolS.mono_l : ∀ k, (∀ y0 y1 y2, LeO (laws_heldBoolS.l0 k y0 y1 y2) (laws_heldBoolS.l0 (k + 1) y0 y1 y2))
  | 0 => fun _ _ _ r h => by simp [laws_heldBoolS.l0] at h
  | k + 1 => by
    have ih0 := laws_heldBoolS.mono_l k
    · intro y0 y1 y2
      unfold laws_heldBoolS.l0
      repeat' first
      | (with_reducible exact ih0 _ _ _)
      | (with_reducible exact LeO.refl _)
      | (with_reducible exact LeO.none _)
      | (with_reducible refine LeO.ite ?_ ?_)
      | (with_reducible refine LeO.bind ?_ (fun _ => ?_))
theorem laws_heldBoolS.mono : ∀ a0 a1 k, LeO (laws_heldBoolS.f k a0 a1) (laws_heldBoolS.f (k + 1) a0 a1) := by
  intro a0 a1 k
  have ih0 := laws_heldBoolS.mono_l k
  unfold laws_heldBoolS.f
  repeat' first
      | (with_reducible exact ih0 _ _ _)
      | (with_reducible exact LeO.refl _)
      | (with_reducible exact LeO.none _)
      | (with_reducible refine LeO.ite ?_ ?_)
      | (with_reducible refine LeO.bind ?_ (fun _ => ?_))
set_option maxHeartbeats 8000000 in
set_option maxRecDepth 100000 in
theorem laws_heldBoolS.calls (k : Nat) (A0 : Option Addr) (c0 : Nat) (l0 : List Bool) (a1 : Int) (r : Int) (w : World) (hr0 : Kd.C Kd.bool w A0 l0.length l0) (hc0 : l0.length ≤ c0) (h : laws_heldBoolS.f k l0 a1 = some r) :
    Calls Try.prog 41 #[.slice A0 l0.length c0, .int .i64 a1] w fun e w' => e = .returned (.int .i64 r) ∧ Drawn0 w w' := by
  have HR0 := az hr0; have aG := az hc0; clear hr0 hc0; have H : (laws_heldBoolS.l0 k l0 a1 0) = some r := h; clear h; have H' := az H; clear H; go_enter Try.func41, Try.ntmps41; go_wp2
  go_loopg [1, 5] k (fun kq v1 v5 w' => ∃ (a3 : Int) (a2 : Int), v1 = .int .i64 a3 ∧ v5 = .int .i64 a2 ∧ Aside0 (laws_heldBoolS.l0 kq l0 a3 a2 = some r) ∧ Aside0 (kq ≤ k) ∧ Drawn0 w w')
  case atStart => exact ⟨(a1), (0), qG, qG, H', ⟨Nat.le_refl _⟩, by repeat (first | exact Drawn0.refl _ | apply Drawn0.step)⟩
  case round =>
    clear H'
    try clear p2
    obtain ⟨a3, a2, rfl, rfl, HA, a9, ⟨m1, rfl⟩⟩ := hrel
    cases gk with
    | zero => exact absurd HA.out (by simp [laws_heldBoolS.l0])
    | succ k1 => ?_
    have H := HA.out; clear HA; simp only [laws_heldBoolS.l0] at H; by_cases c3 : a2 < (l0.length : Int)
    · rw [if_pos c3] at H; have aA : decide (a2 < (l0.length : Int)) = true := decide_eq_true c3; clear c3; by_cases c4 : 0 ≤ a2
      · rw [if_pos c4] at H; have aE : decide (0 ≤ a2) = true := decide_eq_true c4; clear c4; by_cases c5 : ((rdOf false l0 a2) != ((Int.tmod a3 3) == 0)) = true
        · rw [if_pos c5] at H; have aB : ((rdOf false l0 a2) != ((Int.tmod a3 3) == 0)) = true := c5; (try (have aC : decide ((rdOf false l0 a2) = ((Int.tmod a3 3) == 0)) = false := by simpa using c5)); (try (have aD : ((rdOf false l0 a2) == ((Int.tmod a3 3) == 0)) = false := by simpa using c5)); (try (have aF : ¬ ((rdOf false l0 a2) = ((Int.tmod a3 3) == 0)) := by simpa using c5)); clear c5; obtain rfl := Option.some.inj H; have a4 : 0 ≤ (a2 : Int) := qD; have a5 : a2 < (l0.length : Int) := qD; obtain ⟨a8, a6, a7⟩ := Kd.at_bool HR0.out a2 a4 a5; cases a6; replace a4 := eq_true a4; replace a5 := eq_true a5; go_wp2
          go_ret
          exact ⟨by first | rfl | (simp; done) | (simp [*]; done), by repeat (first | exact Drawn0.refl _ | apply Drawn0.step)⟩
        rw [if_neg c5] at H
        have aB : ((rdOf false l0 a2) != ((Int.tmod a3 3) == 0)) = false := by simpa using c5
        (try (have aC : decide ((rdOf false l0 a2) = ((Int.tmod a3 3) == 0)) = true := by simpa using c5)); (try (have aD : ((rdOf false l0 a2) == ((Int.tmod a3 3) == 0)) = true := by simpa using c5)); clear c5; have H' := az H; clear H; have a4 : 0 ≤ (a2 : Int) := qD; have a5 : a2 < (l0.length : Int) := qD; obtain ⟨a8, a6, a7⟩ := Kd.at_bool HR0.out a2 a4 a5; cases a6; replace a4 := eq_true a4; replace a5 := eq_true a5; go_wp2
        go_roundg k1
        case measure => have := a9.out; omega
        case rel => exact ⟨(wrap64 (a3 + 1)), (wrap64 (a2 + 1)), qG, qG, H', ⟨by have := a9.out; omega⟩, by repeat (first | exact Drawn0.refl _ | apply Drawn0.step)⟩
      rw [if_neg c4] at H; exact absurd H (by simp)
    rw [if_neg c3] at H; have aA : decide (a2 < (l0.length : Int)) = false := decide_eq_false c3; clear c3; obtain rfl := Option.some.inj H; go_wp2
    go_ret
    exact ⟨by first | rfl | (simp; done) | (simp [*]; done), by repeat (first | exact Drawn0.refl _ | apply Drawn0.step)⟩
end Go.Proofs.Ytdngjedhbnoaoaa.PBig
