/- What these functions compute, each walked once: impl_GroupAwake; for all arguments and worlds, under the conditions that each theorem names. -/
import Derived.Test.YtdngjedhbnoaoaaSq
import Derived.Test.YtdngjedhbnoaoaaPBigx1200
import Derived.Test.YtdngjedhbnoaoaaPBigx1206
namespace Go.Proofs.Ytdngjedhbnoaoaa.PBig
open Go.RowKit Go.Proofs.YtdngjedhbnoaoaaW.PrintWords Go.Proofs.YtdngjedhbnoaoaaW.PrintLast Go.Proofs.YtdngjedhbnoaoaaW.PrintMore
attribute [local go_sem] max2_int min2_int max_two min_two max_three min_three max_four min_four   -- for this text's walks alone
set_option linter.unusedVariables false
set_option linter.unusedSimpArgs false

/-! ### impl_GroupAwake: function 20 -/
def impl_GroupAwake.l0 : Nat → List (S41) → List Bool → List Int → Int → Int → Option (List Bool)
  | 0, _, _, _, _, _ => none
  | k + 1, x0, x3, x7, x8, x9 => if x9 < x8 then (if 0 ≤ x9 then (if x9 < (x7.length : Int) then (if (rd x7 x9) = (x3.length : Int) then (if x3.length < 140737488355328 then ((some (x3 ++ [false] : List Bool)).bind fun aU => (if (rd x7 x9) ≥ 0 then (if x9 < (x0.length : Int) then ((impl_Body_sleeps.f ((rd_T41 x0 x9).f0) ((rd_T41 x0 x9).f1.f0) ((rd_T41 x0 x9).f1.f1) ((rd_T41 x0 x9).f1.f2) ((rd_T41 x0 x9).f2.f0) ((rd_T41 x0 x9).f2.f1) ((rd_T41 x0 x9).f3.f0) ((rd_T41 x0 x9).f3.f1) ((rd_T41 x0 x9).f4) ((rd_T41 x0 x9).f5) ((rd_T41 x0 x9).f6) ((rd_T41 x0 x9).f7)).bind fun bG => (if bG = true then (impl_GroupAwake.l0 k x0 aU x7 x8 (wrap64 (x9 + 1))) else (if 0 ≤ (rd x7 x9) then (if (rd x7 x9) < (aU.length : Int) then (impl_GroupAwake.l0 k x0 (aU.set ((rd x7 x9) : Int).toNat true) x7 x8 (wrap64 (x9 + 1))) else (none)) else (none)))) else (none)) else (impl_GroupAwake.l0 k x0 aU x7 x8 (wrap64 (x9 + 1))))) else (none)) else (if (rd x7 x9) ≥ 0 then (if x9 < (x0.length : Int) then ((impl_Body_sleeps.f ((rd_T41 x0 x9).f0) ((rd_T41 x0 x9).f1.f0) ((rd_T41 x0 x9).f1.f1) ((rd_T41 x0 x9).f1.f2) ((rd_T41 x0 x9).f2.f0) ((rd_T41 x0 x9).f2.f1) ((rd_T41 x0 x9).f3.f0) ((rd_T41 x0 x9).f3.f1) ((rd_T41 x0 x9).f4) ((rd_T41 x0 x9).f5) ((rd_T41 x0 x9).f6) ((rd_T41 x0 x9).f7)).bind fun cG => (if cG = true then (impl_GroupAwake.l0 k x0 x3 x7 x8 (wrap64 (x9 + 1))) else (if 0 ≤ (rd x7 x9) then (if (rd x7 x9) < (x3.length : Int) then (impl_GroupAwake.l0 k x0 (x3.set ((rd x7 x9) : Int).toNat true) x7 x8 (wrap64 (x9 + 1))) else (none)) else (none)))) else (none)) else (impl_GroupAwake.l0 k x0 x3 x7 x8 (wrap64 (x9 + 1))))) else (none)) else (none)) else (some x3)
def impl_GroupAwake.f (k : Nat) (l0 : List (S41)) : Option (List Bool) := (impl_Groups.f k l0).bind fun a2 => (impl_GroupAwake.l0 k l0 ([] : List Bool) a2 (a2.length : Int) 0)
theorem impl_GroupAwake.mono_l : ∀ k, (∀ y0 y1 y2 y3 y4, LeO (impl_GroupAwake.l0 k y0 y1 y2 y3 y4) (impl_GroupAwake.l0 (k + 1) y0 y1 y2 y3 y4))
  | 0 => fun _ _ _ _ _ r h => by simp [impl_GroupAwake.l0] at h
  | k + 1 => by
    have ih0 := impl_GroupAwake.mono_l k
    · intro y0 y1 y2 y3 y4
      unfold impl_GroupAwake.l0
      repeat' first
      | (with_reducible exact ih0 _ _ _ _ _)
      | (with_reducible exact impl_Groups.mono _ _)
      | (with_reducible exact LeO.refl _)
      | (with_reducible exact LeO.none _)
      | (with_reducible refine LeO.ite ?_ ?_)
      | (with_reducible refine LeO.bind ?_ (fun _ => ?_))
theorem impl_GroupAwake.mono : ∀ a0 k, LeO (impl_GroupAwake.f k a0) (impl_GroupAwake.f (k + 1) a0) := by
  intro a0 k
  have ih0 := impl_GroupAwake.mono_l k
  unfold impl_GroupAwake.f
  repeat' first
      | (with_reducible exact ih0 _ _ _ _ _)
      | (with_reducible exact impl_Groups.mono _ _)
      | (with_reducible exact LeO.refl _)
      | (with_reducible exact LeO.none _)
      | (with_reducible refine LeO.ite ?_ ?_)
      | (with_reducible refine LeO.bind ?_ (fun _ => ?_))
set_option maxHeartbeats 8000000 in
set_option maxRecDepth 100000 in
theorem impl_GroupAwake.calls (k : Nat) (A0 : Option Addr) (c0 : Nat) (l0 : List (S41)) (r : List Bool) (w : World) (hr0 : Kd.C k41 w A0 l0.length l0) (hc0 : l0.length ≤ c0) (h : impl_GroupAwake.f k l0 = some r) :
    Calls Try.prog 20 #[.slice A0 l0.length c0] w fun e w' => ∃ cL : Value, e = .returned (cL) ∧ Kd.R Kd.bool 4 w' w.heap.size (fun _ => True) cL r ∧ Below w.heap.size w w' := by
  have hu41 := Try.underlying41; have HR0 := az hr0; have cW := az hc0; clear hr0 hc0; have HB := az (Below.refl w.heap.size w); have H : ((impl_Groups.f k l0).bind fun a2 => (impl_GroupAwake.l0 k l0 ([] : List Bool) a2 (a2.length : Int) 0)) = some r := h; clear h; replace H := qH H; obtain ⟨a2, A2, H⟩ := H
  try dsimp only at H
  have H' := az H; clear H; go_enter Try.func20, Try.ntmps20; go_wp2_with (first | ((with_reducible refine gate_callee (f := 14) rfl ?_); refine gl (some 7) Try.func14 #[.slice A0 l0.length c0] ?_; (with_reducible refine (impl_Groups.calls k _ _ l0 a2 _ ?side1 ?side2 A2.out).mono ?_); (case side1 => repeat (first | exact HR0.out | (with_reducible refine Kd.C_alloc ?_ _) | (with_reducible refine Kd.C_drewN ?_ _) | (with_reducible refine Kd.C_drew ?_))); (case side2 => exact cW.out); rintro e w3 ⟨dF, rfl, cM, hb⟩; refine ⟨_, rfl, ?_⟩; have bT := az (Kd.R_lower cM (below_size (qL HB))); replace HB := bS HB hb; clear hb; (try clear cM); obtain ⟨cX, cY, cZ⟩ := Kd.R_slice bT.out; subst cZ))
  go_loopg [3, 9] k (fun kq v3 v9 w' => ∃ (a6 : List Bool) (a1 : Int), v9 = .int .i64 a1 ∧ Aside0 (impl_GroupAwake.l0 kq l0 a6 a2 (a2.length : Int) a1 = some r) ∧ Aside0 (kq ≤ k) ∧ Aside0 (Kd.R Kd.bool 4 w' w.heap.size (fun _ => True) v3 a6) ∧ Aside0 (Kd.R (Kd.int .i64) 3 w' w.heap.size (fun _ => True) (.slice cX a2.length cY) a2) ∧ Aside0 (Below w.heap.size w w'))
  case atStart => exact ⟨(([] : List Bool)), (0), qG, H', ⟨Nat.le_refl _⟩, ⟨by first | exact Kd.R_nil _ _ _ _ _ | exact Kd.N_nil _ _ _ _ _ | exact Kd.V_nil _ _ _ _ _ | exact Kd.Q_nil _ _ _ _ _ | exact Kd.S_nil _ _ _ _ _⟩, ⟨qR bT⟩, ⟨qL HB⟩⟩
  case round =>
    clear H'; obtain ⟨a6, a1, rfl, HA, aE, a5, a3, HB⟩ := hrel
    cases gk with
    | zero => exact absurd HA.out (by simp [impl_GroupAwake.l0])
    | succ k1 => ?_
    have H := HA.out; clear HA; simp only [impl_GroupAwake.l0] at H; by_cases aA : a1 < (a2.length : Int); rw [if_pos aA] at H; have bF : decide (a1 < (a2.length : Int)) = true := decide_eq_true aA; clear aA; replace H := qif H; obtain ⟨bU, H⟩ := H; have cT : decide (0 ≤ a1) = true := decide_eq_true bU; clear bU; replace H := qif H; obtain ⟨aA, H⟩ := H; have bF : decide (a1 < (a2.length : Int)) = true := decide_eq_true aA; clear aA; by_cases aD : (rd a2 a1) = (a6.length : Int); rw [if_pos aD] at H; have bY : ((rd a2 a1) == (a6.length : Int)) = true := beq_iff_eq.mpr aD; have bZ : ((rd a2 a1) != (a6.length : Int)) = false := bne_eq_false_iff_eq.mpr aD; clear aD; replace H := qif H; obtain ⟨bV, H⟩ := H; have LMc7003 := az bV; clear bV; obtain ⟨a7, a8⟩ : ∃ y_ : List Bool, y_ = (a6 ++ [false]) := ⟨_, rfl⟩
    replace H : (if (rd a2 a1) ≥ 0 then (if a1 < (l0.length : Int) then ((impl_Body_sleeps.f ((rd_T41 l0 a1).f0) ((rd_T41 l0 a1).f1.f0) ((rd_T41 l0 a1).f1.f1) ((rd_T41 l0 a1).f1.f2) ((rd_T41 l0 a1).f2.f0) ((rd_T41 l0 a1).f2.f1) ((rd_T41 l0 a1).f3.f0) ((rd_T41 l0 a1).f3.f1) ((rd_T41 l0 a1).f4) ((rd_T41 l0 a1).f5) ((rd_T41 l0 a1).f6) ((rd_T41 l0 a1).f7)).bind fun bG => (if bG = true then (impl_GroupAwake.l0 k1 l0 a7 a2 (a2.length : Int) (wrap64 (a1 + 1))) else (if 0 ≤ (rd a2 a1) then (if (rd a2 a1) < (a7.length : Int) then (impl_GroupAwake.l0 k1 l0 (a7.set ((rd a2 a1) : Int).toNat true) a2 (a2.length : Int) (wrap64 (a1 + 1))) else (none)) else (none)))) else (none)) else (impl_GroupAwake.l0 k1 l0 a7 a2 (a2.length : Int) (wrap64 (a1 + 1)))) = some r := by first | (rw [a8]; with_reducible exact H) | (have H2_ := (Option.bind_some _ _).symm.trans H; rw [a8]; with_reducible exact H2_) | (have H2_ := (Option.bind_some _ _).symm.trans H; with_reducible exact H2_) | with_reducible exact H | (rw [a8]; exact H) | exact H
    have aH := az a8; clear a8; by_cases a9 : (rd a2 a1) ≥ 0; rw [if_pos a9] at H; have aM : decide (0 ≤ (rd a2 a1)) = true := decide_eq_true a9; clear a9; replace H := qif H; obtain ⟨aI, H⟩ := H; have c1 : decide (a1 < (l0.length : Int)) = true := decide_eq_true aI; clear aI; replace H := qH H; obtain ⟨bH, aJ, H⟩ := H
    try dsimp only at H
    by_cases aC : bH = true; subst aC; replace H := qT H; have H' := az H; clear H; refine ?L1; rotate_left; replace aC := Bool.eq_false_iff.mpr aC; subst aC; replace H := qU H; replace H := qif H; obtain ⟨aK, H⟩ := H; have c2 : decide (0 ≤ (rd a2 a1)) = true := decide_eq_true aK; clear aK; replace H := qif H; obtain ⟨bW, H⟩ := H; have cU : decide ((rd a2 a1) < (a7.length : Int)) = true := decide_eq_true bW; clear bW; obtain ⟨bI, aG⟩ : ∃ y_ : List Bool, y_ = (a7.set ((rd a2 a1) : Int).toNat true) := ⟨_, rfl⟩
    replace H : (impl_GroupAwake.l0 k1 l0 bI a2 (a2.length : Int) (wrap64 (a1 + 1))) = some r := by first | (rw [aG]; with_reducible exact H) | (have H2_ := (Option.bind_some _ _).symm.trans H; rw [aG]; with_reducible exact H2_) | (have H2_ := (Option.bind_some _ _).symm.trans H; with_reducible exact H2_) | with_reducible exact H | (rw [aG]; exact H) | exact H
    have c3 := az aG; clear aG; have H' := az H; clear H; refine ?L2
    rotate_right
    rotate_left 2
    rw [if_neg a9] at H; have aM : decide (0 ≤ (rd a2 a1)) = false := decide_eq_false a9; clear a9; have H' := az H; clear H; refine ?L3
    rotate_right 2
    rotate_left 3
    rw [if_neg aD] at H; have bY : ((rd a2 a1) == (a6.length : Int)) = false := beq_eq_false_iff_ne.mpr aD; have bZ : ((rd a2 a1) != (a6.length : Int)) = true := bne_iff_ne.mpr aD; by_cases a9 : (rd a2 a1) ≥ 0; rw [if_pos a9] at H; have aM : decide (0 ≤ (rd a2 a1)) = true := decide_eq_true a9; clear a9; replace H := qif H; obtain ⟨aI, H⟩ := H; have c1 : decide (a1 < (l0.length : Int)) = true := decide_eq_true aI; clear aI; replace H := qH H; obtain ⟨bH, aJ, H⟩ := H
    try dsimp only at H
    by_cases aC : bH = true; subst aC; replace H := qT H; have H' := az H; clear H; refine ?L4; rotate_left; replace aC := Bool.eq_false_iff.mpr aC; subst aC; replace H := qU H; replace H := qif H; obtain ⟨aK, H⟩ := H; have c2 : decide (0 ≤ (rd a2 a1)) = true := decide_eq_true aK; clear aK; replace H := qif H; obtain ⟨bX, H⟩ := H; have cV : decide ((rd a2 a1) < (a6.length : Int)) = true := decide_eq_true bX; clear bX; obtain ⟨a7, a8⟩ : ∃ y_ : List Bool, y_ = (a6.set ((rd a2 a1) : Int).toNat true) := ⟨_, rfl⟩
    replace H : (impl_GroupAwake.l0 k1 l0 a7 a2 (a2.length : Int) (wrap64 (a1 + 1))) = some r := by first | (rw [a8]; with_reducible exact H) | (have H2_ := (Option.bind_some _ _).symm.trans H; rw [a8]; with_reducible exact H2_) | (have H2_ := (Option.bind_some _ _).symm.trans H; with_reducible exact H2_) | with_reducible exact H | (rw [a8]; exact H) | exact H
    have aH := az a8; clear a8; have H' := az H; clear H; refine ?L5
    rotate_right
    rotate_left 2
    rw [if_neg a9] at H; have aM : decide (0 ≤ (rd a2 a1)) = false := decide_eq_false a9; clear a9; have H' := az H; clear H; refine ?L6
    rotate_right 2
    rotate_right 3
    rotate_left 6
    rw [if_neg aA] at H; have bF : decide (a1 < (a2.length : Int)) = false := decide_eq_false aA; clear aA; obtain rfl := Option.some.inj H; refine ?L7
    rotate_right 6
    case' L1 | L2 | L3 | L4 | L5 | L6 =>
      have bJ : 0 ≤ (a1 : Int) := qD; have bK : a1 < (a2.length : Int) := qD; obtain ⟨dA, cH, cP⟩ := Kd.at_int (Kd.R_reads' a3.out).2.2 a1 bJ bK; cases cH; replace bJ := eq_true bJ; replace bK := eq_true bK; obtain ⟨c4, bL, cQ⟩ := Kd.R_slice a5.out; subst cQ
    case' L1 | L2 =>
      go_wp2_with (first | ((with_reducible refine gate_builtin (b := .append) (xs := #[.tmp 18, .tmp 19]) rfl ?_); at_builtin; refine Kd.R_append Kd.bool (w0 := w) w.heap.size rfl (.tmp 18) (.tmp 19) 31 4 (.bool false) 1 rfl Try.underlying31 info4 rfl (by decide) (by omega) (.slice c4 a6.length bL) a6 false [.bool false] (fun _ => True) (fun _ => False) rfl rfl ?aP (fun _ hk => hk.elim) ?aF ?aO ?aB ?aS ?aL ?_; (case aP => exact rfl); (case aB => exact (qL HB)); (case aF => exact (fun _ _ => trivial)); (case aO => exact (qR a5)); (case aS => exact (below_size (qL HB))); (case aL => have := LMc7003.out; omega); intro cI dJ ho hb hg hat; rw [← aH.out] at ho; have a4 := az (ho); replace a3 := az (Kd.R_over' (qR a3) (Kd.R_typed (qR a5)) (by decide) hg); replace HB := az hb; clear a5 ho hb hg hat; have bM : 0 ≤ (a1 : Int) := qD; have bN : a1 < (l0.length : Int) := qD; obtain ⟨dB, cJ, aV, aW, aX, aY, aZ, b0, b1, b2, b3, b4, aN, aQ⟩ := at_T41 HR0.out a1 bM bN; cases cJ; obtain ⟨aV, aW, aX, aY, aZ, b0, b1, b2, b3, b4, aN, aQ⟩ := hB12 HB aV aW aX aY aZ b0 b1 b2 b3 b4 aN aQ; replace bM := eq_true bM; replace bN := eq_true bN) | (go_at_call 56; (with_reducible refine (impl_Body_sleeps.calls ((rd_T41 l0 a1).f0) ((rd_T41 l0 a1).f1.f0) ((rd_T41 l0 a1).f1.f1) ((rd_T41 l0 a1).f1.f2) ((rd_T41 l0 a1).f2.f0) ((rd_T41 l0 a1).f2.f1) ((rd_T41 l0 a1).f3.f0) ((rd_T41 l0 a1).f3.f1) ((rd_T41 l0 a1).f4) ((rd_T41 l0 a1).f5) ((rd_T41 l0 a1).f6) ((rd_T41 l0 a1).f7) true _ aJ.out).mono ?_); rintro e dK ⟨rfl, hb⟩; replace a3 := az (Kd.R_below (qR a3) hb); replace a4 := az (Kd.R_below (qR a4) hb); replace HB := bS HB hb; clear hb) | (go_at_call 56; (with_reducible refine (impl_Body_sleeps.calls ((rd_T41 l0 a1).f0) ((rd_T41 l0 a1).f1.f0) ((rd_T41 l0 a1).f1.f1) ((rd_T41 l0 a1).f1.f2) ((rd_T41 l0 a1).f2.f0) ((rd_T41 l0 a1).f2.f1) ((rd_T41 l0 a1).f3.f0) ((rd_T41 l0 a1).f3.f1) ((rd_T41 l0 a1).f4) ((rd_T41 l0 a1).f5) ((rd_T41 l0 a1).f6) ((rd_T41 l0 a1).f7) false _ aJ.out).mono ?_); rintro e cN ⟨rfl, hb⟩; replace a3 := az (Kd.R_below (qR a3) hb); replace a4 := az (Kd.R_below (qR a4) hb); replace HB := bS HB hb; clear hb; have c5 : 0 ≤ ((rd a2 a1) : Int) := qD; have c6 : ((rd a2 a1) : Int) < ((a7.length : Int) : Int) := qD; obtain ⟨bO, c7, c8, c9, cR, cl19, HG19⟩ := Kd.R_form a4.out (by omega); (first | cases c8 | (injection c8 with ea_ en_ ec_; (first | subst ea_ | (injection ea_ with ea_; subst ea_)); subst ec_; clear en_)); have GB19 := az c9; have GG19 := az HG19; clear c9 cR HG19; obtain ⟨dC, hf19_0⟩ := Kd.R_celln false a4.out ((rd a2 a1) : Int) c5 c6; replace c5 := eq_true c5; replace c6 := eq_true c6; obtain ⟨dG, hz23_⟩ := Kd.R_celln false a4.out ((rd a2 a1) : Int) (of_decide_eq_true (by first | (with_reducible assumption) | assumption)) (of_decide_eq_true (by first | (with_reducible assumption) | assumption)); have HP23 := Kd.R_putg a4.out ((rd a2 a1) : Int) true) | ((with_reducible refine gate_store (t := 4) (p := 33) rfl ?_); refine store_event (t := 4) (p := 33) (v := ?vo_w24) (w1 := (cN.setCell ⟨bO, ((rd a2 a1) : Int).toNat, none⟩ (.bool true))) ?hg ?ho ?hn ?hr ?_; (case ho => rfl); (case hg => rfl); (case hn => rfl); (case hr => first | (go_simp; done) | (go_simp; rfl)); intro cA hw; have hg : cN.grownBy cA (some bO) := (by rw [hw]; exact HP23.2); have hp_ : Kd.R Kd.bool 4 cA w.heap.size (fun _ => True) (.slice (some ⟨bO, 0, none⟩) a7.length c7) bI := (by rw [hw, c3.out]; exact HP23.1); clear HP23; replace a3 := az (Kd.R_over' (v := (.slice (some ⟨bO, 0, none⟩) a7.length c7)) (qR a3) (Kd.R_typed a4.out) (by decide) hg); replace a4 := az (hp_); replace HB := az ((by rw [hw]; exact below_set (HB.out) GB19.out : Below w.heap.size w cA)); clear hg hw hp_))
      go_roundg k1
      case measure => have := aE.out; omega
    case L1 =>
      exact ⟨(a7), (wrap64 (a1 + 1)), qG, H', ⟨by have := aE.out; omega⟩, ⟨qR a4⟩, ⟨qR a3⟩, ⟨qL HB⟩⟩
    case L2 =>
      exact ⟨(bI), (wrap64 (a1 + 1)), qG, H', ⟨by have := aE.out; omega⟩, ⟨qR a4⟩, ⟨qR a3⟩, ⟨qL HB⟩⟩
    case L3 =>
      go_wp2_with (first | ((with_reducible refine gate_builtin (b := .append) (xs := #[.tmp 18, .tmp 19]) rfl ?_); at_builtin; refine Kd.R_append Kd.bool (w0 := w) w.heap.size rfl (.tmp 18) (.tmp 19) 31 4 (.bool false) 1 rfl Try.underlying31 info4 rfl (by decide) (by omega) (.slice c4 a6.length bL) a6 false [.bool false] (fun _ => True) (fun _ => False) rfl rfl ?aP (fun _ hk => hk.elim) ?aF ?aO ?aB ?aS ?aL ?_; (case aP => exact rfl); (case aB => exact (qL HB)); (case aF => exact (fun _ _ => trivial)); (case aO => exact (qR a5)); (case aS => exact (below_size (qL HB))); (case aL => have := LMc7003.out; omega); intro cI dL ho hb hg hat; rw [← aH.out] at ho; have a4 := az (ho); replace a3 := az (Kd.R_over' (qR a3) (Kd.R_typed (qR a5)) (by decide) hg); replace HB := az hb; clear a5 ho hb hg hat))
      go_roundg k1
      case measure => have := aE.out; omega
      exact ⟨(a7), (wrap64 (a1 + 1)), qG, H', ⟨by have := aE.out; omega⟩, ⟨qR a4⟩, ⟨qR a3⟩, ⟨qL HB⟩⟩
    case' L4 | L5 =>
      have bP : 0 ≤ (a1 : Int) := qD; have bQ : a1 < (l0.length : Int) := qD; obtain ⟨dD, cK, b5, b6, b7, b8, b9, bA, bB, bC, bD, bE, aR, aT⟩ := at_T41 HR0.out a1 bP bQ; cases cK; obtain ⟨b5, b6, b7, b8, b9, bA, bB, bC, bD, bE, aR, aT⟩ := hB12 HB b5 b6 b7 b8 b9 bA bB bC bD bE aR aT; replace bP := eq_true bP; replace bQ := eq_true bQ
    case L4 =>
      go_wp2_with (first | (go_at_call 56; (with_reducible refine (impl_Body_sleeps.calls ((rd_T41 l0 a1).f0) ((rd_T41 l0 a1).f1.f0) ((rd_T41 l0 a1).f1.f1) ((rd_T41 l0 a1).f1.f2) ((rd_T41 l0 a1).f2.f0) ((rd_T41 l0 a1).f2.f1) ((rd_T41 l0 a1).f3.f0) ((rd_T41 l0 a1).f3.f1) ((rd_T41 l0 a1).f4) ((rd_T41 l0 a1).f5) ((rd_T41 l0 a1).f6) ((rd_T41 l0 a1).f7) true _ aJ.out).mono ?_); rintro e dM ⟨rfl, hb⟩; replace a5 := az (Kd.R_below (qR a5) hb); replace a3 := az (Kd.R_below (qR a3) hb); replace HB := bS HB hb; clear hb))
      go_roundg k1
      case measure => have := aE.out; omega
      exact ⟨(a6), (wrap64 (a1 + 1)), qG, H', ⟨by have := aE.out; omega⟩, ⟨qR a5⟩, ⟨qR a3⟩, ⟨qL HB⟩⟩
    case L5 =>
      go_wp2_with (first | (go_at_call 56; (with_reducible refine (impl_Body_sleeps.calls ((rd_T41 l0 a1).f0) ((rd_T41 l0 a1).f1.f0) ((rd_T41 l0 a1).f1.f1) ((rd_T41 l0 a1).f1.f2) ((rd_T41 l0 a1).f2.f0) ((rd_T41 l0 a1).f2.f1) ((rd_T41 l0 a1).f3.f0) ((rd_T41 l0 a1).f3.f1) ((rd_T41 l0 a1).f4) ((rd_T41 l0 a1).f5) ((rd_T41 l0 a1).f6) ((rd_T41 l0 a1).f7) false _ aJ.out).mono ?_); rintro e cO ⟨rfl, hb⟩; replace a5 := az (Kd.R_below (qR a5) hb); replace a3 := az (Kd.R_below (qR a3) hb); replace HB := bS HB hb; clear hb; have cB : 0 ≤ ((rd a2 a1) : Int) := qD; have cC : ((rd a2 a1) : Int) < ((a6.length : Int) : Int) := qD; obtain ⟨bR, dI, cD, cE, cS, cl35, HG35⟩ := Kd.R_form a5.out (by omega); (first | cases cD | (injection cD with ea_ en_ ec_; (first | subst ea_ | (injection ea_ with ea_; subst ea_)); subst ec_; clear en_)); have GB35 := az cE; have GG35 := az HG35; clear cE cS HG35; obtain ⟨dE, hf35_0⟩ := Kd.R_celln false a5.out ((rd a2 a1) : Int) cB cC; replace cB := eq_true cB; replace cC := eq_true cC; obtain ⟨dH, hz38_⟩ := Kd.R_celln false a5.out ((rd a2 a1) : Int) (of_decide_eq_true (by first | (with_reducible assumption) | assumption)) (of_decide_eq_true (by first | (with_reducible assumption) | assumption)); have HP38 := Kd.R_putg a5.out ((rd a2 a1) : Int) true) | ((with_reducible refine gate_store (t := 4) (p := 33) rfl ?_); refine store_event (t := 4) (p := 33) (v := ?vo_w39) (w1 := (cO.setCell ⟨bR, ((rd a2 a1) : Int).toNat, none⟩ (.bool true))) ?hg ?ho ?hn ?hr ?_; (case ho => rfl); (case hg => rfl); (case hn => rfl); (case hr => first | (go_simp; done) | (go_simp; rfl)); intro cF hw; have hg : cO.grownBy cF (some bR) := (by rw [hw]; exact HP38.2); have hp_ : Kd.R Kd.bool 4 cF w.heap.size (fun _ => True) (.slice (some ⟨bR, 0, none⟩) a6.length bL) a7 := (by rw [hw, aH.out]; exact HP38.1); clear HP38; replace a3 := az (Kd.R_over' (v := (.slice (some ⟨bR, 0, none⟩) a6.length bL)) (qR a3) (Kd.R_typed a5.out) (by decide) hg); replace a5 := az (hp_); replace HB := az ((by rw [hw]; exact below_set (HB.out) GB35.out : Below w.heap.size w cF)); clear hg hw hp_))
      go_roundg k1
      case measure => have := aE.out; omega
      exact ⟨(a7), (wrap64 (a1 + 1)), qG, H', ⟨by have := aE.out; omega⟩, ⟨qR a5⟩, ⟨qR a3⟩, ⟨qL HB⟩⟩
    case L6 =>
      go_wp2
      go_roundg k1
      case measure => have := aE.out; omega
      exact ⟨(a6), (wrap64 (a1 + 1)), qG, H', ⟨by have := aE.out; omega⟩, ⟨qR a5⟩, ⟨qR a3⟩, ⟨qL HB⟩⟩
    case L7 =>
      go_wp2
      go_ret
      exact ⟨_, qE, qR a5, qL HB⟩
      
end Go.Proofs.Ytdngjedhbnoaoaa.PBig
