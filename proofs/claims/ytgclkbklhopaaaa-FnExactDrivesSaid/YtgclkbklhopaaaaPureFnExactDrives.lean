/- FnExactDrives: what the program computes is what the reference computes, or has the law's properties, at all whole numbers and lists that the statement lets in; no further condition. -/
import Derived.Test.YtgclkbklhopaaaaStFnExactDrives
import Derived.Test.YtgclkbklhopaaaaMath
namespace Go.Proofs.Ytgclkbklhopaaaa.Pure
open Go.RowKit Go.Proofs.Ytgclkbklhopaaaa.PFnExactDrives Go.Proofs.YtgclkbklhopaaaaW.PrintWords Go.Proofs.YtgclkbklhopaaaaW.PrintLast Go.Proofs.YtgclkbklhopaaaaW.PrintMore Go.Proofs.Ytgclkbklhopaaaa.Math
set_option linter.unusedVariables false
set_option linter.unusedSimpArgs false

theorem spec_l1In_eq (a l h : Int) : spec_l1In.f a l h = some (inB a l h) := by
  unfold spec_l1In.f inB
  split <;> simp <;> omega

theorem spec_ShapeOk_eq (k w h : Int) : spec_ShapeOk.f k w h = some (shapeOk k w h) := by
  unfold spec_ShapeOk.f shapeOk
  simp only [spec_l1In_eq, Option.bind_some]
  by_cases h1 : k = 1
  · rw [if_pos h1, if_pos h1]; cases inB w 1 25600 <;> simp
  · rw [if_neg h1, if_neg h1]
    by_cases h2 : k = 2
    · rw [if_pos h2, if_pos h2]; cases inB w 1 25600 <;> simp
    · rw [if_neg h2, if_neg h2]

theorem spec_l3Place_eq (a b : Int) : spec_l3Place.f a b = some (place a b) := by
  unfold spec_l3Place.f place
  simp only [spec_l1In_eq, Option.bind_some]
  cases inB a (-2560000) 2560000 <;> simp

def drv (x y : Int) : Bool := inB x (-20000000) 20000000 && inB y (-20000000) 20000000

theorem spec_l6Drive_eq (a b : Int) : spec_l6Drive.f a b = some (drv a b) := by
  unfold spec_l6Drive.f drv
  simp only [spec_l1In_eq, Option.bind_some]
  cases inB a (-20000000) 20000000 <;> simp

def rest0 (dx dy m q : Int) : Bool := if m = 0 then (dx == 0 && (dy == 0)) && (q == 0) else decide (q < 8) || (dx == 0 && (dy == 0))
def bodyOk (i sk sw sh ax ay dx dy m bo ru q : Int) : Bool :=
  inB i 0 999999999 && (shapeOk sk sw sh && (place ax ay && (drv dx dy && (inB m 0 1000 && (inB bo 0 256 && (inB ru 0 256 && (inB q 0 8 && rest0 dx dy m q)))))))

theorem spec_BodyOk_eq {k : Nat} (hk : 0 < k) (i sk sw sh ax ay dx dy m bo ru q : Int) : spec_BodyOk.f k i sk sw sh ax ay dx dy m bo ru q = some (bodyOk i sk sw sh ax ay dx dy m bo ru q) := by
  obtain ⟨k, rfl⟩ : ∃ m, k = m + 1 := ⟨k - 1, by omega⟩
  unfold spec_BodyOk.f bodyOk
  simp only [spec_l1In_eq, spec_ShapeOk_eq, spec_l3Place_eq, spec_l6Drive_eq, Option.bind_some, spec_BodyOk.j0]
  cases inB i 0 999999999
  · simp
  cases shapeOk sk sw sh
  · simp
  cases place ax ay
  · simp
  cases drv dx dy
  · simp
  cases inB m 0 1000
  · simp
  cases inB bo 0 256
  · simp
  cases inB ru 0 256
  · simp
  cases inB q 0 8
  · simp
  unfold rest0
  by_cases hm : m = 0
  · cases hd : (dx == 0 && (dy == 0)) <;> simp [hm]
  · by_cases hq : q < 8 <;> simp [hm, hq]

def bok (x : S41) : Bool := bodyOk x.f0 x.f1.f0 x.f1.f1 x.f1.f2 x.f2.f0 x.f2.f1 x.f3.f0 x.f3.f1 x.f4 x.f5 x.f6 x.f7
/-- Are bodies ok, from a place on? -/
def chkB (l : List S41) : Nat → Int → Bool
  | 0, _ => decide ((l.length : Int) ≤ 12)
  | d + 1, i => if bok (rd_T41 l i) = true then (if i > 0 then (if (rd_T41 l (i - 1)).f0 ≥ (rd_T41 l i).f0 then false else chkB l d (i + 1)) else chkB l d (i + 1)) else false
def bodiesOk (l : List S41) : Bool := chkB l l.length 0

theorem spec_BodiesOk_loop (l : List S41) (hm : l.length ≤ 9223372036854775807) : ∀ (d k : Nat) (i : Int), d + 1 < k → 0 ≤ i → (l.length : Int) - i = d → spec_BodiesOk.l0 k l i = some (chkB l d i) := by
  intro d
  induction d with
  | zero =>
    intro k i hk h0 hd
    obtain ⟨k, rfl⟩ : ∃ m, k = m + 1 := ⟨k - 1, by omega⟩
    simp only [spec_BodiesOk.l0, chkB]
    rw [if_neg (by omega)]
  | succ d ih =>
    intro k i hk h0 hd
    obtain ⟨k, rfl⟩ : ∃ m, k = m + 1 := ⟨k - 1, by omega⟩
    have e1 : wrap64 (i + 1) = i + 1 := wrap_id (by omega) (by omega)
    simp only [spec_BodiesOk.l0, chkB]
    rw [if_pos (by omega), if_pos h0, spec_BodyOk_eq (by omega), e1]
    simp only [Option.bind_some]
    have hr := ih k (i + 1) (by omega) (by omega) (by omega)
    unfold bok
    split
    · by_cases hi : i > 0
      · have e2 : wrap64 (i - 1) = i - 1 := wrap_id (by omega) (by omega)
        rw [if_pos hi, if_pos hi, e2, if_pos (by omega), if_pos (by omega), hr]
        split <;> rfl
      · rw [if_neg hi, if_neg hi, hr]
    · rfl
theorem spec_BodiesOk_eq {k : Nat} {l : List S41} (hm : l.length ≤ 9223372036854775807) (hk : l.length + 1 < k) : spec_BodiesOk.f k l = some (bodiesOk l) :=
  spec_BodiesOk_loop l hm l.length k 0 hk (by omega) (by omega)

/-- All drives together, from a place on. -/
def sumD (l : List S41) : Nat → Int → Int → Int → Int × Int
  | 0, _, x, y => (x, y)
  | d + 1, i, x, y => sumD l d (i + 1) (wrap64 (x + (rd_T41 l i).f3.f0)) (wrap64 (y + (rd_T41 l i).f3.f1))
def drivesOf (l : List S41) : Int × Int := if bodiesOk l = true then sumD l l.length 0 0 0 else (0, 0)

theorem spec_Drives_loop (l : List S41) (hm : l.length ≤ 9223372036854775807) : ∀ (d k : Nat) (i x y : Int), d < k → 0 ≤ i → (l.length : Int) - i = d → spec_Drives.l0 k l i x y = some (sumD l d i x y) := by
  intro d
  induction d with
  | zero =>
    intro k i x y hk h0 hd
    obtain ⟨k, rfl⟩ : ∃ m, k = m + 1 := ⟨k - 1, by omega⟩
    simp only [spec_Drives.l0, sumD]
    rw [if_neg (by omega)]
  | succ d ih =>
    intro k i x y hk h0 hd
    obtain ⟨k, rfl⟩ : ∃ m, k = m + 1 := ⟨k - 1, by omega⟩
    have e1 : wrap64 (i + 1) = i + 1 := wrap_id (by omega) (by omega)
    simp only [spec_Drives.l0, sumD]
    rw [if_pos (by omega), if_pos h0, e1]
    exact ih k (i + 1) _ _ (by omega) (by omega) (by omega)
theorem spec_Drives_eq {k : Nat} {l : List S41} (hm : l.length ≤ 9223372036854775807) (hk : l.length + 1 < k) : spec_Drives.f k l = some (drivesOf l) := by
  unfold spec_Drives.f drivesOf
  rw [spec_BodiesOk_eq hm hk]
  simp only [Option.bind_some]
  split
  · exact spec_Drives_loop l hm l.length k 0 0 0 (by omega) (by omega) (by omega)
  · rfl

theorem impl_in_eq (a l h : Int) : impl_in.f a l h = some (inB a l h) := by
  unfold impl_in.f inB
  split <;> simp <;> omega

theorem impl_ShapeOk_eq (k w h : Int) : impl_ShapeOk.f k w h = some (shapeOk k w h) := by
  unfold impl_ShapeOk.f shapeOk
  simp only [impl_in_eq, Option.bind_some]
  by_cases h1 : k = 1
  · rw [if_pos h1, if_pos h1]; cases inB w 1 25600 <;> simp
  · rw [if_neg h1, if_neg h1]
    by_cases h2 : k = 2
    · rw [if_pos h2, if_pos h2]; cases inB w 1 25600 <;> simp
    · rw [if_neg h2, if_neg h2]

theorem impl_isPlace_eq (a b : Int) : impl_isPlace.f a b = some (place a b) := by
  unfold impl_isPlace.f place
  simp only [impl_in_eq, Option.bind_some]
  cases inB a (-2560000) 2560000 <;> simp

theorem impl_within_eq {a m : Int} (h0 : 0 ≤ m) (h1 : m ≤ 1000000000000) : impl_within.f a m = some (wi a m) := by
  unfold impl_within.f wi
  rw [wrap_id (by omega) (by omega), mx_eq, mn_eq]

theorem impl_Vec_clamped_eq {a b m : Int} (h0 : 0 ≤ m) (h1 : m ≤ 1000000000000) : impl_Vec_clamped.f a b m = some (wi a m, wi b m) := by
  unfold impl_Vec_clamped.f
  simp only [impl_within_eq h0 h1, Option.bind_some]
theorem impl_Vec_clamped_cl (a b : Int) : impl_Vec_clamped.f a b 1000000000 = some (cl a, cl b) := by
  rw [impl_Vec_clamped_eq (by omega) (by omega), wi_cl, wi_cl]

theorem wi_same (a m : Int) (h : 0 ≤ m) : (a == wi a m) = inB a (-m) m := by
  rw [Bool.eq_iff_iff, beq_iff_eq, inB_iff]
  unfold wi
  omega
theorem impl_isDrive_eq (a b : Int) : impl_isDrive.f a b = some (drv a b) := by
  unfold impl_isDrive.f drv
  rw [impl_Vec_clamped_eq (by omega) (by omega)]
  simp only [Option.bind_some, wi_same _ 20000000 (by omega)]

theorem impl_Body_fixed_eq (i sk sw sh ax ay dx dy m bo ru q : Int) : impl_Body_fixed.f i sk sw sh ax ay dx dy m bo ru q = some (m == 0) := rfl

theorem impl_Body_sleeps_eq (i sk sw sh ax ay dx dy m bo ru q : Int) : impl_Body_sleeps.f i sk sw sh ax ay dx dy m bo ru q = some (q == 8) := rfl

theorem impl_BodyOk_eq {k : Nat} (hk : 1 < k) (i sk sw sh ax ay dx dy m bo ru q : Int) : impl_BodyOk.f k i sk sw sh ax ay dx dy m bo ru q = some (bodyOk i sk sw sh ax ay dx dy m bo ru q) := by
  obtain ⟨k, rfl⟩ : ∃ m, k = m + 1 + 1 := ⟨k - 2, by omega⟩
  unfold impl_BodyOk.f bodyOk
  simp only [impl_in_eq, impl_ShapeOk_eq, impl_isPlace_eq, impl_isDrive_eq, Option.bind_some, impl_BodyOk.j0, impl_BodyOk.j1, impl_Body_fixed_eq, impl_Body_sleeps_eq]
  cases inB i 0 999999999
  · simp
  cases shapeOk sk sw sh
  · simp
  cases place ax ay
  · simp
  cases drv dx dy
  · simp
  cases inB m 0 1000
  · simp
  cases inB bo 0 256
  · simp
  cases inB ru 0 256
  · simp
  cases hq8 : inB q 0 8
  · simp
  rw [inB_iff] at hq8
  unfold rest0
  by_cases hm : m = 0
  · cases hd : (dx == 0 && (dy == 0))
    · simp [hm]
    · by_cases hq : q = 0 <;> simp [hm, hq]
  · by_cases hq : q = 8
    · simp [hm, hq]
    · simp [hm, hq, show q < 8 by omega]

theorem impl_BodiesOk_loop (l : List S41) (hm : l.length ≤ 9223372036854775807) : ∀ (d k : Nat) (i : Int), d + 2 < k → 0 ≤ i → (l.length : Int) - i = d → impl_BodiesOk.l0 k l l (l.length : Int) i = some (chkB l d i) := by
  intro d
  induction d with
  | zero =>
    intro k i hk h0 hd
    obtain ⟨k, rfl⟩ : ∃ m, k = m + 1 := ⟨k - 1, by omega⟩
    simp only [impl_BodiesOk.l0, chkB]
    rw [if_neg (by omega)]
  | succ d ih =>
    intro k i hk h0 hd
    obtain ⟨k, rfl⟩ : ∃ m, k = m + 1 := ⟨k - 1, by omega⟩
    have e1 : wrap64 (i + 1) = i + 1 := wrap_id (by omega) (by omega)
    simp only [impl_BodiesOk.l0, chkB]
    rw [if_pos (by omega), if_pos h0, if_pos (by omega), impl_BodyOk_eq (by omega), e1]
    simp only [Option.bind_some]
    have hr := ih k (i + 1) (by omega) (by omega) (by omega)
    unfold bok
    split
    · by_cases hi : i > 0
      · have e2 : wrap64 (i - 1) = i - 1 := wrap_id (by omega) (by omega)
        rw [if_pos hi, if_pos hi, e2, if_pos (by omega), if_pos (by omega), hr]
        split <;> rfl
      · rw [if_neg hi, if_neg hi, hr]
    · rfl
theorem impl_BodiesOk_eq {k : Nat} {l : List S41} (hm : l.length ≤ 9223372036854775807) (hk : l.length + 2 < k) : impl_BodiesOk.f k l = some (bodiesOk l) :=
  impl_BodiesOk_loop l hm l.length k 0 hk (by omega) (by omega)

theorem impl_Vec_plus_eq (a b c d : Int) : impl_Vec_plus.f a b c d = some (wrap64 (a + c), wrap64 (b + d)) := rfl

theorem impl_Drives_loop (l : List S41) (hm : l.length ≤ 9223372036854775807) : ∀ (d k : Nat) (i x y : Int), d < k → 0 ≤ i → (l.length : Int) - i = d → impl_Drives.l0 k l (l.length : Int) i x y = some (sumD l d i x y) := by
  intro d
  induction d with
  | zero =>
    intro k i x y hk h0 hd
    obtain ⟨k, rfl⟩ : ∃ m, k = m + 1 := ⟨k - 1, by omega⟩
    simp only [impl_Drives.l0, sumD]
    rw [if_neg (by omega)]
  | succ d ih =>
    intro k i x y hk h0 hd
    obtain ⟨k, rfl⟩ : ∃ m, k = m + 1 := ⟨k - 1, by omega⟩
    have e1 : wrap64 (i + 1) = i + 1 := wrap_id (by omega) (by omega)
    simp only [impl_Drives.l0, sumD]
    rw [if_pos (by omega), if_pos h0, if_pos (by omega), impl_Vec_plus_eq, e1]
    simp only [Option.bind_some]
    exact ih k (i + 1) _ _ (by omega) (by omega) (by omega)
theorem impl_Drives_eq {k : Nat} {l : List S41} (hm : l.length ≤ 9223372036854775807) (hk : l.length + 2 < k) : impl_Drives.f k l = some (drivesOf l) := by
  unfold impl_Drives.f drivesOf
  rw [impl_BodiesOk_eq hm hk]
  simp only [Option.bind_some]
  split
  · exact impl_Drives_loop l hm l.length k 0 0 0 (by omega) (by omega) (by omega)
  · rfl

theorem laws_toBody_eq (i sk sw sh ax ay dx dy m bo ru q : Int) : laws_toBody.f i sk sw sh ax ay dx dy m bo ru q = some (i, sk, sw, sh, ax, ay, dx, dy, m, bo, ru, q) := rfl

/-- The body that a body of the statement stands for. -/
def cv (x : S37) : S41 := ⟨x.f0, ⟨x.f1.f0, x.f1.f1, x.f1.f2⟩, ⟨x.f2.f0, x.f2.f1⟩, ⟨x.f3.f0, x.f3.f1⟩, x.f4, x.f5, x.f6, x.f7⟩
theorem toBodyS_loop (l : List S37) (hm : l.length ≤ 1048576) : ∀ (d k : Nat) (i : Int) (out : List S41), d < k → 0 ≤ i → (l.length : Int) - i = d → out.length = l.length → (∀ j : Nat, (j : Int) < i → out[j]? = (l.map cv)[j]?) →
    laws_toBodyS.l0 k l out i = some (l.map cv) := by
  intro d
  induction d with
  | zero =>
    intro k i out hk h0 hd hl ho
    obtain ⟨k, rfl⟩ : ∃ m, k = m + 1 := ⟨k - 1, by omega⟩
    simp only [laws_toBodyS.l0]
    rw [if_neg (by omega)]
    congr 1
    refine List.ext_getElem? fun j => ?_
    rcases Nat.lt_or_ge j l.length with hj | hj
    · exact ho j (by omega)
    · rw [List.getElem?_eq_none (by omega), List.getElem?_eq_none (by rw [List.length_map]; omega)]
  | succ d ih =>
    intro k i out hk h0 hd hl ho
    obtain ⟨k, rfl⟩ : ∃ m, k = m + 1 := ⟨k - 1, by omega⟩
    have e1 : wrap64 (i + 1) = i + 1 := wrap_id (by omega) (by omega)
    simp only [laws_toBodyS.l0]
    rw [if_pos (by omega), if_pos h0, laws_toBody_eq]
    simp only [Option.bind_some]
    rw [if_pos (by omega), e1]
    refine ih k (i + 1) _ (by omega) (by omega) (by omega) (by rw [List.length_set]; exact hl) fun j hj => ?_
    rw [List.getElem?_set]
    by_cases hji : i.toNat = j
    · subst hji
      rw [if_pos rfl, if_pos (by omega), List.getElem?_map]
      unfold rd_T37
      rw [List.getD_eq_getElem?_getD, List.getElem?_eq_getElem (show i.toNat < l.length by omega)]
      rfl
    · rw [if_neg hji]
      exact ho j (by omega)
theorem toBodyS_eq {k : Nat} {l : List S37} (hm : l.length ≤ 1048576) (hk : l.length < k) : laws_toBodyS.f k l = some (l.map cv) := by
  unfold laws_toBodyS.f
  rw [if_pos (by omega), if_pos (by omega)]
  exact toBodyS_loop l hm l.length k 0 _ hk (by omega) (by omega) (by simp) (fun j hj => by omega)
theorem szBodyS_eq {l : List S37} (hm : l.length ≤ 9223372036854775807) : laws_szBodyS.f l 1048576 = some (if (1048576 : Int) - (l.length : Int) < 0 then (-1 : Int) else (1048576 : Int) - (l.length : Int)) := by
  unfold laws_szBodyS.f
  rw [wrap_id (by omega) (by omega)]
  split <;> rfl

theorem laws_eqVec_eq (a b c d : Int) : laws_eqVec.f a b c d = some (decide (a = c) && decide (b = d)) := by
  unfold laws_eqVec.f
  split <;> (try split) <;> simp_all

theorem eqBody_self (a b c d e f g h i j k l : Int) : laws_eqBody.f a b c d e f g h i j k l a b c d e f g h i j k l = some true := by
  unfold laws_eqBody.f laws_eqShape.f
  simp [laws_eqVec_eq]
theorem eqBodyS_loop (l : List S41) (hm : l.length ≤ 9223372036854775807) : ∀ (d k : Nat) (i : Int), d < k → 0 ≤ i → (l.length : Int) - i = d → laws_eqBodyS.l0 k l l i = some true := by
  intro d
  induction d with
  | zero =>
    intro k i hk h0 hd
    obtain ⟨k, rfl⟩ : ∃ m, k = m + 1 := ⟨k - 1, by omega⟩
    simp only [laws_eqBodyS.l0]
    rw [if_neg (by omega)]
  | succ d ih =>
    intro k i hk h0 hd
    obtain ⟨k, rfl⟩ : ∃ m, k = m + 1 := ⟨k - 1, by omega⟩
    have e1 : wrap64 (i + 1) = i + 1 := wrap_id (by omega) (by omega)
    simp only [laws_eqBodyS.l0]
    rw [if_pos (by omega), if_pos h0, if_pos (by omega), eqBody_self]
    simp only [Option.bind_some, if_true]
    rw [e1]
    exact ih k (i + 1) (by omega) (by omega) (by omega)
theorem eqBodyS_self {k : Nat} {l : List S41} (hm : l.length ≤ 9223372036854775807) (hk : l.length < k) : laws_eqBodyS.f k l l = some true := by
  unfold laws_eqBodyS.f
  rw [if_pos rfl]
  exact eqBodyS_loop l hm l.length k 0 hk (by omega) (by omega)

theorem FnExactDrives : laws_FnExactDrives.Pure := by
  intro l hm _
  unfold laws_FnExactDrives.f
  rw [szBodyS_eq hm]
  simp only [Option.bind_some]
  by_cases h : (1048576 : Int) - l.length < 0
  · exact ⟨0, by rw [if_pos h, if_pos (by omega)]⟩
  · refine ⟨l.length + 100, ?_⟩
    rw [if_neg h, if_neg (by omega)]
    rw [toBodyS_eq (by omega) (by omega)]
    simp only [Option.bind_some]
    rw [spec_Drives_eq (by rw [List.length_map]; omega) (by rw [List.length_map]; omega), impl_Drives_eq (by rw [List.length_map]; omega) (by rw [List.length_map]; omega), eqBodyS_self (by rw [List.length_map]; omega) (by rw [List.length_map]; omega)]
    simp [laws_eqVec_eq]

end Go.Proofs.Ytgclkbklhopaaaa.Pure
