/- FnExactGroupAwake: what the program computes is what the reference computes, or has the law's properties, at all whole numbers and lists that the statement lets in; no further condition. -/
import Derived.Test.YtdngjedhbnoaoaaStFnExactGroupAwake
import Derived.Test.YtdngjedhbnoaoaaMath
namespace Go.Proofs.Ytdngjedhbnoaoaa.Pure
open Go.RowKit Go.Proofs.Ytdngjedhbnoaoaa.PBig Go.Proofs.YtdngjedhbnoaoaaW.PrintWords Go.Proofs.YtdngjedhbnoaoaaW.PrintLast Go.Proofs.YtdngjedhbnoaoaaW.PrintMore Go.Proofs.Ytdngjedhbnoaoaa.Math
set_option linter.unusedVariables false
set_option linter.unusedSimpArgs false

/-! ### What hangs together -/
/-- One edge: if one end is in, both are. -/
def step1 (S : Nat → Bool) (e : Nat × Nat) : Nat → Bool := if (S e.1 || S e.2) = true then (fun j => S j || (j == e.1 || j == e.2)) else S
def pass (E : List (Nat × Nat)) (S : Nat → Bool) : Nat → Bool := E.foldl step1 S
/-- No edge leads out. -/
def Closed (E : List (Nat × Nat)) (S : Nat → Bool) : Prop := ∀ e ∈ E, S e.1 = S e.2
def passN (E : List (Nat × Nat)) : Nat → (Nat → Bool) → (Nat → Bool)
  | 0, S => S
  | k + 1, S => passN E k (pass E S)
theorem step1_mono {S : Nat → Bool} {e : Nat × Nat} {j : Nat} (h : S j = true) : step1 S e j = true := by
  unfold step1
  split
  · simp [h]
  · exact h
theorem pass_mono (E : List (Nat × Nat)) : ∀ {S : Nat → Bool} {j : Nat}, S j = true → pass E S j = true := by
  induction E with
  | nil => intro S j h; exact h
  | cons e E ih => intro S j h; exact ih (step1_mono h)
theorem step1_in {S T : Nat → Bool} {e : Nat × Nat} (hT : T e.1 = T e.2) (h : ∀ j, S j = true → T j = true) : ∀ j, step1 S e j = true → T j = true := by
  intro j hj
  unfold step1 at hj
  split at hj
  · rename_i hc
    simp only [Bool.or_eq_true, beq_iff_eq] at hj hc
    have h12 : T e.1 = true ∧ T e.2 = true := by
      rcases hc with hc | hc
      · have := h _ hc
        exact ⟨this, by rw [← hT]; exact this⟩
      · have := h _ hc
        exact ⟨by rw [hT]; exact this, this⟩
    rcases hj with hj | hj | hj
    · exact h _ hj
    · rw [hj]; exact h12.1
    · rw [hj]; exact h12.2
  · exact h _ hj
theorem pass_in {T : Nat → Bool} : ∀ (E : List (Nat × Nat)) {S : Nat → Bool}, Closed E T → (∀ j, S j = true → T j = true) → ∀ j, pass E S j = true → T j = true := by
  intro E
  induction E with
  | nil => intro S _ h; exact h
  | cons e E ih =>
    intro S hT h
    exact ih (fun x hx => hT x (List.mem_cons_of_mem _ hx)) (step1_in (hT e (List.mem_cons_self ..)) h)
theorem pass_closed {S : Nat → Bool} {E : List (Nat × Nat)} (h : Closed E S) : pass E S = S := by
  funext j
  rw [Bool.eq_iff_iff]
  exact ⟨pass_in E h (fun _ h => h) j, pass_mono E⟩
theorem pass_edge : ∀ (E : List (Nat × Nat)) {S : Nat → Bool} {e : Nat × Nat}, e ∈ E → (S e.1 || S e.2) = true → pass E S e.1 = true ∧ pass E S e.2 = true := by
  intro E
  induction E with
  | nil => intro S e h; cases h
  | cons x E ih =>
    intro S e he h
    rcases List.mem_cons.1 he with rfl | he
    · have : step1 S e e.1 = true ∧ step1 S e e.2 = true := by
        unfold step1
        rw [if_pos h]
        simp
      exact ⟨pass_mono E this.1, pass_mono E this.2⟩
    · refine ih he ?_
      simp only [Bool.or_eq_true] at h ⊢
      rcases h with h | h
      · exact .inl (step1_mono h)
      · exact .inr (step1_mono h)
theorem closed_of {E : List (Nat × Nat)} {S : Nat → Bool} {n : Nat} (hE : ∀ e ∈ E, e.1 < n ∧ e.2 < n) (h : ∀ j, j < n → pass E S j = true → S j = true) : Closed E S := by
  intro e he
  have hb := hE e he
  cases h1 : S e.1 <;> cases h2 : S e.2
  · rfl
  · have := (pass_edge (S := S) E he (by simp [h2])).1
    rw [h _ hb.1 this] at h1
    cases h1
  · have := (pass_edge (S := S) E he (by simp [h1])).2
    rw [h _ hb.2 this] at h2
    cases h2
  · rfl
def card (n : Nat) (S : Nat → Bool) : Nat := (List.range n).countP S
theorem card_le (n : Nat) (S : Nat → Bool) : card n S ≤ n := by
  have := List.countP_le_length (p := S) (l := List.range n)
  simpa [card] using this
theorem countP_lt {S T : Nat → Bool} : ∀ {l : List Nat}, (∀ j ∈ l, S j = true → T j = true) → (∃ j ∈ l, T j = true ∧ S j = false) → l.countP S < l.countP T := by
  intro l
  induction l with
  | nil => rintro _ ⟨j, h, _⟩; cases h
  | cons x l ih =>
    intro hs hex
    have hle : l.countP S ≤ l.countP T := List.countP_mono_left (fun j hj h => hs j (List.mem_cons_of_mem _ hj) h)
    rw [List.countP_cons, List.countP_cons]
    obtain ⟨j, hj, hT, hS⟩ := hex
    rcases List.mem_cons.1 hj with rfl | hj
    · rw [hS, hT]
      simp
      omega
    · have := ih (fun j hj h => hs j (List.mem_cons_of_mem _ hj) h) ⟨j, hj, hT, hS⟩
      have hx : (if S x = true then 1 else 0) ≤ (if T x = true then 1 else 0) := by
        cases h : S x
        · simp
        · rw [hs x (List.mem_cons_self ..) h]; simp
      omega
theorem card_grows {E : List (Nat × Nat)} {S : Nat → Bool} {n : Nat} (hE : ∀ e ∈ E, e.1 < n ∧ e.2 < n) (h : ¬ Closed E S) : card n S < card n (pass E S) := by
  unfold card
  refine countP_lt (fun j _ hj => pass_mono E hj) ?_
  refine Classical.byContradiction fun hno => h (closed_of hE fun j hj hp => ?_)
  cases hS : S j
  · exact absurd ⟨j, by simpa using hj, hp, hS⟩ hno
  · rfl
theorem passN_closed_eq {E : List (Nat × Nat)} {S : Nat → Bool} (h : Closed E S) : ∀ k, passN E k S = S := by
  intro k
  induction k with
  | zero => rfl
  | succ k ih => show passN E k (pass E S) = S; rw [pass_closed h]; exact ih
theorem passN_or {E : List (Nat × Nat)} {n : Nat} (hE : ∀ e ∈ E, e.1 < n ∧ e.2 < n) : ∀ (k : Nat) (S : Nat → Bool), Closed E (passN E k S) ∨ card n S + k ≤ card n (passN E k S) := by
  intro k
  induction k with
  | zero => intro S; exact .inr (Nat.le_refl _)
  | succ k ih =>
    intro S
    by_cases hc : Closed E S
    · left
      rw [passN_closed_eq hc]
      exact hc
    · have hg := card_grows hE hc
      rcases ih (pass E S) with h | h
      · exact .inl h
      · right
        show card n S + (k + 1) ≤ card n (passN E k (pass E S))
        omega
theorem passN_mono (E : List (Nat × Nat)) : ∀ (k : Nat) {S : Nat → Bool} {j : Nat}, S j = true → passN E k S j = true := by
  intro k
  induction k with
  | zero => intro S j h; exact h
  | succ k ih => intro S j h; exact ih (pass_mono E h)
theorem passN_in {T : Nat → Bool} {E : List (Nat × Nat)} (hT : Closed E T) : ∀ (k : Nat) {S : Nat → Bool}, (∀ j, S j = true → T j = true) → ∀ j, passN E k S j = true → T j = true := by
  intro k
  induction k with
  | zero => intro S h; exact h
  | succ k ih => intro S h; exact ih (pass_in E hT h)
theorem passN_closed {E : List (Nat × Nat)} {n : Nat} (hE : ∀ e ∈ E, e.1 < n ∧ e.2 < n) {S : Nat → Bool} {i : Nat} (hi : i < n) (hS : S i = true) : Closed E (passN E n S) := by
  rcases passN_or hE n S with h | h
  · exact h
  · have h1 := card_le n (passN E n S)
    have h2 : 0 < card n S := List.countP_pos_iff.2 ⟨i, by simpa using hi, hS⟩
    omega
/-- All that hangs together with i. -/
def comp (E : List (Nat × Nat)) (n i : Nat) : Nat → Bool := passN E n (fun j => j == i)
section
variable {E : List (Nat × Nat)} {n : Nat}
theorem comp_refl (i : Nat) : comp E n i i = true := passN_mono E n (by simp)
theorem comp_closed (hE : ∀ e ∈ E, e.1 < n ∧ e.2 < n) {i : Nat} (hi : i < n) : Closed E (comp E n i) := passN_closed hE hi (by simp)
theorem comp_least {T : Nat → Bool} (hT : Closed E T) {i : Nat} (hi : T i = true) : ∀ j, comp E n i j = true → T j = true :=
  passN_in hT n (fun j hj => by simp only [beq_iff_eq] at hj; rw [hj]; exact hi)
theorem comp_lt (hE : ∀ e ∈ E, e.1 < n ∧ e.2 < n) {i j : Nat} (hi : i < n) (h : comp E n i j = true) : j < n := by
  have := comp_least (E := E) (n := n) (T := fun j => decide (j < n)) (fun e he => by
    have := hE e he
    simp [this.1, this.2]) (i := i) (by simpa using hi) j h
  simpa using this
theorem comp_trans (hE : ∀ e ∈ E, e.1 < n ∧ e.2 < n) {i j k : Nat} (hi : i < n) (h : comp E n i j = true) (g : comp E n j k = true) : comp E n i k = true :=
  comp_least (comp_closed hE hi) h k g
theorem comp_symm (hE : ∀ e ∈ E, e.1 < n ∧ e.2 < n) {i j : Nat} (hi : i < n) (h : comp E n i j = true) : comp E n j i = true := by
  have hj := comp_lt hE hi h
  cases hji : comp E n j i
  · have := comp_least (E := E) (n := n) (T := fun x => !comp E n j x) (fun e he => by
      have := comp_closed hE hj e he
      simp [this]) (i := i) (by simp [hji]) j h
    simp [comp_refl] at this
  · rfl
/-- What is alone, stays so. -/
theorem comp_alone {i : Nat} (h : ∀ e ∈ E, e.1 ≠ i ∧ e.2 ≠ i) {j : Nat} (hj : comp E n i j = true) : j = i := by
  have := comp_least (E := E) (n := n) (T := fun j => j == i) (fun e he => by
    have := h e he
    show (e.1 == i) = (e.2 == i)
    rw [beq_eq_false_iff_ne.2 this.1, beq_eq_false_iff_ne.2 this.2]) (i := i) (by simp) j hj
  simpa using this
end

/-- The first of what hangs together with i. -/
def lstC (E : List (Nat × Nat)) (n i : Nat) : Nat := ((List.range n).find? (comp E n i)).getD i
section
variable {E : List (Nat × Nat)} {n : Nat}
theorem find_min {p : Nat → Bool} : ∀ {m : Nat} {r : Nat}, (List.range m).find? p = some r → p r = true ∧ r < m ∧ ∀ j, j < r → p j = false := by
  intro m
  induction m with
  | zero => intro r h; simp at h
  | succ m ih =>
    intro r h
    rw [List.range_succ, List.find?_append] at h
    cases h1 : (List.range m).find? p with
    | some q =>
      rw [h1] at h
      simp only [Option.some_or, Option.some.injEq] at h
      subst h
      obtain ⟨a, b, c⟩ := ih h1
      exact ⟨a, by omega, c⟩
    | none =>
      rw [h1] at h
      simp only [Option.none_or] at h
      rw [List.find?_singleton] at h
      split at h
      · rename_i hp
        simp only [Option.some.injEq] at h
        subst h
        refine ⟨hp, by omega, fun j hj => ?_⟩
        have := List.find?_eq_none.1 h1 j (by simpa using hj)
        simpa using this
      · cases h
theorem least_spec (hE : ∀ e ∈ E, e.1 < n ∧ e.2 < n) {i : Nat} (hi : i < n) : comp E n i (lstC E n i) = true ∧ lstC E n i < n ∧ ∀ j, comp E n i j = true → lstC E n i ≤ j := by
  unfold lstC
  cases h : (List.range n).find? (comp E n i) with
  | none =>
    have := List.find?_eq_none.1 h i (by simpa using hi)
    rw [comp_refl] at this
    exact absurd rfl this
  | some r =>
    obtain ⟨a, b, c⟩ := find_min h
    refine ⟨a, b, fun j hj => ?_⟩
    show r ≤ j
    rcases Nat.lt_or_ge j r with h' | h'
    · rw [c j h'] at hj; cases hj
    · exact h'
theorem least_le (hE : ∀ e ∈ E, e.1 < n ∧ e.2 < n) {i : Nat} (hi : i < n) : lstC E n i ≤ i := (least_spec hE hi).2.2 i (comp_refl i)
theorem least_eq (hE : ∀ e ∈ E, e.1 < n ∧ e.2 < n) {i j : Nat} (hi : i < n) (h : comp E n i j = true) : lstC E n i = lstC E n j := by
  have hj := comp_lt hE hi h
  obtain ⟨a, b, c⟩ := least_spec hE hi
  obtain ⟨a', b', c'⟩ := least_spec hE hj
  have h1 := c _ (comp_trans hE hi h a')
  have h2 := c' _ (comp_trans hE hj (comp_symm hE hi h) a)
  omega
theorem least_comp (hE : ∀ e ∈ E, e.1 < n ∧ e.2 < n) {i j : Nat} (hi : i < n) (hj : j < n) (h : lstC E n i = lstC E n j) : comp E n i j = true := by
  have a := (least_spec hE hi).1
  have b := (least_spec hE hj).1
  rw [← h] at b
  exact comp_trans hE hi a (comp_symm hE hj b)
theorem least_idem (hE : ∀ e ∈ E, e.1 < n ∧ e.2 < n) {i : Nat} (hi : i < n) : lstC E n (lstC E n i) = lstC E n i := (least_eq hE hi (least_spec hE hi).1).symm
/-- Labels: an edge gives both ends the lesser one. -/
def relE (f : Nat → Nat) (e : Nat × Nat) : Nat → Nat := fun j => if j = e.1 ∨ j = e.2 then min (f e.1) (f e.2) else f j
def relPass (E : List (Nat × Nat)) (f : Nat → Nat) : Nat → Nat := E.foldl relE f
def relN (E : List (Nat × Nat)) : Nat → (Nat → Nat) → (Nat → Nat)
  | 0, f => f
  | k + 1, f => relN E k (relPass E f)
/-- A label is of what hangs together with what it is on. -/
def LabOk (E : List (Nat × Nat)) (n : Nat) (f : Nat → Nat) : Prop := ∀ j, j < n → comp E n j (f j) = true
theorem edge_comp (hE : ∀ e ∈ E, e.1 < n ∧ e.2 < n) {e : Nat × Nat} (he : e ∈ E) : comp E n e.1 e.2 = true := by
  rw [← comp_closed hE (hE e he).1 e he]
  exact comp_refl _
theorem relE_ok (hE : ∀ e ∈ E, e.1 < n ∧ e.2 < n) {f : Nat → Nat} {e : Nat × Nat} (he : e ∈ E) (h : LabOk E n f) : LabOk E n (relE f e) := by
  intro j hj
  obtain ⟨h1, h2⟩ := hE e he
  have hc := edge_comp hE he
  have hb : ∀ x, (x = e.1 ∨ x = e.2) → comp E n x (f e.1) = true ∧ comp E n x (f e.2) = true := by
    intro x hx
    rcases hx with rfl | rfl
    · exact ⟨h _ h1, comp_trans hE h1 hc (h _ h2)⟩
    · exact ⟨comp_trans hE h2 (comp_symm hE h1 hc) (h _ h1), h _ h2⟩
  unfold relE
  split
  · rename_i hx
    rw [Nat.min_def]
    split
    · exact (hb j hx).1
    · exact (hb j hx).2
  · exact h j hj
theorem relE_min (hE : ∀ e ∈ E, e.1 < n ∧ e.2 < n) {f : Nat → Nat} {e : Nat × Nat} (he : e ∈ E) (h : LabOk E n f) {m : Nat} (hmn : m < n) (hm : ∀ j, comp E n m j = true → m ≤ j) {S : Nat → Bool} (hS : ∀ j, S j = true → comp E n m j = true) (hf : ∀ j, S j = true → f j = m) :
    ∀ j, step1 S e j = true → relE f e j = m := by
  intro j hj
  obtain ⟨h1, h2⟩ := hE e he
  have hc := comp_closed hE hmn e he
  unfold step1 at hj
  unfold relE
  split at hj
  · rename_i hs
    simp only [Bool.or_eq_true, beq_iff_eq] at hj hs
    have hin : comp E n m e.1 = true ∧ comp E n m e.2 = true := by
      rcases hs with hs | hs
      · have := hS _ hs; exact ⟨this, by rw [← hc]; exact this⟩
      · have := hS _ hs; exact ⟨by rw [hc]; exact this, this⟩
    have g1 := hm _ (comp_trans hE hmn hin.1 (h _ h1))
    have g2 := hm _ (comp_trans hE hmn hin.2 (h _ h2))
    have hmin : min (f e.1) (f e.2) = m := by
      rcases hs with hs | hs
      · have := hf _ hs; omega
      · have := hf _ hs; omega
    split
    · exact hmin
    · rename_i hx
      rcases hj with hj | hj
      · exact hf _ hj
      · exact absurd hj hx
  · rename_i hs
    simp only [Bool.or_eq_true, not_or, Bool.not_eq_true] at hs
    split
    · rename_i hx
      rcases hx with rfl | rfl
      · rw [hs.1] at hj; cases hj
      · rw [hs.2] at hj; cases hj
    · exact hf _ hj
theorem step1_comp (hE : ∀ e ∈ E, e.1 < n ∧ e.2 < n) {e : Nat × Nat} (he : e ∈ E) {m : Nat} (hmn : m < n) {S : Nat → Bool} (hS : ∀ j, S j = true → comp E n m j = true) : ∀ j, step1 S e j = true → comp E n m j = true :=
  step1_in (comp_closed hE hmn e he) hS
theorem relPass_min (hE : ∀ e ∈ E, e.1 < n ∧ e.2 < n) {m : Nat} (hmn : m < n) (hm : ∀ j, comp E n m j = true → m ≤ j) : ∀ (F : List (Nat × Nat)), (∀ e ∈ F, e ∈ E) → ∀ (f : Nat → Nat) (S : Nat → Bool), LabOk E n f → (∀ j, S j = true → comp E n m j = true) → (∀ j, S j = true → f j = m) →
    LabOk E n (relPass F f) ∧ ∀ j, pass F S j = true → relPass F f j = m ∧ comp E n m j = true := by
  intro F
  induction F with
  | nil => intro _ f S h hS hf; exact ⟨h, fun j hj => ⟨hf j hj, hS j hj⟩⟩
  | cons e F ih =>
    intro hF f S h hS hf
    have he := hF e (List.mem_cons_self ..)
    exact ih (fun x hx => hF x (List.mem_cons_of_mem _ hx)) (relE f e) (step1 S e) (relE_ok hE he h) (step1_comp hE he hmn hS) (relE_min hE he h hmn hm hS hf)
theorem relN_min (hE : ∀ e ∈ E, e.1 < n ∧ e.2 < n) {m : Nat} (hmn : m < n) (hm : ∀ j, comp E n m j = true → m ≤ j) : ∀ (k : Nat) (f : Nat → Nat) (S : Nat → Bool), LabOk E n f → (∀ j, S j = true → comp E n m j = true) → (∀ j, S j = true → f j = m) →
    ∀ j, passN E k S j = true → relN E k f j = m := by
  intro k
  induction k with
  | zero => intro f S _ _ hf j hj; exact hf j hj
  | succ k ih =>
    intro f S h hS hf j hj
    obtain ⟨a, b⟩ := relPass_min hE hmn hm E (fun _ h => h) f S h hS hf
    exact ih (relPass E f) (pass E S) a (fun j hj => (b j hj).2) (fun j hj => (b j hj).1) j hj
/-- After as many rounds as there are places, each has the lstC label of what it hangs together with. -/
theorem relN_least (hE : ∀ e ∈ E, e.1 < n ∧ e.2 < n) {i : Nat} (hi : i < n) : relN E n (fun j => j) i = lstC E n i := by
  obtain ⟨a, b, c⟩ := least_spec hE hi
  refine relN_min hE b (fun j hj => c j (comp_trans hE hi a hj)) n (fun j => j) (fun j => j == lstC E n i) (fun j hj => comp_refl j) (fun j hj => ?_) (fun j hj => by simpa using hj) i (comp_symm hE hi a)
  simp only [beq_iff_eq] at hj
  rw [hj]
  exact comp_refl _
/-- Counting marked places. -/
def cntB (p : Nat → Bool) (i : Nat) : Nat := (List.range i).countP p
theorem cntB_succ (p : Nat → Bool) (i : Nat) : cntB p (i + 1) = cntB p i + (if p i = true then 1 else 0) := by
  unfold cntB
  rw [List.range_succ, List.countP_append, List.countP_singleton]
theorem cntB_le (p : Nat → Bool) {i j : Nat} (h : i ≤ j) : cntB p i ≤ cntB p j := by
  induction j with
  | zero => rw [show i = 0 by omega]; exact Nat.le_refl _
  | succ j ih =>
    rcases Nat.lt_or_ge i (j + 1) with h' | h'
    · have := ih (by omega); rw [cntB_succ]; omega
    · rw [show i = j + 1 by omega]; exact Nat.le_refl _
theorem cntB_lt {p : Nat → Bool} {i j : Nat} (h : i < j) (hp : p i = true) : cntB p i < cntB p j := by
  have := cntB_le p (show i + 1 ≤ j from h)
  rw [cntB_succ, if_pos hp] at this
  omega
theorem cntB_le_self (p : Nat → Bool) (i : Nat) : cntB p i ≤ i := by
  have := List.countP_le_length (p := p) (l := List.range i)
  simpa [cntB] using this
theorem cntB_inj {p : Nat → Bool} {i j : Nat} (hi : p i = true) (hj : p j = true) (h : cntB p i = cntB p j) : i = j := by
  rcases Nat.lt_trichotomy i j with h' | h' | h'
  · have := cntB_lt h' hi; omega
  · exact h'
  · have := cntB_lt h' hj; omega
end

theorem vlen_cl (a b : Int) : vlen (cl a) (cl b) = vlen a b := by unfold vlen vsq; rw [cl_cl, cl_cl]
theorem vlen_neg (a b : Int) : vlen (-a) (-b) = vlen a b := by unfold vlen vsq; rw [cl_neg, cl_neg, Int.neg_mul_neg, Int.neg_mul_neg]
/-- A way of the length 1. -/
def vunit (a b : Int) : Int × Int := if vlen a b = 0 then (0, 256) else (Int.tdiv (cl a * 256) (vlen a b), Int.tdiv (cl b * 256) (vlen a b))
theorem vunit_wrap (a b : Int) (h : vlen a b ≠ 0) : wrap64 (Int.tdiv (wrap64 (cl a * 256)) (vlen a b)) = Int.tdiv (cl a * 256) (vlen a b) := by
  have := cl_bd a
  have := vlen_bd a b
  have := td_bd (a := cl a * 256) (m := 256000000000) (by omega) (by omega) (vlen a b) (by omega)
  rw [wrap_id (n := cl a * 256) (by omega) (by omega), wrap_id (by omega) (by omega)]
theorem vunit_wrap' (a b : Int) (h : vlen a b ≠ 0) : wrap64 (Int.tdiv (wrap64 (cl b * 256)) (vlen a b)) = Int.tdiv (cl b * 256) (vlen a b) := by
  have := cl_bd b
  have := vlen_bd a b
  have := td_bd (a := cl b * 256) (m := 256000000000) (by omega) (by omega) (vlen a b) (by omega)
  rw [wrap_id (n := cl b * 256) (by omega) (by omega), wrap_id (by omega) (by omega)]

/-- How two round shapes touch. -/
def rnds (a b c d w : Int) : Int × Int × Int × Bool :=
  if wrap64 (wrap64 (wrap64 (c - a) * wrap64 (c - a)) + wrap64 (wrap64 (d - b) * wrap64 (d - b))) > wrap64 (w * w) then (0, 0, 0, false)
  else ((vunit (wrap64 (c - a)) (wrap64 (d - b))).1, (vunit (wrap64 (c - a)) (wrap64 (d - b))).2, wrap64 (w - vlen (wrap64 (c - a)) (wrap64 (d - b))), true)

/-- The side on which two boxes are least in each other. -/
def least (r l u n : Int) : Int × Int × Int × Bool :=
  if l < r then (if u < l then (if n < u then (0, -256, n, true) else (0, 256, u, true)) else (if n < l then (0, -256, n, true) else (-256, 0, l, true)))
  else (if u < r then (if n < u then (0, -256, n, true) else (0, 256, u, true)) else (if n < r then (0, -256, n, true) else (256, 0, r, true)))
/-- How two boxes touch. -/
def bxs (a b c d e f g h : Int) : Int × Int × Int × Bool :=
  if meets a b c d e f g h = true then least (wrap64 (c - e)) (wrap64 (g - a)) (wrap64 (d - f)) (wrap64 (h - b)) else (0, 0, 0, false)

/-- How a box and something round touch. -/
def mxd (a b c d x y w : Int) : Int × Int × Int × Bool :=
  if point a b c d x y = true then ((bxs a b c d x y x y).1, (bxs a b c d x y x y).2.1, wrap64 ((bxs a b c d x y x y).2.2.1 + w), (bxs a b c d x y x y).2.2.2)
  else rnds (min (max x a) c) (min (max y b) d) x y w

/-- The bounds of a shape at a place. -/
def bnd (k w h x y : Int) : Int × Int × Int × Int := (wrap64 (x - w), wrap64 (y - (if k = 1 then w else h)), wrap64 (x + w), wrap64 (y + (if k = 1 then w else h)))

/-- How two shapes touch. -/
def tch (k w h x y k' w' h' x' y' : Int) : Int × Int × Int × Bool :=
  if k = 1 ∧ k' = 1 then rnds x y x' y' (wrap64 (w + w'))
  else if k = 2 ∧ k' = 2 then bxs (bnd k w h x y).1 (bnd k w h x y).2.1 (bnd k w h x y).2.2.1 (bnd k w h x y).2.2.2 (bnd k' w' h' x' y').1 (bnd k' w' h' x' y').2.1 (bnd k' w' h' x' y').2.2.1 (bnd k' w' h' x' y').2.2.2
  else if k = 2 then mxd (bnd k w h x y).1 (bnd k w h x y).2.1 (bnd k w h x y).2.2.1 (bnd k w h x y).2.2.2 x' y' w'
  else if (mxd (bnd k' w' h' x' y').1 (bnd k' w' h' x' y').2.1 (bnd k' w' h' x' y').2.2.1 (bnd k' w' h' x' y').2.2.2 x y w).2.2.2 = true then
    (wrap64 (-(mxd (bnd k' w' h' x' y').1 (bnd k' w' h' x' y').2.1 (bnd k' w' h' x' y').2.2.1 (bnd k' w' h' x' y').2.2.2 x y w).1),
      wrap64 (-(mxd (bnd k' w' h' x' y').1 (bnd k' w' h' x' y').2.1 (bnd k' w' h' x' y').2.2.1 (bnd k' w' h' x' y').2.2.2 x y w).2.1),
      (mxd (bnd k' w' h' x' y').1 (bnd k' w' h' x' y').2.1 (bnd k' w' h' x' y').2.2.1 (bnd k' w' h' x' y').2.2.2 x y w).2.2.1, true)
  else (0, 0, 0, false)

def drv (x y : Int) : Bool := inB x (-20000000) 20000000 && inB y (-20000000) 20000000

def rest0 (dx dy m q : Int) : Bool := if m = 0 then (dx == 0 && (dy == 0)) && (q == 0) else decide (q < 8) || (dx == 0 && (dy == 0))
def bodyOk (i sk sw sh ax ay dx dy m bo ru q : Int) : Bool :=
  inB i 0 999999999 && (shapeOk sk sw sh && (place ax ay && (drv dx dy && (inB m 0 1000 && (inB bo 0 256 && (inB ru 0 256 && (inB q 0 8 && rest0 dx dy m q)))))))

def bok (x : S41) : Bool := bodyOk x.f0 x.f1.f0 x.f1.f1 x.f1.f2 x.f2.f0 x.f2.f1 x.f3.f0 x.f3.f1 x.f4 x.f5 x.f6 x.f7
/-- Are bodies ok, from a place on? -/
def chkB (l : List S41) : Nat → Int → Bool
  | 0, _ => decide ((l.length : Int) ≤ 12)
  | d + 1, i => if bok (rd_T41 l i) = true then (if i > 0 then (if (rd_T41 l (i - 1)).f0 ≥ (rd_T41 l i).f0 then false else chkB l d (i + 1)) else chkB l d (i + 1)) else false
def bodiesOk (l : List S41) : Bool := chkB l l.length 0

/-- How two bodies touch. -/
def tcb (x y : S41) : Int × Int × Int × Bool := tch x.f1.f0 x.f1.f1 x.f1.f2 x.f2.f0 x.f2.f1 y.f1.f0 y.f1.f1 y.f1.f2 y.f2.f0 y.f2.f1
/-- What two bodies of a list add to its contacts. -/
def ct (l : List S41) (i j : Int) : List S37 :=
  if (rd_T41 l i).f4 = 0 ∧ (rd_T41 l j).f4 = 0 then [] else
    if (tcb (rd_T41 l i) (rd_T41 l j)).2.2.2 = true then [⟨i, j, ⟨⟨(tcb (rd_T41 l i) (rd_T41 l j)).1, (tcb (rd_T41 l i) (rd_T41 l j)).2.1⟩, (tcb (rd_T41 l i) (rd_T41 l j)).2.2.1⟩⟩] else []
def ctJ (l : List S41) (i : Int) : Nat → Int → List S37
  | 0, _ => []
  | d + 1, j => ct l i j ++ ctJ l i d (j + 1)
def ctI (l : List S41) : Nat → Int → List S37
  | 0, _ => []
  | d + 1, i => ctJ l i d (i + 1) ++ ctI l d (i + 1)
/-- All contacts of bodies. -/
def cts (l : List S41) : List S37 := ctI l l.length 0
theorem ct_len (l : List S41) (i j : Int) : (ct l i j).length ≤ 1 := by
  unfold ct
  split
  · simp
  · split <;> simp
theorem ctJ_len (l : List S41) (i : Int) : ∀ (d : Nat) (j : Int), (ctJ l i d j).length ≤ d := by
  intro d
  induction d with
  | zero => intro j; simp [ctJ]
  | succ d ih => intro j; have := ct_len l i j; have := ih (j + 1); simp only [ctJ, List.length_append]; omega
def gas : Nat → Nat
  | 0 => 1
  | d + 1 => 2 * d + 2 + gas d

def ms (l : List S41) (j : Nat) : Int := (rd_T41 l (j : Int)).f4
def edge (l : List S41) (c : S37) : List (Nat × Nat) := if (rd_T41 l c.f0).f4 = 0 ∨ (rd_T41 l c.f1).f4 = 0 then [] else [(c.f0.toNat, c.f1.toNat)]
def edF (l : List S41) (cs : List S37) : Nat → Int → List (Nat × Nat)
  | 0, _ => []
  | d + 1, i => edge l (rd_T37 cs i) ++ edF l cs d (i + 1)
/-- Who that can move touches whom that can move. -/
def edges (l : List S41) (cs : List S37) : List (Nat × Nat) := edF l cs cs.length 0
/-- Contacts are of bodies that there are. -/
def CtOk (n : Nat) (cs : List S37) : Prop := ∀ i : Int, 0 ≤ i → i < cs.length → 0 ≤ (rd_T37 cs i).f0 ∧ (rd_T37 cs i).f0 < n ∧ 0 ≤ (rd_T37 cs i).f1 ∧ (rd_T37 cs i).f1 < n
theorem edF_ok {l : List S41} {cs : List S37} (h : CtOk l.length cs) : ∀ (d : Nat) (i : Int), 0 ≤ i → (cs.length : Int) - i = d → ∀ e ∈ edF l cs d i, e.1 < l.length ∧ e.2 < l.length ∧ ms l e.1 ≠ 0 ∧ ms l e.2 ≠ 0 := by
  intro d
  induction d with
  | zero => intro i _ _ e he; cases he
  | succ d ih =>
    intro i h0 hd e he
    simp only [edF, List.mem_append] at he
    rcases he with he | he
    · obtain ⟨a, b, a', b'⟩ := h i h0 (by omega)
      unfold edge at he
      split at he
      · cases he
      · rename_i hn
        simp only [List.mem_singleton] at he
        subst he
        simp only [not_or] at hn
        refine ⟨by show Int.toNat _ < _; omega, by show Int.toNat _ < _; omega, ?_, ?_⟩
        · show (rd_T41 l ((rd_T37 cs i).f0.toNat : Int)).f4 ≠ 0
          rw [Int.toNat_of_nonneg a]; exact hn.1
        · show (rd_T41 l ((rd_T37 cs i).f1.toNat : Int)).f4 ≠ 0
          rw [Int.toNat_of_nonneg a']; exact hn.2
    · exact ih (i + 1) (by omega) (by omega) e he
theorem edges_ok {l : List S41} {cs : List S37} (h : CtOk l.length cs) : ∀ e ∈ edges l cs, e.1 < l.length ∧ e.2 < l.length ∧ ms l e.1 ≠ 0 ∧ ms l e.2 ≠ 0 := edF_ok h cs.length 0 (by omega) (by omega)
theorem edges_lt {l : List S41} {cs : List S37} (h : CtOk l.length cs) : ∀ e ∈ edges l cs, e.1 < l.length ∧ e.2 < l.length := fun e he => ⟨(edges_ok h e he).1, (edges_ok h e he).2.1⟩
/-- What hangs together with what can move, can move. -/
theorem comp_ms {l : List S41} {cs : List S37} (h : CtOk l.length cs) {i j : Nat} (hi : ms l i ≠ 0) (hj : comp (edges l cs) l.length i j = true) : ms l j ≠ 0 := by
  have := comp_least (E := edges l cs) (n := l.length) (T := fun j => !(ms l j == 0)) (fun e he => by
    obtain ⟨_, _, a, b⟩ := edges_ok h e he
    show (!(ms l e.1 == 0)) = !(ms l e.2 == 0)
    rw [beq_eq_false_iff_ne.2 a, beq_eq_false_iff_ne.2 b]) (i := i) (by simpa using hi) j hj
  simpa using this
def rep (l : List S41) (cs : List S37) (i : Nat) : Bool := !(ms l i == 0) && (lstC (edges l cs) l.length i == i)
/-- The number of a body's group. -/
def grpv (l : List S41) (cs : List S37) (j : Nat) : Int := if ms l j = 0 then -1 else (cntB (rep l cs) (lstC (edges l cs) l.length j) : Int)
def grp (l : List S41) (cs : List S37) : List Int := (List.range l.length).map (grpv l cs)
theorem rep_least {l : List S41} {cs : List S37} (h : CtOk l.length cs) {i : Nat} (hi : i < l.length) (hm : ms l i ≠ 0) : rep l cs (lstC (edges l cs) l.length i) = true := by
  unfold rep
  rw [least_idem (edges_lt h) hi, beq_eq_false_iff_ne.2 (comp_ms h hm (least_spec (edges_lt h) hi).1)]
  simp
/-- A row of numbers that are told place by place. -/
def Rp (n : Nat) (xs : List Int) (g : Nat → Int) : Prop := xs.length = n ∧ ∀ j, j < n → xs[j]? = some (g j)
theorem Rp.at_ {n : Nat} {xs : List Int} {g : Nat → Int} (h : Rp n xs g) {i : Int} (h0 : 0 ≤ i) (h1 : i < n) : rd xs i = g i.toNat := by
  unfold rd
  rw [List.getD_eq_getElem?_getD, h.2 i.toNat (by omega)]
  rfl
theorem Rp.set {n : Nat} {xs : List Int} {g : Nat → Int} (h : Rp n xs g) (i : Nat) (v : Int) : Rp n (xs.set i v) (fun j => if j = i then v else g j) := by
  refine ⟨by rw [List.length_set]; exact h.1, fun j hj => ?_⟩
  rw [List.getElem?_set]
  by_cases hij : i = j
  · subst hij
    rw [if_pos rfl, if_pos (by rw [h.1]; exact hj)]
    simp
  · rw [if_neg hij, h.2 j hj]
    show some (g j) = some (if j = i then v else g j)
    rw [if_neg (fun e => hij e.symm)]
theorem Rp.congr {n : Nat} {xs : List Int} {g g' : Nat → Int} (h : Rp n xs g) (he : ∀ j, j < n → g j = g' j) : Rp n xs g' := ⟨h.1, fun j hj => by rw [h.2 j hj, he j hj]⟩
theorem Rp.eq {n : Nat} {xs : List Int} {g : Nat → Int} (h : Rp n xs g) : xs = (List.range n).map g := by
  refine List.ext_getElem? fun j => ?_
  rcases Nat.lt_or_ge j n with hj | hj
  · rw [h.2 j hj, List.getElem?_map, List.getElem?_range hj]; rfl
  · rw [List.getElem?_eq_none (by rw [h.1]; exact hj), List.getElem?_eq_none (by simpa using hj)]

theorem filt_get (p : Nat → Bool) : ∀ (i q r : Nat), ((List.range i).filter p)[q]? = some r ↔ (r < i ∧ p r = true ∧ q = cntB p r) := by
  intro i
  induction i with
  | zero => intro q r; simp
  | succ i ih =>
    intro q r
    have hl : ((List.range i).filter p).length = cntB p i := by rw [cntB, List.countP_eq_length_filter]
    rw [List.range_succ, List.filter_append, List.getElem?_append]
    split
    · rename_i h
      rw [ih]
      constructor
      · rintro ⟨a, b, c⟩; exact ⟨by omega, b, c⟩
      · rintro ⟨a, b, c⟩
        refine ⟨?_, b, c⟩
        rcases Nat.lt_or_ge r i with h' | h'
        · exact h'
        · have := cntB_le p h'; omega
    · rename_i h
      rw [hl] at h ⊢
      cases hp : p i
      · simp only [List.filter_cons, hp, List.filter_nil, Bool.false_eq_true, if_false, List.getElem?_nil]
        constructor
        · intro h; cases h
        · rintro ⟨a, b, c⟩
          exfalso
          rcases Nat.lt_or_ge r i with h' | h'
          · have := cntB_lt h' b; omega
          · rw [show r = i by omega, hp] at b; cases b
      · simp only [List.filter_cons, hp, List.filter_nil, if_true]
        constructor
        · intro hq
          have : q - cntB p i = 0 := by
            rcases Nat.eq_zero_or_pos (q - cntB p i) with h0 | h0
            · exact h0
            · rw [List.getElem?_eq_none (by rw [List.length_singleton]; omega)] at hq; cases hq
          rw [this] at hq
          simp only [List.getElem?_cons_zero, Option.some.injEq] at hq
          subst hq
          exact ⟨by omega, hp, by omega⟩
        · rintro ⟨a, b, c⟩
          have hr : r = i := by
            rcases Nat.lt_or_ge r i with h' | h'
            · have := cntB_lt h' b; omega
            · omega
          subst hr
          rw [show q - cntB p r = 0 by omega]
          rfl
theorem spec_l7Number_scan (l : List S41) (gs out F : List Int) (hF : F.length ≤ 1000000) (i : Int) (h0 : 0 ≤ i) (h1 : i < gs.length) (p : Int) (hp : p < F.length) : ∀ (d k : Nat) (x9 x8 : Int), 0 ≤ x9 → (F.length : Int) - x9 = d → (∀ q : Int, x9 ≤ q → q < F.length → (rd F q = rd gs i ↔ q = p)) →
    spec_l7Number.l1 (d + 1 + k) l gs out F i x8 x9 = spec_l7Number.l1 (k + 1) l gs out F i (if x9 ≤ p then p else x8) (F.length : Int) := by
  intro d
  induction d with
  | zero =>
    intro k x9 x8 h9 hd hq
    rw [if_neg (by omega), show x9 = F.length by omega, show 0 + 1 + k = k + 1 by omega]
  | succ d ih =>
    intro k x9 x8 h9 hd hq
    rw [show d + 1 + 1 + k = (d + 1 + k) + 1 by omega]
    have e1 : wrap64 (x9 + 1) = x9 + 1 := wrap_id (by omega) (by omega)
    have hx := hq x9 (by omega) (by omega)
    rw [spec_l7Number.l1]
    rw [if_pos (by omega), if_pos h9, if_pos h0, if_pos h1, e1]
    by_cases hr : rd F x9 = rd gs i
    · have hxp := hx.1 hr
      rw [if_pos hr, ih k (x9 + 1) x9 (by omega) (by omega) (fun q a b => hq q (by omega) b), if_neg (by omega), if_pos (by omega), hxp]
    · have hxp : x9 ≠ p := fun e => hr (hx.2 e)
      rw [if_neg hr, ih k (x9 + 1) x8 (by omega) (by omega) (fun q a b => hq q (by omega) b)]
      by_cases h : x9 ≤ p
      · rw [if_pos h, if_pos (by omega)]
      · rw [if_neg h, if_neg (by omega)]
def firsts (l : List S41) (cs : List S37) (i : Nat) : List Int := ((List.range i).filter (rep l cs)).map (fun (j : Nat) => (j : Int))
theorem firsts_len (l : List S41) (cs : List S37) (i : Nat) : (firsts l cs i).length = cntB (rep l cs) i := by
  unfold firsts cntB
  rw [List.length_map, List.countP_eq_length_filter]
theorem firsts_rd (l : List S41) (cs : List S37) (i : Nat) (q : Int) (h0 : 0 ≤ q) (h1 : q < (firsts l cs i).length) (t : Nat) : rd (firsts l cs i) q = (t : Int) ↔ (t < i ∧ rep l cs t = true ∧ q = (cntB (rep l cs) t : Int)) := by
  unfold firsts at h1 ⊢
  have hl : q.toNat < ((List.range i).filter (rep l cs)).length := by rw [List.length_map] at h1; omega
  unfold rd
  rw [List.getD_eq_getElem?_getD, List.getElem?_map]
  obtain ⟨r, hr⟩ : ∃ r, ((List.range i).filter (rep l cs))[q.toNat]? = some r := ⟨_, List.getElem?_eq_getElem hl⟩
  rw [hr]
  simp only [Option.map_some, Option.getD_some]
  have h := (filt_get (rep l cs) i q.toNat r).1 hr
  constructor
  · intro e
    have : r = t := by omega
    subst this
    exact ⟨h.1, h.2.1, by omega⟩
  · rintro ⟨a, b, c⟩
    have : cntB (rep l cs) t = cntB (rep l cs) r := by omega
    rw [cntB_inj b h.2.1 this]
theorem spec_l7Number_loop {l : List S41} {cs : List S37} (hm : l.length ≤ 1000) (hc : CtOk l.length cs) {gs : List Int} (hg : Rp l.length gs (fun j => (lstC (edges l cs) l.length j : Int))) : ∀ (d k i : Nat), (l.length : Int) - i = d → d * 1100 < k →
    spec_l7Number.l0 k l gs ((List.range i).map (grpv l cs)) (firsts l cs i) (i : Int) = some (grp l cs) := by
  intro d
  induction d with
  | zero =>
    intro k i hd hk
    obtain ⟨k, rfl⟩ : ∃ m, k = m + 1 := ⟨k - 1, by omega⟩
    simp only [spec_l7Number.l0]
    rw [if_neg (by omega), show i = l.length by omega]
    rfl
  | succ d ih =>
    intro k i hd hk
    have hi : i < l.length := by omega
    obtain ⟨k, rfl⟩ : ∃ m, k = m + 1 := ⟨k - 1, by clear hd; omega⟩
    have hk2 : d * 1100 + 1099 < k := by clear hd hi ih hc hg hm; omega
    clear hk
    generalize hdd : d * 1100 = D at hk2 ih
    have e1 : wrap64 ((i : Int) + 1) = ((i + 1 : Nat) : Int) := by rw [wrap_id (by omega) (by omega)]; omega
    have hol : ((List.range i).map (grpv l cs)).length = i := by simp
    have hrs : ∀ v, grpv l cs i = v → (List.range i).map (grpv l cs) ++ [v] = (List.range (i + 1)).map (grpv l cs) := by
      intro v hv
      rw [List.range_succ, List.map_append, List.map_cons, List.map_nil, hv]
    simp only [spec_l7Number.l0]
    rw [if_pos (by omega), if_pos (by omega), e1]
    by_cases hf : ms l i = 0
    · have hnr : rep l cs i = false := by unfold rep; rw [hf]; rfl
      have hfi : firsts l cs (i + 1) = firsts l cs i := by
        unfold firsts
        rw [List.range_succ, List.filter_append, List.filter_cons, hnr]
        simp
      rw [if_pos (show (rd_T41 l (i : Int)).f4 = 0 from hf), if_pos (by omega), hrs (-1) (by unfold grpv; rw [if_pos hf]), ← hfi]
      exact ih k (i + 1) (by omega) (by omega)
    · rw [if_neg (show ¬ (rd_T41 l (i : Int)).f4 = 0 from hf)]
      have hle := least_le (edges_lt hc) hi
      have hrd : rd gs (i : Int) = (lstC (edges l cs) l.length i : Int) := by rw [hg.at_ (by omega) (by omega)]; rfl
      have hcl := cntB_le_self (rep l cs) i
      have hfl := firsts_len l cs i
      have hgl := hg.1
      generalize hL : lstC (edges l cs) l.length i = L at hle hrd
      have hgr : grpv l cs i = (cntB (rep l cs) L : Int) := by unfold grpv; rw [if_neg hf, hL]
      rcases Nat.lt_or_ge L i with hlt | hge
      · have hrL : rep l cs L = true := by rw [← hL]; exact rep_least hc hi hf
        have hnr : rep l cs i = false := by unfold rep; rw [hL, beq_eq_false_iff_ne.2 (show L ≠ i by omega)]; simp
        have hfi : firsts l cs (i + 1) = firsts l cs i := by
          unfold firsts
          rw [List.range_succ, List.filter_append, List.filter_cons, hnr]
          simp
        have hcn := cntB_lt hlt hrL
        obtain ⟨m, rfl⟩ : ∃ m, k = (firsts l cs i).length + 1 + m := ⟨k - (firsts l cs i).length - 1, by omega⟩
        rw [spec_l7Number_scan l gs _ _ (by omega) (i : Int) (by omega) (by omega) (cntB (rep l cs) L : Int) (by omega) (firsts l cs i).length m 0 (-1) (by omega) (by omega) (fun q a b => by
          rw [hrd, firsts_rd l cs i q a b L]
          exact ⟨fun h => h.2.2, fun h => ⟨hlt, hrL, h⟩⟩)]
        rw [if_pos (by omega), spec_l7Number.l1, if_neg (by omega), if_neg (by omega), if_pos (by omega), hrs _ hgr, ← hfi, e1]
        exact ih m (i + 1) (by omega) (by omega)
      · have hLi : L = i := by omega
        subst hLi
        have hrL : rep l cs L = true := by unfold rep; rw [hL, beq_eq_false_iff_ne.2 hf]; simp
        have hfi : firsts l cs (L + 1) = firsts l cs L ++ [(L : Int)] := by
          unfold firsts
          rw [List.range_succ, List.filter_append, List.filter_cons, hrL]
          simp
        obtain ⟨m, rfl⟩ : ∃ m, k = (firsts l cs L).length + 1 + m := ⟨k - (firsts l cs L).length - 1, by omega⟩
        rw [spec_l7Number_scan l gs _ _ (by omega) (L : Int) (by omega) (by omega) (-5) (by omega) (firsts l cs L).length m 0 (-1) (by omega) (by omega) (fun q a b => by
          rw [hrd, firsts_rd l cs L q a b L]
          exact ⟨fun h => absurd h.1 (by omega), fun h => by omega⟩)]
        rw [if_neg (by omega), spec_l7Number.l1, if_neg (by omega), if_pos (by omega), if_pos (by omega), if_pos (by omega), if_pos (by omega), if_pos (by omega), hrd, ← hfi, hrs _ (by rw [hgr, hfl]), e1]
        exact ih m (L + 1) (by omega) (by omega)
theorem spec_l7Number_eq {l : List S41} {cs : List S37} (hm : l.length ≤ 1000) (hc : CtOk l.length cs) {gs : List Int} (hg : Rp l.length gs (fun j => (lstC (edges l cs) l.length j : Int))) {k : Nat} (hk : l.length * 1100 < k) : spec_l7Number.f k l gs = some (grp l cs) :=
  spec_l7Number_loop hm hc hg l.length k 0 (by omega) hk

theorem mxd_no {a b c d x y w : Int} (h : (mxd a b c d x y w).2.2.2 = false) : mxd a b c d x y w = (0, 0, 0, false) := by
  unfold mxd at h ⊢
  split at h
  · rename_i hp
    exfalso
    have hm : meets a b c d x y x y = true := by
      simp [point, inB, meets] at hp ⊢
      omega
    unfold bxs at h
    rw [if_pos hm] at h
    unfold least at h
    revert h
    split <;> split <;> split <;> simp
  · rename_i hp
    rw [if_neg hp]
    unfold rnds at h ⊢
    split at h
    · rename_i hc
      rw [if_pos hc]
    · cases h

theorem impl_in_eq (a l h : Int) : impl_in.f a l h = some (inB a l h) := by
  unfold impl_in.f inB
  split <;> simp <;> omega

theorem impl_ShapeOk_eq (k w h : Int) : impl_ShapeOk.f k w h = some (shapeOk k w h) := by
  unfold impl_ShapeOk.f shapeOk
  simp only [impl_in_eq, Option.bind_some]
  by_cases h1 : k = 1
  · rw [if_pos h1, if_pos h1]; cases inB w 1 25600 <;> simp
  · rw [if_neg h1, if_neg h1]
    by_cases h2 : k = 2
    · rw [if_pos h2, if_pos h2]; cases inB w 1 25600 <;> simp
    · rw [if_neg h2, if_neg h2]

theorem impl_isPlace_eq (a b : Int) : impl_isPlace.f a b = some (place a b) := by
  unfold impl_isPlace.f place
  simp only [impl_in_eq, Option.bind_some]
  cases inB a (-2560000) 2560000 <;> simp

theorem impl_Vec_minus_eq (a b c d : Int) : impl_Vec_minus.f a b c d = some (wrap64 (a - c), wrap64 (b - d)) := rfl

theorem impl_within_eq {a m : Int} (h0 : 0 ≤ m) (h1 : m ≤ 1000000000000) : impl_within.f a m = some (wi a m) := by
  unfold impl_within.f wi
  rw [wrap_id (by omega) (by omega), mx_eq, mn_eq]

theorem impl_Vec_clamped_eq {a b m : Int} (h0 : 0 ≤ m) (h1 : m ≤ 1000000000000) : impl_Vec_clamped.f a b m = some (wi a m, wi b m) := by
  unfold impl_Vec_clamped.f
  simp only [impl_within_eq h0 h1, Option.bind_some]
theorem impl_Vec_clamped_cl (a b : Int) : impl_Vec_clamped.f a b 1000000000 = some (cl a, cl b) := by
  rw [impl_Vec_clamped_eq (by omega) (by omega), wi_cl, wi_cl]

theorem impl_Vec_square_cl (a b : Int) : impl_Vec_square.f (cl a) (cl b) = some (vsq a b) := by
  have ha := cl_bd a
  have hb := cl_bd b
  have := vsq_bd a b
  unfold impl_Vec_square.f vsq at *
  rw [wrap_mul ha.1 ha.2 ha.1 ha.2, wrap_mul hb.1 hb.2 hb.1 hb.2, wrap_id (by omega) (by omega)]

theorem impl_root_loop {n : Int} (hn : 0 ≤ n) : ∀ (d k : Nat) (a b : Int), d < k → 0 ≤ a → a < b → b ≤ 3000000000 → b - a ≤ 2 ^ d → a * a ≤ n → n < b * b →
    ∃ r, impl_root.l0 k n a b = some r ∧ IsRoot n r := by
  intro d
  induction d with
  | zero =>
    intro k a b hk ha hab hb hd h1 h2
    obtain ⟨k, rfl⟩ : ∃ m, k = m + 1 := ⟨k - 1, by omega⟩
    obtain rfl : b = a + 1 := by simp at hd; omega
    exact ⟨a, by simp only [impl_root.l0]; rw [wrap_id (by omega) (by omega), if_neg (by omega)], ha, h1, h2⟩
  | succ d ih =>
    intro k a b hk ha hab hb hd h1 h2
    obtain ⟨k, rfl⟩ : ∃ m, k = m + 1 := ⟨k - 1, by omega⟩
    by_cases hc : b - a > 1
    · have e : wrap64 (Int.tdiv (wrap64 (a + b)) 2) = (a + b) / 2 := by
        rw [wrap_id (n := a + b) (by omega) (by omega), Int.tdiv_eq_ediv_of_nonneg (by omega), wrap_id (by omega) (by omega)]
      have hp : (2 : Int) ^ (d + 1) = 2 * 2 ^ d := by rw [Int.pow_succ, Int.mul_comm]
      rw [hp] at hd
      obtain ⟨m, hm⟩ : ∃ m, m = (a + b) / 2 := ⟨_, rfl⟩
      rw [← hm] at e
      have hq : m * m ≤ 3000000000 * 3000000000 := mul_le_sq (by omega) (by omega)
      have hq0 := sq_nonneg m
      by_cases hle : m * m ≤ n
      · obtain ⟨r, hr, h⟩ := ih k m b (by omega) (by omega) (by omega) hb (by omega) hle h2
        refine ⟨r, ?_, h⟩
        simp only [impl_root.l0]
        rw [wrap_id (n := b - a) (by omega) (by omega), if_pos hc, e, wrap_id (n := m * m) (by omega) (by omega), if_pos hle]
        exact hr
      · obtain ⟨r, hr, h⟩ := ih k a m (by omega) ha (by omega) (by omega) (by omega) h1 (by omega)
        refine ⟨r, ?_, h⟩
        simp only [impl_root.l0]
        rw [wrap_id (n := b - a) (by omega) (by omega), if_pos hc, e, wrap_id (n := m * m) (by omega) (by omega), if_neg hle]
        exact hr
    · obtain rfl : b = a + 1 := by omega
      exact ⟨a, by simp only [impl_root.l0]; rw [wrap_id (by omega) (by omega), if_neg (by omega)], ha, h1, h2⟩
theorem impl_root_eq {k : Nat} (hk : 32 < k) {n : Int} (hn : 0 ≤ n) (hn' : n ≤ 2000000000000000000) : impl_root.f k n = some (rt n) := by
  obtain ⟨r, hr, h⟩ := impl_root_loop hn 32 k 0 2147483648 hk (by omega) (by omega) (by omega) (by decide) (by omega) (by omega)
  unfold impl_root.f
  rw [hr, rt_eq h]

theorem impl_FixClamp_eq (a : Int) : impl_FixClamp.f a = some (cl a) := by
  unfold impl_FixClamp.f
  rw [impl_within_eq (by omega) (by omega), wi_cl]; rfl

theorem impl_VecLen_eq {k : Nat} (hk : 65 < k) (a b : Int) : impl_VecLen.f k a b = some (vlen a b) := by
  have := vsq_bd a b
  unfold impl_VecLen.f vlen
  simp only [impl_Vec_clamped_cl, impl_Vec_square_cl, Option.bind_some]
  rw [impl_root_eq (by omega) (by omega) (by omega)]
  simp only [impl_FixClamp_eq, Option.bind_some]

theorem impl_VecUnit_eq {k : Nat} (hk : 65 < k) (a b : Int) : impl_VecUnit.f k a b = some (vunit a b) := by
  unfold impl_VecUnit.f vunit
  simp only [impl_Vec_clamped_cl, Option.bind_some, impl_VecLen_eq hk, vlen_cl]
  split
  · rfl
  · rename_i h
    rw [vunit_wrap a b h, vunit_wrap' a b h]

theorem impl_rounds_eq {k : Nat} (hk : 65 < k) (a b w c d v : Int) : impl_rounds.f k a b w c d v = some (rnds a b c d (wrap64 (w + v))) := by
  unfold impl_rounds.f rnds impl_Vec_square.f
  simp only [impl_Vec_minus_eq, Option.bind_some]
  split
  · rfl
  · simp only [impl_VecUnit_eq hk, impl_VecLen_eq hk, Option.bind_some]

theorem impl_Box_meets_eq (a b c d e f g h : Int) : impl_Box_meets.f a b c d e f g h = some (meets a b c d e f g h) := by
  unfold impl_Box_meets.f meets
  by_cases h1 : a ≤ g <;> by_cases h2 : e ≤ c <;> by_cases h3 : b ≤ h <;> simp [h1, h2, h3]

theorem impl_boxes_eq {k : Nat} (hk : 3 < k) (a b c d e f g h : Int) : impl_boxes.f k a b c d e f g h = some (bxs a b c d e f g h) := by
  obtain ⟨k, rfl⟩ : ∃ m, k = m + 1 + 1 + 1 + 1 := ⟨k - 4, by omega⟩
  unfold impl_boxes.f bxs least
  simp only [impl_Box_meets_eq, Option.bind_some]
  generalize wrap64 (c - e) = r
  generalize wrap64 (g - a) = l
  generalize wrap64 (d - f) = u
  generalize wrap64 (h - b) = n
  have w1 : wrap64 1 = 1 := wrap_id (by decide) (by decide)
  have w2 : wrap64 2 = 2 := wrap_id (by decide) (by decide)
  have w3 : wrap64 3 = 3 := wrap_id (by decide) (by decide)
  by_cases hm : meets a b c d e f g h = true
  · rw [if_pos hm, if_pos hm]
    by_cases h1 : l < r
    · rw [if_pos h1]
      by_cases h2 : u < l
      · by_cases h3 : n < u <;> simp [impl_boxes.l0, rd_T35, w1, w2, w3, h1, h2, h3]
      · by_cases h3 : n < l <;> simp [impl_boxes.l0, rd_T35, w1, w2, w3, h1, h2, h3]
    · rw [if_neg h1]
      by_cases h2 : u < r
      · by_cases h3 : n < u <;> simp [impl_boxes.l0, rd_T35, w1, w2, w3, h1, h2, h3]
      · by_cases h3 : n < r <;> simp [impl_boxes.l0, rd_T35, w1, w2, w3, h1, h2, h3]
  · rw [if_neg hm, if_neg hm]

theorem impl_Box_has_eq (a b c d x y : Int) : impl_Box_has.f a b c d x y = some (point a b c d x y) := by
  unfold impl_Box_has.f point
  simp only [impl_in_eq, Option.bind_some]
  cases inB x a c <;> simp

theorem impl_Box_near_eq (a b c d x y : Int) : impl_Box_near.f a b c d x y = some (max a (min x c), max b (min y d)) := by
  unfold impl_Box_near.f
  simp only [mx_eq, mn_eq]

theorem impl_boxRound_eq {k : Nat} (hk : 65 < k) {a b c d x y w : Int} (h1 : a ≤ c) (h2 : b ≤ d) (hw : 0 ≤ w) (hw' : w ≤ 1000000000) : impl_boxRound.f k a b c d x y w = some (mxd a b c d x y w) := by
  unfold impl_boxRound.f mxd
  simp only [impl_Box_has_eq, Option.bind_some, impl_boxes_eq (show 3 < k by omega), impl_Box_near_eq, impl_rounds_eq hk]
  split
  · rfl
  · rw [wrap_id (n := 0 + w) (by omega) (by omega), Int.zero_add, show max a (min x c) = min (max x a) c by omega, show max b (min y d) = min (max y b) d by omega]

theorem impl_Vec_plus_eq (a b c d : Int) : impl_Vec_plus.f a b c d = some (wrap64 (a + c), wrap64 (b + d)) := rfl

theorem impl_Shape_bounds_eq (k w h x y : Int) : impl_Shape_bounds.f k w h x y = some (bnd k w h x y) := by
  unfold impl_Shape_bounds.f bnd
  simp only [impl_Vec_minus_eq, impl_Vec_plus_eq, Option.bind_some]
  split <;> rfl

theorem impl_Vec_opposite_eq (a b : Int) : impl_Vec_opposite.f a b = some (wrap64 (-a), wrap64 (-b)) := rfl

theorem bnd_ok {k w h x y : Int} (hs : shapeOk k w h = true) (hp : place x y = true) :
    bnd k w h x y = (x - w, y - (if k = 1 then w else h), x + w, y + (if k = 1 then w else h)) ∧ (1 ≤ w ∧ w ≤ 25600) ∧ (1 ≤ (if k = 1 then w else h) ∧ (if k = 1 then w else h) ≤ 25600) ∧ (-2560000 ≤ x ∧ x ≤ 2560000) ∧ (-2560000 ≤ y ∧ y ≤ 2560000) ∧ (k = 1 ∨ k = 2) := by
  simp only [place, Bool.and_eq_true, inB_iff] at hp
  unfold shapeOk at hs
  by_cases h1 : k = 1
  · rw [if_pos h1] at hs
    simp only [Bool.and_eq_true, inB_iff] at hs
    unfold bnd
    rw [if_pos h1, wrap_id (by omega) (by omega), wrap_id (by omega) (by omega), wrap_id (by omega) (by omega), wrap_id (by omega) (by omega)]
    exact ⟨rfl, hs.1, hs.1, hp.1, hp.2, .inl h1⟩
  · rw [if_neg h1] at hs
    by_cases h2 : k = 2
    · rw [if_pos h2] at hs
      simp only [Bool.and_eq_true, inB_iff] at hs
      unfold bnd
      rw [if_neg h1, wrap_id (by omega) (by omega), wrap_id (by omega) (by omega), wrap_id (by omega) (by omega), wrap_id (by omega) (by omega)]
      exact ⟨rfl, hs.1, hs.2, hp.1, hp.2, .inr h2⟩
    · rw [if_neg h2] at hs
      cases hs

/-- Touch, of what is ok. -/
def tok (s w h x y s' w' h' x' y' : Int) : Int × Int × Int × Bool :=
  if shapeOk s w h && (shapeOk s' w' h' && (place x y && place x' y')) then tch s w h x y s' w' h' x' y' else (0, 0, 0, false)

theorem impl_Touch_eq {k : Nat} (hk : 70 < k) (s w h x y s' w' h' x' y' : Int) : impl_Touch.f k s w h x y s' w' h' x' y' = some (tok s w h x y s' w' h' x' y') := by
  obtain ⟨k, rfl⟩ : ∃ m, k = m + 1 + 1 + 1 := ⟨k - 3, by omega⟩
  unfold impl_Touch.f tok
  simp only [impl_ShapeOk_eq, impl_isPlace_eq, Option.bind_some, impl_Touch.j0]
  cases hs : shapeOk s w h
  · simp
  cases hs' : shapeOk s' w' h'
  · simp
  cases hp : place x y
  · simp
  cases hp' : place x' y'
  · simp
  obtain ⟨e1, w1, v1, _, _, k1⟩ := bnd_ok hs hp
  obtain ⟨e2, w2, v2, _, _, k2⟩ := bnd_ok hs' hp'
  simp only [Bool.not_true, Bool.and_self, if_true, Bool.false_eq_true, if_false]
  unfold tch
  simp only [impl_Touch.j1, impl_Touch.j2, impl_rounds_eq (show 65 < k + 1 by omega), impl_Shape_bounds_eq, impl_boxes_eq (show 3 < k by omega), Option.bind_some, impl_Vec_opposite_eq]
  rcases k1 with rfl | rfl
  · rcases k2 with rfl | rfl
    · simp
    · rw [e2]
      simp only [impl_boxRound_eq (show 65 < k by omega) (show x' - w' ≤ x' + w' by omega) (show y' - (if (2 : Int) = 1 then w' else h') ≤ y' + (if (2 : Int) = 1 then w' else h') by omega) (show 0 ≤ w by omega) (show w ≤ 1000000000 by omega), Option.bind_some]
      cases hm : (mxd (x' - w') (y' - (if (2 : Int) = 1 then w' else h')) (x' + w') (y' + (if (2 : Int) = 1 then w' else h')) x y w).2.2.2
      · rw [mxd_no hm]
        simp
        exact wrap_id (by omega) (by omega)
      · simp at hm ⊢
  · rcases k2 with rfl | rfl
    · rw [e1]
      simp only [impl_boxRound_eq (show 65 < k by omega) (show x - w ≤ x + w by omega) (show y - (if (2 : Int) = 1 then w else h) ≤ y + (if (2 : Int) = 1 then w else h) by omega) (show 0 ≤ w' by omega) (show w' ≤ 1000000000 by omega), Option.bind_some]
      simp
    · simp

theorem wi_same (a m : Int) (h : 0 ≤ m) : (a == wi a m) = inB a (-m) m := by
  rw [Bool.eq_iff_iff, beq_iff_eq, inB_iff]
  unfold wi
  omega
theorem impl_isDrive_eq (a b : Int) : impl_isDrive.f a b = some (drv a b) := by
  unfold impl_isDrive.f drv
  rw [impl_Vec_clamped_eq (by omega) (by omega)]
  simp only [Option.bind_some, wi_same _ 20000000 (by omega)]

theorem impl_Body_fixed_eq (i sk sw sh ax ay dx dy m bo ru q : Int) : impl_Body_fixed.f i sk sw sh ax ay dx dy m bo ru q = some (m == 0) := rfl

theorem impl_Body_sleeps_eq (i sk sw sh ax ay dx dy m bo ru q : Int) : impl_Body_sleeps.f i sk sw sh ax ay dx dy m bo ru q = some (q == 8) := rfl

theorem impl_BodyOk_eq {k : Nat} (hk : 1 < k) (i sk sw sh ax ay dx dy m bo ru q : Int) : impl_BodyOk.f k i sk sw sh ax ay dx dy m bo ru q = some (bodyOk i sk sw sh ax ay dx dy m bo ru q) := by
  obtain ⟨k, rfl⟩ : ∃ m, k = m + 1 + 1 := ⟨k - 2, by omega⟩
  unfold impl_BodyOk.f bodyOk
  simp only [impl_in_eq, impl_ShapeOk_eq, impl_isPlace_eq, impl_isDrive_eq, Option.bind_some, impl_BodyOk.j0, impl_BodyOk.j1, impl_Body_fixed_eq, impl_Body_sleeps_eq]
  cases inB i 0 999999999
  · simp
  cases shapeOk sk sw sh
  · simp
  cases place ax ay
  · simp
  cases drv dx dy
  · simp
  cases inB m 0 1000
  · simp
  cases inB bo 0 256
  · simp
  cases inB ru 0 256
  · simp
  cases hq8 : inB q 0 8
  · simp
  rw [inB_iff] at hq8
  unfold rest0
  by_cases hm : m = 0
  · cases hd : (dx == 0 && (dy == 0))
    · simp [hm]
    · by_cases hq : q = 0 <;> simp [hm, hq]
  · by_cases hq : q = 8
    · simp [hm, hq]
    · simp [hm, hq, show q < 8 by omega]

theorem impl_BodiesOk_loop (l : List S41) (hm : l.length ≤ 9223372036854775807) : ∀ (d k : Nat) (i : Int), d + 2 < k → 0 ≤ i → (l.length : Int) - i = d → impl_BodiesOk.l0 k l l (l.length : Int) i = some (chkB l d i) := by
  intro d
  induction d with
  | zero =>
    intro k i hk h0 hd
    obtain ⟨k, rfl⟩ : ∃ m, k = m + 1 := ⟨k - 1, by omega⟩
    simp only [impl_BodiesOk.l0, chkB]
    rw [if_neg (by omega)]
  | succ d ih =>
    intro k i hk h0 hd
    obtain ⟨k, rfl⟩ : ∃ m, k = m + 1 := ⟨k - 1, by omega⟩
    have e1 : wrap64 (i + 1) = i + 1 := wrap_id (by omega) (by omega)
    simp only [impl_BodiesOk.l0, chkB]
    rw [if_pos (by omega), if_pos h0, if_pos (by omega), impl_BodyOk_eq (by omega), e1]
    simp only [Option.bind_some]
    have hr := ih k (i + 1) (by omega) (by omega) (by omega)
    unfold bok
    split
    · by_cases hi : i > 0
      · have e2 : wrap64 (i - 1) = i - 1 := wrap_id (by omega) (by omega)
        rw [if_pos hi, if_pos hi, e2, if_pos (by omega), if_pos (by omega), hr]
        split <;> rfl
      · rw [if_neg hi, if_neg hi, hr]
    · rfl
theorem impl_BodiesOk_eq {k : Nat} {l : List S41} (hm : l.length ≤ 9223372036854775807) (hk : l.length + 2 < k) : impl_BodiesOk.f k l = some (bodiesOk l) :=
  impl_BodiesOk_loop l hm l.length k 0 hk (by omega) (by omega)

theorem chkB_get (l : List S41) : ∀ (d : Nat) (i : Int), 0 ≤ i → (l.length : Int) - i = d → chkB l d i = true → ((l.length : Int) ≤ 12 ∧ ∀ j : Int, i ≤ j → j < l.length → bok (rd_T41 l j) = true) := by
  intro d
  induction d with
  | zero =>
    intro i h0 hd h
    simp only [chkB, decide_eq_true_eq] at h
    exact ⟨h, fun j h1 h2 => by omega⟩
  | succ d ih =>
    intro i h0 hd h
    simp only [chkB] at h
    split at h
    · rename_i hb
      have h' : chkB l d (i + 1) = true := by
        split at h
        · split at h
          · cases h
          · exact h
        · exact h
      obtain ⟨hl, hr⟩ := ih (i + 1) (by omega) (by omega) h'
      refine ⟨hl, fun j h1 h2 => ?_⟩
      by_cases hj : j = i
      · rw [hj]; exact hb
      · exact hr j (by omega) h2
    · cases h
theorem bodiesOk_get {l : List S41} (h : bodiesOk l = true) : l.length ≤ 12 ∧ ∀ j : Int, 0 ≤ j → j < l.length → bok (rd_T41 l j) = true := by
  obtain ⟨h1, h2⟩ := chkB_get l l.length 0 (by omega) (by omega) h
  exact ⟨by omega, h2⟩
theorem bok_shape {x : S41} (h : bok x = true) : shapeOk x.f1.f0 x.f1.f1 x.f1.f2 = true ∧ place x.f2.f0 x.f2.f1 = true := by
  unfold bok bodyOk at h
  simp only [Bool.and_eq_true] at h
  simp [h]

theorem tok_ok {x y : S41} (hx : bok x = true) (hy : bok y = true) : tok x.f1.f0 x.f1.f1 x.f1.f2 x.f2.f0 x.f2.f1 y.f1.f0 y.f1.f1 y.f1.f2 y.f2.f0 y.f2.f1 = tcb x y := by
  obtain ⟨h1, h2⟩ := bok_shape hx
  obtain ⟨h3, h4⟩ := bok_shape hy
  unfold tok tcb
  rw [h1, h2, h3, h4]
  simp
theorem impl_Contacts_in (l : List S41) (hm : l.length ≤ 12) (hb : ∀ j : Int, 0 ≤ j → j < l.length → bok (rd_T41 l j) = true) (i : Int) (h0 : 0 ≤ i) (h1 : i < l.length) : ∀ (d k : Nat) (j : Int) (out : List S37), 70 < k → 0 ≤ j → (l.length : Int) - j = d → out.length + d < 3518437208883 →
    impl_Contacts.l1 (2 * d + 1 + k) l out i j l (l.length : Int) i (rd_T41 l i).f0 (rd_T41 l i).f1.f0 (rd_T41 l i).f1.f1 (rd_T41 l i).f1.f2 (rd_T41 l i).f2.f0 (rd_T41 l i).f2.f1 (rd_T41 l i).f3.f0 (rd_T41 l i).f3.f1 (rd_T41 l i).f4 (rd_T41 l i).f5 (rd_T41 l i).f6 (rd_T41 l i).f7 = impl_Contacts.l0 k l (out ++ ctJ l i d j) l (l.length : Int) (i + 1) := by
  intro d
  induction d with
  | zero =>
    intro k j out hk hj hd ho
    rw [show 2 * 0 + 1 + k = k + 1 by omega]
    simp only [impl_Contacts.l1, ctJ, List.append_nil]
    rw [if_neg (by omega), wrap_id (by omega) (by omega)]
  | succ d ih =>
    intro k j out hk hj hd ho
    rw [show 2 * (d + 1) + 1 + k = (2 * d + 1 + k) + 1 + 1 by omega]
    have e1 : wrap64 (j + 1) = j + 1 := wrap_id (by omega) (by omega)
    have nx := fun o ho' => ih k (j + 1) o hk (by omega) (by omega) ho'
    have inner : ∀ b : Bool, (b = true → (rd_T41 l i).f4 = 0 ∧ (rd_T41 l j).f4 = 0) → (b = false → ¬ ((rd_T41 l i).f4 = 0 ∧ (rd_T41 l j).f4 = 0)) →
        impl_Contacts.j2 (2 * d + 1 + k + 1) l out i j l (l.length : Int) i b (rd_T41 l i).f0 (rd_T41 l i).f1.f0 (rd_T41 l i).f1.f1 (rd_T41 l i).f1.f2 (rd_T41 l i).f2.f0 (rd_T41 l i).f2.f1 (rd_T41 l i).f3.f0 (rd_T41 l i).f3.f1 (rd_T41 l i).f4 (rd_T41 l i).f5 (rd_T41 l i).f6 (rd_T41 l i).f7 = impl_Contacts.l0 k l (out ++ ctJ l i (d + 1) j) l (l.length : Int) (i + 1) := by
      intro b hb1 hb0
      simp only [impl_Contacts.j2, ctJ]
      cases b
      · rw [if_neg (by simp), if_pos hj, if_pos (by omega)]
        unfold impl_Body_touch.f
        rw [impl_Touch_eq (by omega), tok_ok (hb i h0 h1) (hb j hj (by omega))]
        simp only [Option.bind_some]
        unfold ct
        rw [if_neg (hb0 rfl)]
        split
        · rw [if_pos (by omega), e1, nx _ (by simp; omega)]
          simp
        · rw [e1, nx _ (by omega)]
          simp
      · rw [if_pos rfl, e1, nx _ (by omega)]
        unfold ct
        rw [if_pos (hb1 rfl)]
        simp
    simp only [impl_Contacts.l1, impl_Body_fixed.f, Option.bind_some]
    rw [if_pos (by omega)]
    by_cases hf : (rd_T41 l i).f4 = 0
    · rw [if_pos (by simp [hf]), if_pos hj]
      exact inner _ (fun hb => ⟨hf, by simpa using hb⟩) (fun hb hn => by simp [hn.2] at hb)
    · rw [if_neg (by simp [hf])]
      exact inner _ (fun hb => by cases hb) (fun _ hn => hf hn.1)
theorem impl_Contacts_out (l : List S41) (hm : l.length ≤ 12) (hb : ∀ j : Int, 0 ≤ j → j < l.length → bok (rd_T41 l j) = true) : ∀ (d k : Nat) (i : Int) (out : List S37), 70 < k → 0 ≤ i → (l.length : Int) - i = d → out.length + d * 1000 < 3518437208883 →
    impl_Contacts.l0 (gas d + k) l out l (l.length : Int) i = some (out ++ ctI l d i) := by
  intro d
  induction d with
  | zero =>
    intro k i out hk h0 hd ho
    rw [show gas 0 + k = k + 1 by simp [gas]; omega]
    simp only [impl_Contacts.l0, ctI, List.append_nil]
    rw [if_neg (by omega)]
  | succ d ih =>
    intro k i out hk h0 hd ho
    rw [show gas (d + 1) + k = (2 * d + 1 + (gas d + k)) + 1 by simp [gas]; omega]
    simp only [impl_Contacts.l0, ctI]
    have := ctJ_len l i d (i + 1)
    rw [if_pos (by omega), if_pos h0, if_pos (by omega), wrap_id (by omega) (by omega), impl_Contacts_in l hm hb i h0 (by omega) d _ (i + 1) out (by omega) (by omega) (by omega) (by omega), ih k (i + 1) _ hk (by omega) (by omega) (by rw [List.length_append]; omega)]
    simp
theorem impl_Contacts_eq {l : List S41} (hm : l.length ≤ 9223372036854775807) {k : Nat} (hk : gas l.length + l.length + 70 < k) : impl_Contacts.f k l = some (if bodiesOk l = true then cts l else []) := by
  unfold impl_Contacts.f
  rw [impl_BodiesOk_eq hm (by omega)]
  simp only [Option.bind_some]
  by_cases h : bodiesOk l = true
  · obtain ⟨h1, h2⟩ := bodiesOk_get h
    obtain ⟨m, rfl⟩ : ∃ m, k = gas l.length + m := ⟨k - gas l.length, by omega⟩
    rw [if_pos h, if_pos h, impl_Contacts_out l h1 h2 l.length m 0 _ (by omega) (by omega) (by omega) (by simp; omega)]
    simp [cts]
  · rw [if_neg h, if_neg h]

theorem ctJ_mem (l : List S41) (i : Int) : ∀ (d : Nat) (j : Int) (c : S37), c ∈ ctJ l i d j → ∃ q : Int, j ≤ q ∧ q < j + d ∧ c ∈ ct l i q := by
  intro d
  induction d with
  | zero => intro j c h; cases h
  | succ d ih =>
    intro j c h
    simp only [ctJ, List.mem_append] at h
    rcases h with h | h
    · exact ⟨j, by omega, by omega, h⟩
    · obtain ⟨q, a, b, c⟩ := ih _ _ h
      exact ⟨q, by omega, by omega, c⟩
theorem ctI_mem (l : List S41) : ∀ (d : Nat) (i : Int) (c : S37), (l.length : Int) - i = d → c ∈ ctI l d i → ∃ p q : Int, i ≤ p ∧ p < q ∧ q < l.length ∧ c ∈ ct l p q := by
  intro d
  induction d with
  | zero => intro i c _ h; cases h
  | succ d ih =>
    intro i c hd h
    simp only [ctI, List.mem_append] at h
    rcases h with h | h
    · obtain ⟨q, a, b, h⟩ := ctJ_mem l i d _ c h
      exact ⟨i, q, by omega, by omega, by omega, h⟩
    · obtain ⟨p, q, a, b, c, h⟩ := ih _ _ (by omega) h
      exact ⟨p, q, by omega, b, c, h⟩
theorem ct_mem {l : List S41} {i j : Int} {c : S37} (h : c ∈ ct l i j) : c.f0 = i ∧ c.f1 = j := by
  unfold ct at h
  split at h
  · cases h
  · split at h
    · simp only [List.mem_singleton] at h
      subst h
      exact ⟨rfl, rfl⟩
    · cases h
theorem cts_mem {l : List S41} {c : S37} (h : c ∈ cts l) : ∃ p q : Int, 0 ≤ p ∧ p < q ∧ q < l.length ∧ c ∈ ct l p q ∧ c.f0 = p ∧ c.f1 = q := by
  obtain ⟨p, q, a, b, e, h⟩ := ctI_mem l l.length 0 c (by omega) h
  exact ⟨p, q, a, b, e, h, (ct_mem h).1, (ct_mem h).2⟩
theorem cts_ok (l : List S41) : CtOk l.length (cts l) := by
  intro i h0 h1
  have : rd_T37 (cts l) i ∈ cts l := by
    unfold rd_T37
    rw [List.getD_eq_getElem?_getD, List.getElem?_eq_getElem (show i.toNat < (cts l).length by omega)]
    exact List.getElem_mem _
  obtain ⟨p, q, a, b, c, _, e1, e2⟩ := cts_mem this
  omega

theorem ctI_len (l : List S41) : ∀ (d : Nat) (i : Int), (ctI l d i).length ≤ d * d := by
  intro d
  induction d with
  | zero => intro i; simp [ctI]
  | succ d ih =>
    intro i
    have := ctJ_len l i d (i + 1)
    have := ih (i + 1)
    simp only [ctI, List.length_append]
    have : (d + 1) * (d + 1) = d * d + 2 * d + 1 := by rw [Nat.add_mul, Nat.mul_add]; omega
    omega
theorem cts_len {l : List S41} (h : l.length ≤ 12) : (cts l).length ≤ 144 := by
  have := ctI_len l l.length 0
  have : l.length * l.length ≤ 12 * 12 := Nat.mul_le_mul h h
  unfold cts
  omega

def gset (T : Nat → Bool) (c : Int) (g : Nat → Int) : Nat → Int := fun j => if T j = true then c else g j
def passC (E : List (Nat × Nat)) (T : Nat → Bool) : Bool := match E with
  | [] => false
  | e :: E => (T e.1 != T e.2) || passC E (step1 T e)
theorem step1_same {T : Nat → Bool} {e : Nat × Nat} (h : T e.1 = T e.2) : step1 T e = T := by
  funext j
  rw [Bool.eq_iff_iff]
  exact ⟨step1_in h (fun _ h => h) j, step1_mono⟩
theorem passC_closed : ∀ (E : List (Nat × Nat)) (T : Nat → Bool), passC E T = false → Closed E T := by
  intro E
  induction E with
  | nil => intro T _ e he; cases he
  | cons x E ih =>
    intro T h e he
    simp only [passC, Bool.or_eq_false_iff, bne_eq_false_iff_eq] at h
    have h2 := h.2
    rw [step1_same h.1] at h2
    rcases List.mem_cons.1 he with rfl | he
    · exact h.1
    · exact ih T h2 e he
theorem closed_passC : ∀ (E : List (Nat × Nat)) (T : Nat → Bool), Closed E T → passC E T = false := by
  intro E
  induction E with
  | nil => intro T _; rfl
  | cons x E ih =>
    intro T h
    have h1 := h x (List.mem_cons_self ..)
    simp only [passC, Bool.or_eq_false_iff, bne_eq_false_iff_eq]
    rw [step1_same h1]
    exact ⟨h1, ih T fun e he => h e (List.mem_cons_of_mem _ he)⟩
theorem impl_Groups_pass {l : List S41} {cs : List S37} (hm : l.length ≤ 1000) (hcm : cs.length ≤ 1000000) (hc : CtOk l.length cs) (c : Int) (x31 : List S41) (x32 x33 : Int) (g0 : Nat → Int) (hg0 : ∀ j, j < l.length → g0 j ≠ c) : ∀ (d k : Nat) (i : Int) (xs : List Int) (T : Nat → Bool) (chg : Bool), 0 ≤ i → (cs.length : Int) - i = d → Rp l.length xs (gset T c g0) →
    ∃ ys, Rp l.length ys (gset (pass (edF l cs d i) T) c g0) ∧ impl_Groups.l3 (d + 1 + k) l xs cs c chg x31 x32 x33 cs (cs.length : Int) i = impl_Groups.l2 k l ys cs c (chg || passC (edF l cs d i) T) x31 x32 x33 := by
  intro d
  induction d with
  | zero =>
    intro k i xs T chg h0 hd hx
    refine ⟨xs, hx, ?_⟩
    rw [show 0 + 1 + k = k + 1 by omega, impl_Groups.l3, if_neg (by omega)]
    simp [edF, passC]
  | succ d ih =>
    intro k i xs T chg h0 hd hx
    have e1 : wrap64 (i + 1) = i + 1 := wrap_id (by omega) (by omega)
    obtain ⟨a, a', b, b'⟩ := hc i h0 (by omega)
    have hxl := hx.1
    rw [show d + 1 + 1 + k = (d + 1 + k) + 1 by omega]
    simp only [impl_Groups.l3, e1, impl_Body_fixed.f, Option.bind_some]
    rw [if_pos (show i < (cs.length : Int) by omega), if_pos h0, if_pos (show i < (cs.length : Int) by omega), if_pos a, if_pos a']
    by_cases h1 : (rd_T41 l (rd_T37 cs i).f0).f4 = 0
    · have he : edge l (rd_T37 cs i) = [] := by unfold edge; rw [if_pos (.inl h1)]
      rw [if_pos (by simpa using h1)]
      simp only [edF, he, List.nil_append]
      exact ih k (i + 1) xs T chg (by omega) (by omega) hx
    · rw [if_neg (by simpa using h1), if_pos b, if_pos b']
      by_cases h2 : (rd_T41 l (rd_T37 cs i).f1).f4 = 0
      · have he : edge l (rd_T37 cs i) = [] := by unfold edge; rw [if_pos (.inr h2)]
        rw [if_pos (by simpa using h2)]
        simp only [edF, he, List.nil_append]
        exact ih k (i + 1) xs T chg (by omega) (by omega) hx
      · have he : edge l (rd_T37 cs i) = [((rd_T37 cs i).f0.toNat, (rd_T37 cs i).f1.toNat)] := by unfold edge; rw [if_neg (by rintro (h | h) <;> contradiction)]
        rw [if_neg (by simpa using h2), if_pos (by omega), if_pos (by omega), hx.at_ a a', hx.at_ b b']
        have hb : ∀ j, j < l.length → (gset T c g0 j == c) = T j := by
          intro j hj
          unfold gset
          cases hT : T j
          · simpa using hg0 j hj
          · simp
        rw [hb _ (by omega), hb _ (by omega)]
        simp only [edF, he, List.singleton_append, passC, pass, List.foldl_cons]
        generalize hea : (rd_T37 cs i).f0.toNat = ea
        generalize heb : (rd_T37 cs i).f1.toNat = eb
        by_cases hs : T ea = T eb
        · rw [if_pos (by simp [hs])]
          rw [step1_same (e := (ea, eb)) hs, show (T (ea, eb).1 != T (ea, eb).2) = false by simpa using hs, Bool.false_or]
          exact ih k (i + 1) xs T chg (by omega) (by omega) hx
        · rw [if_neg (by simpa using hs), show (T (ea, eb).1 != T (ea, eb).2) = true by simpa using hs]
          have hr : Rp l.length ((xs.set ea c).set eb c) (gset (step1 T (ea, eb)) c g0) := by
            have key : ∀ j, step1 T (ea, eb) j = (T j || (j == ea || j == eb)) := by
              intro j
              unfold step1
              rw [if_pos (by
                show (T ea || T eb) = true
                cases hq : T ea <;> cases hq2 : T eb
                · rw [hq, hq2] at hs; exact absurd rfl hs
                all_goals rfl)]
            refine ((hx.set ea _).set eb _).congr fun j hj => ?_
            show (if j = eb then c else if j = ea then c else gset T c g0 j) = gset (step1 T (ea, eb)) c g0 j
            unfold gset
            rw [key]
            by_cases h2 : j = eb
            · rw [if_pos h2, if_pos (by simp [h2])]
            · rw [if_neg h2]
              by_cases h1 : j = ea
              · rw [if_pos h1, if_pos (by simp [h1])]
              · rw [if_neg h1, beq_eq_false_iff_ne.2 h1, beq_eq_false_iff_ne.2 h2, Bool.or_false, Bool.or_false]
          obtain ⟨ys, hy, he⟩ := ih k (i + 1) _ _ true (by omega) (by omega) hr
          refine ⟨ys, hy, ?_⟩
          rw [he]
          simp
theorem gset_card {n : Nat} {E : List (Nat × Nat)} (hE : ∀ e ∈ E, e.1 < n ∧ e.2 < n) {T : Nat → Bool} (h : passC E T = true) : card n T < card n (pass E T) :=
  card_grows hE fun hc => by rw [closed_passC E T hc] at h; cases h
theorem impl_Groups_fill {l : List S41} {cs : List S37} (hm : l.length ≤ 1000) (hcm : cs.length ≤ 1000000) (hc : CtOk l.length cs) (c : Int) (x31 : List S41) (x32 x33 : Int) (g0 : Nat → Int) (hg0 : ∀ j, j < l.length → g0 j ≠ c) (W : Nat) (hW : W = cs.length + 3) :
    ∀ (d k : Nat) (xs : List Int) (T : Nat → Bool) (i : Nat), l.length - card l.length T < d → d * W < k → Rp l.length xs (gset T c g0) → i < l.length → T i = true → (∀ j, T j = true → comp (edges l cs) l.length i j = true) →
    ∃ ys k', k ≤ k' + d * W + 1 ∧ Rp l.length ys (gset (comp (edges l cs) l.length i) c g0) ∧ impl_Groups.l2 k l xs cs c true x31 x32 x33 = impl_Groups.l1 k' l ys cs (wrap64 (c + 1)) x31 x32 (wrap64 (x33 + 1)) := by
  intro d
  induction d with
  | zero => intro k xs T i h; omega
  | succ d ih =>
    intro k xs T i hd hk hx hi hT hTc
    have e : (d + 1) * W = d * W + W := by rw [Nat.add_mul]; omega
    rw [e] at hk ⊢
    generalize d * W = D at hk ⊢ ih
    obtain ⟨m, rfl⟩ : ∃ m, k = (cs.length + 1 + (m + 1)) + 1 := ⟨k - cs.length - 3, by omega⟩
    obtain ⟨ys, hy, he⟩ := impl_Groups_pass hm hcm hc c x31 x32 x33 g0 hg0 cs.length (m + 1) 0 xs T false (by omega) (by omega) hx
    rw [impl_Groups.l2, if_pos rfl, he, Bool.false_or]
    have hin : ∀ j, pass (edges l cs) T j = true → comp (edges l cs) l.length i j = true := pass_in _ (comp_closed (edges_lt hc) hi) hTc
    change Rp l.length ys (gset (pass (edges l cs) T) c g0) at hy
    change ∃ ys_1 k', _ ∧ _ ∧ impl_Groups.l2 (m + 1) l ys cs c (passC (edges l cs) T) x31 x32 x33 = _
    cases hp : passC (edges l cs) T
    · have hcl := passC_closed _ _ hp
      rw [pass_closed hcl] at hy
      refine ⟨ys, m, by omega, hy.congr fun j hj => ?_, ?_⟩
      · have : T j = comp (edges l cs) l.length i j := by
          rw [Bool.eq_iff_iff]
          exact ⟨hTc j, comp_least hcl hT j⟩
        unfold gset
        rw [this]
      · rw [impl_Groups.l2, if_neg (by decide)]
    · have hg := gset_card (edges_lt hc) hp
      have hcl := card_le l.length (pass (edges l cs) T)
      obtain ⟨zs, k', hk', hz, hze⟩ := ih (m + 1) ys (pass (edges l cs) T) i (by omega) (by omega) hy hi (pass_mono _ hT) hin
      exact ⟨zs, k', by omega, hz, hze⟩
theorem impl_Groups_outer {l : List S41} {cs : List S37} (hm : l.length ≤ 1000) (hcm : cs.length ≤ 1000000) (hc : CtOk l.length cs) (B : Nat) (hB : B = (l.length + 1) * (cs.length + 3) + 10) : ∀ (d k i : Nat) (xs : List Int), (l.length : Int) - i = d → d * B < k →
    Rp l.length xs (fun j => if ms l j ≠ 0 ∧ lstC (edges l cs) l.length j < i then (cntB (rep l cs) (lstC (edges l cs) l.length j) : Int) else -1) →
    impl_Groups.l1 k l xs cs (cntB (rep l cs) i : Int) l (l.length : Int) (i : Int) = some (grp l cs) := by
  intro d
  induction d with
  | zero =>
    intro k i xs hd hk hx
    obtain ⟨k, rfl⟩ : ∃ m, k = m + 1 := ⟨k - 1, by omega⟩
    rw [impl_Groups.l1, if_neg (by omega)]
    have := (hx.congr (g' := grpv l cs) fun j hj => by
      have := (least_spec (edges_lt hc) hj).2.1
      show (if _ then _ else _) = grpv l cs j
      unfold grpv
      by_cases h : ms l j = 0
      · rw [if_neg (fun q => q.1 h), if_pos h]
      · rw [if_pos ⟨h, by omega⟩, if_neg h]).eq
    rw [this]
    rfl
  | succ d ih =>
    intro k i xs hd hk hx
    have e : (d + 1) * B = d * B + B := by rw [Nat.add_mul]; omega
    rw [e] at hk
    clear e
    generalize d * B = D at hk ih
    obtain ⟨k, rfl⟩ : ∃ m, k = m + 1 + 1 := ⟨k - 2, by omega⟩
    have hP : (l.length + 1) * (cs.length + 3) + 1 + D < k := by omega
    have hkD : D < k + 1 := by omega
    clear hB hk
    have hi : i < l.length := by omega
    have e1 : wrap64 ((i : Int) + 1) = ((i + 1 : Nat) : Int) := by rw [wrap_id (by omega) (by omega)]; omega
    have hxl := hx.1
    have hle := least_le (edges_lt hc) hi
    simp only [impl_Groups.l1, impl_Body_fixed.f, Option.bind_some]
    rw [if_pos (show (i : Int) < (l.length : Int) from Int.ofNat_lt.2 hi), if_pos (show (0 : Int) ≤ (i : Int) from Int.natCast_nonneg i), if_pos (show (i : Int) < (l.length : Int) from Int.ofNat_lt.2 hi)]
    -- what is told does not change where i is no first
    have skip : rep l cs i = false → impl_Groups.l1 k l xs cs (cntB (rep l cs) i : Int) l (l.length : Int) (wrap64 ((i : Int) + 1)) = some (grp l cs) := by
      intro hr
      have hcn : cntB (rep l cs) (i + 1) = cntB (rep l cs) i := by rw [cntB_succ, hr]; simp
      rw [e1, ← hcn]
      refine ih k (i + 1) xs (by omega) (by omega) (hx.congr fun j hj => ?_)
      show (if _ then _ else _) = if _ then _ else _
      by_cases h : ms l j ≠ 0 ∧ lstC (edges l cs) l.length j < i
      · rw [if_pos h, if_pos ⟨h.1, by omega⟩]
      · rw [if_neg h]
        by_cases h' : ms l j ≠ 0 ∧ lstC (edges l cs) l.length j < i + 1
        · exfalso
          have hri := rep_least hc hj h'.1
          have : lstC (edges l cs) l.length j = i := by
            rcases Nat.lt_or_ge (lstC (edges l cs) l.length j) i with q | q
            · exact absurd ⟨h'.1, q⟩ h
            · omega
          rw [this, hr] at hri
          cases hri
        · rw [if_neg h']
    by_cases hf : ms l i = 0
    · rw [if_pos (show ((rd_T41 l (i : Int)).f4 == 0) = true from beq_iff_eq.2 hf)]
      simp only [impl_Groups.j2]
      rw [if_pos trivial]
      exact skip (by unfold rep; rw [hf]; rfl)
    · rw [if_neg (show ¬ ((rd_T41 l (i : Int)).f4 == 0) = true from fun q => hf (beq_iff_eq.1 q)), if_pos (by omega), hx.at_ (by omega) (by omega)]
      simp only [impl_Groups.j2, Int.toNat_natCast]
      by_cases hlt : lstC (edges l cs) l.length i < i
      · rw [if_pos (show ms l i ≠ 0 ∧ _ from ⟨hf, hlt⟩), if_pos (by rw [decide_eq_true_eq]; omega)]
        exact skip (by unfold rep; rw [beq_eq_false_iff_ne.2 (show lstC (edges l cs) l.length i ≠ i by omega)]; simp)
      · have hLi : lstC (edges l cs) l.length i = i := by omega
        have hr : rep l cs i = true := by unfold rep; rw [hLi, beq_eq_false_iff_ne.2 hf]; simp
        rw [if_neg (show ¬ (ms l i ≠ 0 ∧ _) from fun q => hlt q.2), if_neg (by decide), if_pos (by omega), if_pos (by omega)]
        have hcn : cntB (rep l cs) (i + 1) = cntB (rep l cs) i + 1 := by rw [cntB_succ, hr]; simp
        have hcle := cntB_le_self (rep l cs) i
        have hst := (hx.set i (cntB (rep l cs) i : Int)).congr (g' := gset (fun j => j == i) (cntB (rep l cs) i : Int) (fun j => if ms l j ≠ 0 ∧ lstC (edges l cs) l.length j < i then (cntB (rep l cs) (lstC (edges l cs) l.length j) : Int) else -1)) fun j hj => by
          show (if j = i then (cntB (rep l cs) i : Int) else _) = if (j == i) = true then (cntB (rep l cs) i : Int) else _
          by_cases h : j = i
          · rw [if_pos h, if_pos (beq_iff_eq.2 h)]
          · rw [if_neg h, if_neg (fun q => h (beq_iff_eq.1 q))]
        have hfill := impl_Groups_fill hm hcm hc (cntB (rep l cs) i : Int) l (l.length : Int) (i : Int) (fun j => if ms l j ≠ 0 ∧ lstC (edges l cs) l.length j < i then (cntB (rep l cs) (lstC (edges l cs) l.length j) : Int) else -1) (fun j hj => by
          show (if _ then _ else _) ≠ _
          by_cases h : ms l j ≠ 0 ∧ lstC (edges l cs) l.length j < i
          · rw [if_pos h]
            have := cntB_lt h.2 (rep_least hc hj h.1)
            omega
          · rw [if_neg h]; omega) (cs.length + 3) rfl (l.length + 1) k _ (fun j => j == i) i (by omega) (by omega) hst hi (by simp) (fun j hj => by
            simp only [beq_iff_eq] at hj
            rw [hj]
            exact comp_refl _)
        obtain ⟨ys, k', hk', hy, hye⟩ := hfill
        rw [hye, e1, show wrap64 ((cntB (rep l cs) i : Int) + 1) = (cntB (rep l cs) (i + 1) : Int) by rw [wrap_id (by omega) (by omega), hcn]; omega]
        refine ih k' (i + 1) ys (by omega) (by omega) (hy.congr fun j hj => ?_)
        show (if comp (edges l cs) l.length i j = true then (cntB (rep l cs) i : Int) else if ms l j ≠ 0 ∧ lstC (edges l cs) l.length j < i then (cntB (rep l cs) (lstC (edges l cs) l.length j) : Int) else -1) = if ms l j ≠ 0 ∧ lstC (edges l cs) l.length j < i + 1 then (cntB (rep l cs) (lstC (edges l cs) l.length j) : Int) else -1
        have hiff : comp (edges l cs) l.length i j = true ↔ lstC (edges l cs) l.length j = i := by
          constructor
          · intro h; rw [← least_eq (edges_lt hc) hi h, hLi]
          · intro h; exact least_comp (edges_lt hc) hi hj (by rw [hLi, h])
        by_cases h : comp (edges l cs) l.length i j = true
        · have hj2 := hiff.1 h
          rw [if_pos h, if_pos ⟨comp_ms hc hf h, by omega⟩, hj2]
        · have hj2 : lstC (edges l cs) l.length j ≠ i := fun q => h (hiff.2 q)
          rw [if_neg h]
          by_cases h3 : ms l j ≠ 0 ∧ lstC (edges l cs) l.length j < i
          · rw [if_pos h3, if_pos ⟨h3.1, by omega⟩]
          · rw [if_neg h3, if_neg (fun q => h3 ⟨q.1, by omega⟩)]
theorem impl_Groups_first {l : List S41} (hm : l.length ≤ 1000) : ∀ (d k : Nat) (i : Nat) (xs : List Int), (l.length : Int) - i = d → xs.length = l.length → (∀ j, j < i → xs[j]? = some (-1)) →
    ∃ ys, Rp l.length ys (fun _ => -1) ∧ impl_Groups.l0 (d + 1 + k) l xs (l.length : Int) (i : Int) = (impl_Contacts.f k l).bind fun t => impl_Groups.l1 k l ys t 0 l (l.length : Int) 0 := by
  intro d
  induction d with
  | zero =>
    intro k i xs hd hx hxi
    refine ⟨xs, ⟨hx, fun j hj => hxi j (by omega)⟩, ?_⟩
    rw [show 0 + 1 + k = k + 1 by omega, impl_Groups.l0, if_neg (by omega)]
  | succ d ih =>
    intro k i xs hd hx hxi
    rw [show d + 1 + 1 + k = (d + 1 + k) + 1 by omega, impl_Groups.l0, if_pos (by omega), if_pos (by omega), if_pos (by omega), show wrap64 ((i : Int) + 1) = ((i + 1 : Nat) : Int) by rw [wrap_id (by omega) (by omega)]; omega, Int.toNat_natCast]
    refine ih k (i + 1) _ (by omega) (by rw [List.length_set]; exact hx) fun j hj => ?_
    rw [List.getElem?_set]
    by_cases h : i = j
    · rw [if_pos h, if_pos (by omega)]
    · rw [if_neg h]; exact hxi j (by omega)
theorem impl_Groups_eq {l : List S41} (hm : l.length ≤ 9223372036854775807) {k : Nat} (hk : gas l.length + l.length * 200000 + 1000 < k) : impl_Groups.f k l = some (if bodiesOk l = true then grp l (cts l) else []) := by
  unfold impl_Groups.f
  rw [impl_BodiesOk_eq hm (by omega)]
  simp only [Option.bind_some]
  by_cases h : bodiesOk l = true
  · have h12 := (bodiesOk_get h).1
    have hcl := ctI_len l l.length 0
    have hsq : l.length * l.length ≤ 12 * 12 := Nat.mul_le_mul h12 h12
    have hcl : (cts l).length ≤ 144 := by unfold cts; omega
    rw [if_pos h, if_pos h, if_pos (by omega), if_pos (by omega)]
    obtain ⟨m, rfl⟩ : ∃ m, k = l.length + 1 + m := ⟨k - l.length - 1, by omega⟩
    obtain ⟨ys, hy, he⟩ := impl_Groups_first (l := l) (by omega) l.length m 0 (List.replicate ((l.length : Int) : Int).toNat 0) (by omega) (by simp) (fun j hj => by omega)
    rw [List.length_replicate, show (((l.length : Int).toNat : Nat) : Int) = (l.length : Int) by omega]
    refine (show _ = _ from he).trans ?_
    rw [impl_Contacts_eq hm (by omega), if_pos h]
    simp only [Option.bind_some]
    have hB : (l.length + 1) * ((cts l).length + 3) ≤ 13 * 147 := Nat.mul_le_mul (by omega) (by omega)
    have hb2 : l.length * ((l.length + 1) * ((cts l).length + 3) + 10) ≤ l.length * 2000 := Nat.mul_le_mul_left _ (by omega)
    exact impl_Groups_outer (by omega) (by omega) (cts_ok l) _ rfl l.length m 0 ys (by omega) (by omega) (hy.congr fun j hj => by rw [if_neg (fun q => absurd q.2 (by omega))])
  · rw [if_neg h, if_neg h]

theorem impl_Groups_eq2 {l : List S41} (hm : l.length ≤ 9223372036854775807) {k : Nat} (hk : gas l.length + l.length * 200000 + 1000 < k) : impl_Groups.f k l = some (if bodiesOk l = true then grp l (cts l) else []) := impl_Groups_eq hm hk
theorem grp_len (l : List S41) (cs : List S37) : (grp l cs).length = l.length := by unfold grp; simp

def slp (l : List S41) (i : Nat) : Bool := decide ((rd_T41 l (i : Int)).f7 ≥ 8)
def awo (l : List S41) (cs : List S37) (i : Nat) (o : List Bool) : List Bool := if rep l cs i = true then o ++ [false] else o
/-- Who is awake of the groups of the first i bodies. -/
def aw (l : List S41) (cs : List S37) : Nat → List Bool
  | 0 => []
  | i + 1 => if ms l i = 0 ∨ slp l i = true then awo l cs i (aw l cs i) else (awo l cs i (aw l cs i)).set (cntB (rep l cs) (lstC (edges l cs) l.length i)) true
theorem awo_len (l : List S41) (cs : List S37) (i : Nat) (o : List Bool) : (awo l cs i o).length = o.length + (if rep l cs i = true then 1 else 0) := by
  unfold awo
  split <;> simp
theorem aw_len (l : List S41) (cs : List S37) : ∀ i, (aw l cs i).length = cntB (rep l cs) i := by
  intro i
  induction i with
  | zero => rfl
  | succ i ih =>
    rw [cntB_succ, ← ih]
    simp only [aw]
    split
    · exact awo_len l cs i _
    · rw [List.length_set]; exact awo_len l cs i _
theorem set_getD {α : Type} (xs : List α) (i : Nat) (z : α) : xs.set i (xs.getD i z) = xs := by
  by_cases h : i < xs.length
  · rw [List.getD_eq_getElem?_getD, List.getElem?_eq_getElem h]; simp
  · rw [List.set_eq_of_length_le (by omega)]
theorem grp_rd {l : List S41} {cs : List S37} {i : Nat} (hi : i < l.length) : rd (grp l cs) (i : Int) = grpv l cs i := by
  unfold grp rd
  rw [List.getD_eq_getElem?_getD, List.getElem?_map, Int.toNat_natCast, List.getElem?_range hi]
  rfl
/-- A body that can move: its group's number is the next one if it is a first, else one that there is. -/
theorem grp_next {l : List S41} {cs : List S37} (hc : CtOk l.length cs) {i : Nat} (hi : i < l.length) (hm : ms l i ≠ 0) :
    grpv l cs i = (cntB (rep l cs) (lstC (edges l cs) l.length i) : Int) ∧ ((rep l cs i = true ∧ cntB (rep l cs) (lstC (edges l cs) l.length i) = cntB (rep l cs) i) ∨ (rep l cs i = false ∧ cntB (rep l cs) (lstC (edges l cs) l.length i) < cntB (rep l cs) i)) := by
  refine ⟨by unfold grpv; rw [if_neg hm], ?_⟩
  have hle := least_le (edges_lt hc) hi
  rcases Nat.lt_or_ge (lstC (edges l cs) l.length i) i with h | h
  · right
    refine ⟨?_, cntB_lt h (rep_least hc hi hm)⟩
    unfold rep
    rw [beq_eq_false_iff_ne.2 (show lstC (edges l cs) l.length i ≠ i by omega)]
    simp
  · left
    have e : lstC (edges l cs) l.length i = i := by omega
    rw [e]
    refine ⟨?_, rfl⟩
    unfold rep
    rw [e, beq_eq_false_iff_ne.2 hm]
    simp
theorem rep_ms {l : List S41} {cs : List S37} {i : Nat} (h : ms l i = 0) : rep l cs i = false := by unfold rep; rw [h]; rfl
theorem grpv_fixed {l : List S41} {cs : List S37} {i : Nat} (h : ms l i = 0) : grpv l cs i = -1 := by unfold grpv; rw [if_pos h]

theorem q8 {q : Int} (h : q ≤ 8) : (q == 8) = decide (q ≥ 8) := by
  rw [Bool.eq_iff_iff, beq_iff_eq, decide_eq_true_eq]
  omega
theorem impl_GroupAwake_loop {l : List S41} {cs : List S37} (hm : l.length ≤ 1000) (hc : CtOk l.length cs) (h8 : ∀ i, i < l.length → (rd_T41 l ((i : Nat) : Int)).f7 ≤ 8) : ∀ (d k i : Nat), (l.length : Int) - i = d → d < k →
    impl_GroupAwake.l0 k l (aw l cs i) (grp l cs) (l.length : Int) (i : Int) = some (aw l cs l.length) := by
  intro d
  induction d with
  | zero =>
    intro k i hd hk
    obtain ⟨k, rfl⟩ : ∃ m, k = m + 1 := ⟨k - 1, by omega⟩
    rw [impl_GroupAwake.l0, if_neg (by omega), show i = l.length by omega]
  | succ d ih =>
    intro k i hd hk
    obtain ⟨k, rfl⟩ : ∃ m, k = m + 1 := ⟨k - 1, by omega⟩
    have hi : i < l.length := by omega
    have e1 : wrap64 ((i : Int) + 1) = ((i + 1 : Nat) : Int) := by rw [wrap_id (by omega) (by omega)]; omega
    have hl := aw_len l cs i
    have hcl := cntB_le_self (rep l cs) i
    have hgl := grp_len l cs
    have hs : impl_Body_sleeps.f (rd_T41 l (i : Int)).f0 (rd_T41 l (i : Int)).f1.f0 (rd_T41 l (i : Int)).f1.f1 (rd_T41 l (i : Int)).f1.f2 (rd_T41 l (i : Int)).f2.f0 (rd_T41 l (i : Int)).f2.f1 (rd_T41 l (i : Int)).f3.f0 (rd_T41 l (i : Int)).f3.f1 (rd_T41 l (i : Int)).f4 (rd_T41 l (i : Int)).f5 (rd_T41 l (i : Int)).f6 (rd_T41 l (i : Int)).f7 = some (slp l i) := by
      exact congrArg some (q8 (h8 i hi))
    have nx := ih k (i + 1) (by omega) (by omega)
    simp only [impl_GroupAwake.l0]
    rw [if_pos (by omega), if_pos (by omega), if_pos (by omega), grp_rd hi, e1, hs]
    simp only [Option.bind_some]
    by_cases hf : ms l i = 0
    · rw [grpv_fixed hf, if_neg (by omega), if_neg (by omega)]
      simp only [aw, awo, rep_ms hf] at nx
      rw [if_pos (.inl hf)] at nx
      exact nx
    · obtain ⟨hg, hr⟩ := grp_next hc hi hf
      simp only [aw] at nx
      rw [hg]
      rcases hr with ⟨hr, hcn⟩ | ⟨hr, hcn⟩
      · have ho : awo l cs i (aw l cs i) = aw l cs i ++ [false] := by unfold awo; rw [if_pos hr]
        rw [ho] at nx
        have hq : ((cntB (rep l cs) (lstC (edges l cs) l.length i) : Nat) : Int) < ((aw l cs i ++ [false]).length : Int) := by rw [List.length_append, List.length_singleton, hl, hcn]; exact Int.ofNat_lt.2 (Nat.lt_succ_self _)
        have hq2 : ((cntB (rep l cs) (lstC (edges l cs) l.length i) : Nat) : Int) = ((aw l cs i).length : Int) := by rw [hl, hcn]
        have hq3 : (aw l cs i).length < 140737488355328 := by rw [hl]; exact Nat.lt_of_le_of_lt hcl (by omega)
        rw [if_pos hq2, if_pos hq3, if_pos (Int.natCast_nonneg _), if_pos (Int.ofNat_lt.2 hi)]
        by_cases hsl : slp l i = true
        · rw [if_pos hsl]
          rw [if_pos (.inr hsl)] at nx
          exact nx
        · rw [if_neg hsl, if_pos (Int.natCast_nonneg _), if_pos hq, Int.toNat_natCast]
          rw [if_neg (fun q => q.elim hf hsl)] at nx
          exact nx
      · have ho : awo l cs i (aw l cs i) = aw l cs i := by unfold awo; rw [if_neg (by rw [hr]; decide)]
        rw [ho] at nx
        have hq : ((cntB (rep l cs) (lstC (edges l cs) l.length i) : Nat) : Int) < ((aw l cs i).length : Int) := by rw [hl]; exact Int.ofNat_lt.2 hcn
        rw [if_neg (Int.ne_of_lt hq), if_pos (Int.natCast_nonneg _), if_pos (Int.ofNat_lt.2 hi)]
        by_cases hsl : slp l i = true
        · rw [if_pos hsl]
          rw [if_pos (.inr hsl)] at nx
          exact nx
        · rw [if_neg hsl, if_pos (Int.natCast_nonneg _), if_pos hq, Int.toNat_natCast]
          rw [if_neg (fun q => q.elim hf hsl)] at nx
          exact nx
theorem bok_quiet {x : S41} (h : bok x = true) : x.f7 ≤ 8 := by
  unfold bok bodyOk inB at h
  simp only [Bool.and_eq_true, decide_eq_true_eq] at h
  omega
theorem impl_GroupAwake_eq {l : List S41} (hm : l.length ≤ 9223372036854775807) {k : Nat} (hk : gas l.length + l.length * 200000 + 1000 < k) : impl_GroupAwake.f k l = some (if bodiesOk l = true then aw l (cts l) l.length else []) := by
  unfold impl_GroupAwake.f
  rw [impl_Groups_eq2 hm hk]
  simp only [Option.bind_some]
  by_cases h : bodiesOk l = true
  · obtain ⟨h12, hb⟩ := bodiesOk_get h
    rw [if_pos h, if_pos h, grp_len]
    exact impl_GroupAwake_loop (by omega) (cts_ok l) (fun i hi => bok_quiet (hb i (by omega) (by omega))) l.length k 0 (by omega) (by omega)
  · rw [if_neg h, if_neg h]
    obtain ⟨k, rfl⟩ : ∃ m, k = m + 1 := ⟨k - 1, by omega⟩
    simp only [impl_GroupAwake.l0]
    rw [if_neg (by simp)]

theorem spec_l3Less_eq (a b : Int) : spec_l3Less.f a b = some (min a b) := by
  unfold spec_l3Less.f; split <;> simp <;> omega

theorem Rp_rel {n : Nat} {xs : List Int} {f : Nat → Nat} (h : Rp n xs (fun j => (f j : Int))) (e : Nat × Nat) : Rp n ((xs.set e.1 ((min (f e.1) (f e.2) : Nat) : Int)).set e.2 ((min (f e.1) (f e.2) : Nat) : Int)) (fun j => (relE f e j : Int)) := by
  refine ((h.set e.1 _).set e.2 _).congr fun j hj => ?_
  show (if j = e.2 then _ else if j = e.1 then _ else _) = ((relE f e j : Nat) : Int)
  unfold relE
  by_cases h2 : j = e.2
  · rw [if_pos h2, if_pos (.inr h2)]
  · rw [if_neg h2]
    by_cases h1 : j = e.1
    · rw [if_pos h1, if_pos (.inl h1)]
    · rw [if_neg h1, if_neg (by rintro (h | h) <;> contradiction)]
theorem spec_l7Groups_in {l : List S41} {cs : List S37} (hm : l.length ≤ 1000) (hcm : cs.length ≤ 1000000) (hc : CtOk l.length cs) (x7 : Int) (h7 : 0 ≤ x7) (h7' : x7 < 1000000) : ∀ (d k : Nat) (x8 : Int) (xs : List Int) (f : Nat → Nat), 0 ≤ x8 → (cs.length : Int) - x8 = d → Rp l.length xs (fun j => (f j : Int)) →
    ∃ ys, Rp l.length ys (fun j => ((edF l cs d x8).foldl relE f j : Int)) ∧ spec_l7Groups.l2 (d + 1 + k) l cs xs x7 x8 = spec_l7Groups.l1 k l cs ys (x7 + 1) := by
  intro d
  induction d with
  | zero =>
    intro k x8 xs f h8 hd hx
    refine ⟨xs, hx, ?_⟩
    rw [show 0 + 1 + k = k + 1 by omega, spec_l7Groups.l2, if_neg (by omega), wrap_id (by omega) (by omega)]
  | succ d ih =>
    intro k x8 xs f h8 hd hx
    have e1 : wrap64 (x8 + 1) = x8 + 1 := wrap_id (by omega) (by omega)
    obtain ⟨a, a', b, b'⟩ := hc x8 h8 (by omega)
    have hxl := hx.1
    rw [show d + 1 + 1 + k = (d + 1 + k) + 1 by omega]
    simp only [spec_l7Groups.l2, e1]
    rw [if_pos (show x8 < (cs.length : Int) by omega), if_pos h8, if_pos a, if_pos a']
    by_cases h1 : (rd_T41 l (rd_T37 cs x8).f0).f4 = 0
    · have he : edge l (rd_T37 cs x8) = [] := by unfold edge; rw [if_pos (.inl h1)]
      rw [if_pos h1]
      simp only [edF, he, List.nil_append]
      exact ih k (x8 + 1) xs f (by omega) (by omega) hx
    · rw [if_neg h1, if_pos b, if_pos b']
      by_cases h2 : (rd_T41 l (rd_T37 cs x8).f1).f4 = 0
      · have he : edge l (rd_T37 cs x8) = [] := by unfold edge; rw [if_pos (.inr h2)]
        rw [if_pos h2]
        simp only [edF, he, List.nil_append]
        exact ih k (x8 + 1) xs f (by omega) (by omega) hx
      · have he : edge l (rd_T37 cs x8) = [((rd_T37 cs x8).f0.toNat, (rd_T37 cs x8).f1.toNat)] := by unfold edge; rw [if_neg (by rintro (h | h) <;> contradiction)]
        rw [if_neg h2, if_pos (by omega), if_pos (by omega), hx.at_ a a', hx.at_ b b', spec_l3Less_eq]
        simp only [Option.bind_some, edF, he, List.singleton_append, List.foldl_cons]
        have hr := Rp_rel hx ((rd_T37 cs x8).f0.toNat, (rd_T37 cs x8).f1.toNat)
        have hmn : min ((f (rd_T37 cs x8).f0.toNat : Nat) : Int) ((f (rd_T37 cs x8).f1.toNat : Nat) : Int) = ((min (f (rd_T37 cs x8).f0.toNat) (f (rd_T37 cs x8).f1.toNat) : Nat) : Int) := by omega
        rw [hmn]
        exact ih k (x8 + 1) _ _ (by omega) (by omega) hr
theorem spec_l7Groups_mid {l : List S41} {cs : List S37} (hm : l.length ≤ 1000) (hcm : cs.length ≤ 1000000) (hc : CtOk l.length cs) : ∀ (d k : Nat) (x7 : Int) (xs : List Int) (f : Nat → Nat), 0 ≤ x7 → (l.length : Int) - x7 = d → Rp l.length xs (fun j => (f j : Int)) →
    ∃ ys, Rp l.length ys (fun j => (relN (edges l cs) d f j : Int)) ∧ spec_l7Groups.l1 (d * (cs.length + 2) + 1 + k) l cs xs x7 = (spec_l7Number.f k l ys).bind fun t => some t := by
  intro d
  induction d with
  | zero =>
    intro k x7 xs f h7 hd hx
    refine ⟨xs, hx, ?_⟩
    rw [show 0 * (cs.length + 2) + 1 + k = k + 1 by omega, spec_l7Groups.l1, if_neg (by omega)]
  | succ d ih =>
    intro k x7 xs f h7 hd hx
    have e : (d + 1) * (cs.length + 2) = d * (cs.length + 2) + cs.length + 2 := by rw [Nat.add_mul]; omega
    rw [show (d + 1) * (cs.length + 2) + 1 + k = (cs.length + 1 + (d * (cs.length + 2) + 1 + k)) + 1 by omega, spec_l7Groups.l1, if_pos (by omega)]
    obtain ⟨ys, hy, he⟩ := spec_l7Groups_in hm hcm hc x7 h7 (by omega) cs.length (d * (cs.length + 2) + 1 + k) 0 xs f (by omega) (by omega) hx
    rw [he]
    exact ih k (x7 + 1) ys _ (by omega) (by omega) hy
theorem spec_l7Groups_first {l : List S41} {cs : List S37} (hm : l.length ≤ 1000) : ∀ (d k i : Nat), (l.length : Int) - i = d →
    spec_l7Groups.l0 (d + 1 + k) l cs ((List.range i).map (fun (j : Nat) => (j : Int))) (i : Int) = spec_l7Groups.l1 k l cs ((List.range l.length).map (fun (j : Nat) => (j : Int))) 0 := by
  intro d
  induction d with
  | zero =>
    intro k i hd
    rw [show 0 + 1 + k = k + 1 by omega, spec_l7Groups.l0, if_neg (by omega), show i = l.length by omega]
  | succ d ih =>
    intro k i hd
    have hl : ((List.range i).map (fun (j : Nat) => (j : Int))).length = i := by simp
    have hs : (List.range i).map (fun (j : Nat) => (j : Int)) ++ [(i : Int)] = (List.range (i + 1)).map (fun (j : Nat) => (j : Int)) := by rw [List.range_succ, List.map_append]; rfl
    rw [show d + 1 + 1 + k = (d + 1 + k) + 1 by omega, spec_l7Groups.l0, if_pos (by omega), if_pos (by omega), hs, show wrap64 ((i : Int) + 1) = ((i + 1 : Nat) : Int) by rw [wrap_id (by omega) (by omega)]; omega]
    exact ih k (i + 1) (by omega)
theorem spec_l7Groups_eq {l : List S41} {cs : List S37} (hm : l.length ≤ 1000) (hcm : cs.length ≤ 1000000) (hc : CtOk l.length cs) {k : Nat} (hk : l.length * (cs.length + 2) + l.length + l.length * 1100 + 10 < k) : spec_l7Groups.f k l cs = some (grp l cs) := by
  obtain ⟨m, rfl⟩ : ∃ m, k = l.length + 1 + (l.length * (cs.length + 2) + 1 + m) := ⟨k - l.length - 1 - (l.length * (cs.length + 2) + 1), by omega⟩
  unfold spec_l7Groups.f
  have h1 := spec_l7Groups_first (cs := cs) hm l.length (l.length * (cs.length + 2) + 1 + m) 0 (by omega)
  rw [show ([] : List Int) = (List.range 0).map (fun (j : Nat) => (j : Int)) from rfl, show (0 : Int) = ((0 : Nat) : Int) from rfl, h1]
  have h0 : Rp l.length ((List.range l.length).map (fun (j : Nat) => (j : Int))) (fun j => (((fun j => j) j : Nat) : Int)) := ⟨by simp, fun j hj => by rw [List.getElem?_map, List.getElem?_range hj]; rfl⟩
  obtain ⟨ys, hy, he⟩ := spec_l7Groups_mid hm hcm hc l.length m 0 _ _ (by omega) (by omega) h0
  rw [he, spec_l7Number_eq hm hc (hy.congr fun j hj => by rw [relN_least (edges_lt hc) hj]) (by omega)]
  rfl

theorem spec_FixClamp_eq (a : Int) : spec_FixClamp.f a = some (cl a) := by
  unfold spec_FixClamp.f cl
  split
  · rfl
  · split <;> rfl

theorem spec_l2Clamp_eq (a b : Int) : spec_l2Clamp.f a b = some (cl a, cl b) := by
  unfold spec_l2Clamp.f
  simp only [spec_FixClamp_eq, Option.bind_some]

theorem spec_l2Square_cl (a b : Int) : spec_l2Square.f (cl a) (cl b) = some (vsq a b) := by
  have ha := cl_bd a
  have hb := cl_bd b
  have := vsq_bd a b
  unfold spec_l2Square.f vsq at *
  rw [wrap_mul ha.1 ha.2 ha.1 ha.2, wrap_mul hb.1 hb.2 hb.1 hb.2, wrap_id (by omega) (by omega)]

theorem spec_l1Root_loop {n : Int} (hn : 0 ≤ n) : ∀ (d k : Nat) (a b : Int), d < k → 0 ≤ a → a < b → b ≤ 3000000000 → b - a ≤ 2 ^ d → a * a ≤ n → n < b * b →
    ∃ r, spec_l1Root.l1 k n a b = some r ∧ IsRoot n r := by
  intro d
  induction d with
  | zero =>
    intro k a b hk ha hab hb hd h1 h2
    obtain ⟨k, rfl⟩ : ∃ m, k = m + 1 := ⟨k - 1, by omega⟩
    obtain rfl : b = a + 1 := by simp at hd; omega
    exact ⟨a, by simp only [spec_l1Root.l1]; rw [wrap_id (by omega) (by omega), if_neg (by omega)], ha, h1, h2⟩
  | succ d ih =>
    intro k a b hk ha hab hb hd h1 h2
    obtain ⟨k, rfl⟩ : ∃ m, k = m + 1 := ⟨k - 1, by omega⟩
    by_cases hc : b - a > 1
    · have e : wrap64 (Int.tdiv (wrap64 (a + b)) 2) = (a + b) / 2 := by
        rw [wrap_id (n := a + b) (by omega) (by omega), Int.tdiv_eq_ediv_of_nonneg (by omega), wrap_id (by omega) (by omega)]
      have hp : (2 : Int) ^ (d + 1) = 2 * 2 ^ d := by rw [Int.pow_succ, Int.mul_comm]
      rw [hp] at hd
      obtain ⟨m, hm⟩ : ∃ m, m = (a + b) / 2 := ⟨_, rfl⟩
      rw [← hm] at e
      have hq : m * m ≤ 3000000000 * 3000000000 := mul_le_sq (by omega) (by omega)
      have hq0 := sq_nonneg m
      by_cases hle : m * m ≤ n
      · obtain ⟨r, hr, h⟩ := ih k m b (by omega) (by omega) (by omega) hb (by omega) hle h2
        refine ⟨r, ?_, h⟩
        simp only [spec_l1Root.l1]
        rw [wrap_id (n := b - a) (by omega) (by omega), if_pos hc, e, wrap_id (n := m * m) (by omega) (by omega), if_pos hle]
        exact hr
      · obtain ⟨r, hr, h⟩ := ih k a m (by omega) ha (by omega) (by omega) (by omega) h1 (by omega)
        refine ⟨r, ?_, h⟩
        simp only [spec_l1Root.l1]
        rw [wrap_id (n := b - a) (by omega) (by omega), if_pos hc, e, wrap_id (n := m * m) (by omega) (by omega), if_neg hle]
        exact hr
    · obtain rfl : b = a + 1 := by omega
      exact ⟨a, by simp only [spec_l1Root.l1]; rw [wrap_id (by omega) (by omega), if_neg (by omega)], ha, h1, h2⟩
theorem spec_l1Root_up {n : Int} (hn : 0 ≤ n) (hn' : n ≤ 2000000000000000000) : ∀ (d k : Nat) (h : Int), d + 34 < k → 1 ≤ h → h ≤ 2828427124 → 2147483648 ≤ h * 2 ^ d →
    ∃ r, spec_l1Root.l0 k n 0 h = some r ∧ IsRoot n r := by
  intro d
  have out : ∀ (k : Nat) (h : Int), 34 < k → 1 ≤ h → h ≤ 2828427124 → n < h * h → ∃ r, spec_l1Root.l0 k n 0 h = some r ∧ IsRoot n r := by
    intro k h hk h1 h2 h3
    obtain ⟨k, rfl⟩ : ∃ m, k = m + 1 := ⟨k - 1, by omega⟩
    obtain ⟨r, hr, hi⟩ := spec_l1Root_loop hn 32 k 0 h (by omega) (by omega) (by omega) (by omega) (by omega) (by omega) h3
    refine ⟨r, ?_, hi⟩
    have := mul_le_sq (a := h) (b := 2828427124) (by omega) h2
    have := sq_nonneg h
    simp only [spec_l1Root.l0]
    rw [wrap_id (by omega) (by omega), if_neg (by omega)]
    exact hr
  induction d with
  | zero =>
    intro k h hk h1 h2 h3
    have : 2147483648 * 2147483648 ≤ h * h := mul_le_sq (by omega) (by omega)
    exact out k h (by omega) h1 h2 (by omega)
  | succ d ih =>
    intro k h hk h1 h2 h3
    rcases Int.lt_or_le n (h * h) with hlt | hle
    · exact out k h (by omega) h1 h2 hlt
    · have hb : h ≤ 1414213562 := by
        rcases Int.lt_or_le 1414213562 h with hb | hb
        · have : 1414213563 * 1414213563 ≤ h * h := mul_le_sq (by omega) (by omega)
          omega
        · exact hb
      obtain ⟨k, rfl⟩ : ∃ m, k = m + 1 := ⟨k - 1, by omega⟩
      have hp : (2 : Int) ^ (d + 1) = 2 * 2 ^ d := by rw [Int.pow_succ, Int.mul_comm]
      rw [hp] at h3
      obtain ⟨r, hr, hi⟩ := ih k (2 * h) (by omega) (by omega) (by omega) (by rw [Int.mul_assoc, Int.mul_left_comm]; exact h3)
      refine ⟨r, ?_, hi⟩
      have := mul_le_sq (a := h) (b := 2828427124) (by omega) h2
      have := sq_nonneg h
      simp only [spec_l1Root.l0]
      rw [wrap_id (n := h * h) (by omega) (by omega), if_pos hle, wrap_id (by omega) (by omega)]
      exact hr
theorem spec_l1Root_eq {k : Nat} (hk : 65 < k) {n : Int} (hn : 0 ≤ n) (hn' : n ≤ 2000000000000000000) : spec_l1Root.f k n = some (rt n) := by
  obtain ⟨r, hr, h⟩ := spec_l1Root_up hn hn' 31 k 1 (by omega) (by omega) (by omega) (by decide)
  unfold spec_l1Root.f
  rw [hr, rt_eq h]

theorem spec_VecLen_eq {k : Nat} (hk : 65 < k) (a b : Int) : spec_VecLen.f k a b = some (vlen a b) := by
  have := vsq_bd a b
  unfold spec_VecLen.f vlen
  simp only [spec_l2Clamp_eq, spec_l2Square_cl, Option.bind_some]
  rw [spec_l1Root_eq hk (by omega) (by omega)]
  simp only [spec_FixClamp_eq, Option.bind_some]

theorem spec_VecUnit_eq {k : Nat} (hk : 65 < k) (a b : Int) : spec_VecUnit.f k a b = some (vunit a b) := by
  unfold spec_VecUnit.f vunit
  simp only [spec_l2Clamp_eq, Option.bind_some, spec_VecLen_eq hk, vlen_cl]
  split
  · rfl
  · rename_i h
    rw [vunit_wrap a b h, vunit_wrap' a b h]

theorem spec_l5Rounds_eq {k : Nat} (hk : 65 < k) (a b c d w : Int) : spec_l5Rounds.f k a b c d w = some (rnds a b c d w) := by
  unfold spec_l5Rounds.f rnds spec_l2Square.f
  simp only [Option.bind_some]
  split
  · rfl
  · simp only [spec_VecUnit_eq hk, spec_VecLen_eq hk, Option.bind_some]

theorem spec_l3Meets_eq (a b c d e f g h : Int) : spec_l3Meets.f a b c d e f g h = some (meets a b c d e f g h) := by
  unfold spec_l3Meets.f meets
  by_cases h1 : a ≤ g <;> by_cases h2 : e ≤ c <;> by_cases h3 : b ≤ h <;> simp [h1, h2, h3]

theorem spec_l5Boxes_eq {k : Nat} (hk : 0 < k) (a b c d e f g h : Int) : spec_l5Boxes.f k a b c d e f g h = some (bxs a b c d e f g h) := by
  obtain ⟨k, rfl⟩ : ∃ m, k = m + 1 := ⟨k - 1, by omega⟩
  unfold spec_l5Boxes.f bxs least
  simp only [spec_l3Meets_eq, Option.bind_some, spec_l5Boxes.j0]
  split
  · split
    · split
      · split <;> rfl
      · split <;> rfl
    · split
      · split <;> rfl
      · split <;> rfl
  · rfl

theorem spec_l1In_eq (a l h : Int) : spec_l1In.f a l h = some (inB a l h) := by
  unfold spec_l1In.f inB
  split <;> simp <;> omega

theorem spec_l3Point_eq (a b c d x y : Int) : spec_l3Point.f a b c d x y = some (point a b c d x y) := by
  unfold spec_l3Point.f point
  simp only [spec_l1In_eq, Option.bind_some]
  cases inB x a c <;> simp

theorem spec_l3More_eq (a b : Int) : spec_l3More.f a b = some (max a b) := by
  unfold spec_l3More.f; split <;> simp <;> omega

theorem spec_l3Near_eq (a b c d x y : Int) : spec_l3Near.f a b c d x y = some (min (max x a) c, min (max y b) d) := by
  unfold spec_l3Near.f
  simp only [spec_l3Less_eq, spec_l3More_eq, Option.bind_some]

theorem spec_l5Mixed_eq {k : Nat} (hk : 65 < k) (a b c d x y w : Int) : spec_l5Mixed.f k a b c d x y w = some (mxd a b c d x y w) := by
  unfold spec_l5Mixed.f mxd
  simp only [spec_l3Point_eq, Option.bind_some, spec_l5Boxes_eq (show 0 < k by omega), spec_l3Near_eq, spec_l5Rounds_eq hk]
  split <;> rfl

theorem spec_l3Bounds_eq (k w h x y : Int) : spec_l3Bounds.f k w h x y = some (bnd k w h x y) := by
  unfold spec_l3Bounds.f bnd
  split <;> rfl

theorem spec_l5Touch_eq {k : Nat} (hk : 67 < k) (s w h x y s' w' h' x' y' : Int) : spec_l5Touch.f k s w h x y s' w' h' x' y' = some (tch s w h x y s' w' h' x' y') := by
  obtain ⟨k, rfl⟩ : ∃ m, k = m + 1 + 1 := ⟨k - 2, by omega⟩
  unfold spec_l5Touch.f tch
  simp only [spec_l5Touch.j0, spec_l5Touch.j1, spec_l5Rounds_eq (show 65 < k + 1 by omega), spec_l3Bounds_eq, spec_l5Boxes_eq (show 0 < k by omega), spec_l5Mixed_eq (show 65 < k by omega), Option.bind_some, spec_l5Turn.f]
  by_cases h1 : s = 1
  · subst h1
    by_cases h2 : s' = 1
    · subst h2
      simp
    · simp [h2]
      split <;> rfl
  · by_cases h3 : s = 2
    · subst h3
      by_cases h4 : s' = 2
      · subst h4
        simp
      · simp [h4]
    · simp [h1, h3]
      split <;> rfl

theorem spec_l7Contacts_in (l : List S41) (hm : l.length ≤ 1000) (i : Int) (h0 : 0 ≤ i) (h1 : i < l.length) : ∀ (d k : Nat) (j : Int) (out : List S37), 67 < k → 0 ≤ j → (l.length : Int) - j = d → out.length + d < 3518437208883 →
    spec_l7Contacts.l1 (2 * d + 1 + k) l out i j = spec_l7Contacts.l0 k l (out ++ ctJ l i d j) (i + 1) := by
  intro d
  induction d with
  | zero =>
    intro k j out hk hj hd ho
    rw [show 2 * 0 + 1 + k = k + 1 by omega]
    simp only [spec_l7Contacts.l1, ctJ, List.append_nil]
    rw [if_neg (by omega), wrap_id (by omega) (by omega)]
  | succ d ih =>
    intro k j out hk hj hd ho
    rw [show 2 * (d + 1) + 1 + k = (2 * d + 1 + k) + 1 + 1 by omega]
    have e1 : wrap64 (j + 1) = j + 1 := wrap_id (by omega) (by omega)
    have nx := fun o ho' => ih k (j + 1) o hk (by omega) (by omega) ho'
    have inner : ∀ b : Bool, (b = true → (rd_T41 l i).f4 = 0 ∧ (rd_T41 l j).f4 = 0) → (b = false → ¬ ((rd_T41 l i).f4 = 0 ∧ (rd_T41 l j).f4 = 0)) →
        spec_l7Contacts.j2 (2 * d + 1 + k + 1) l out i j b = spec_l7Contacts.l0 k l (out ++ ctJ l i (d + 1) j) (i + 1) := by
      intro b hb1 hb0
      simp only [spec_l7Contacts.j2, ctJ]
      cases b
      · rw [if_neg (by simp), if_pos h0, if_pos h1, if_pos hj, if_pos (by omega), spec_l5Touch_eq (by omega)]
        simp only [Option.bind_some]
        unfold ct tcb
        rw [if_neg (hb0 rfl)]
        split
        · rw [if_pos (by omega), e1, nx _ (by simp; omega)]
          simp
        · rw [e1, nx _ (by omega)]
          simp
      · rw [if_pos rfl, e1, nx _ (by omega)]
        unfold ct
        rw [if_pos (hb1 rfl)]
        simp
    simp only [spec_l7Contacts.l1]
    rw [if_pos (by omega), if_pos h0, if_pos h1]
    by_cases hf : (rd_T41 l i).f4 = 0
    · rw [if_pos hf, if_pos hj]
      exact inner _ (fun hb => ⟨hf, by simpa using hb⟩) (fun hb hn => by simp [hn.2] at hb)
    · rw [if_neg hf]
      exact inner _ (fun hb => by cases hb) (fun _ hn => hf hn.1)
theorem spec_l7Contacts_out (l : List S41) (hm : l.length ≤ 1000) : ∀ (d k : Nat) (i : Int) (out : List S37), 67 < k → 0 ≤ i → (l.length : Int) - i = d → out.length + d * 1000 < 3518437208883 →
    spec_l7Contacts.l0 (gas d + k) l out i = some (out ++ ctI l d i) := by
  intro d
  induction d with
  | zero =>
    intro k i out hk h0 hd ho
    rw [show gas 0 + k = k + 1 by simp [gas]; omega]
    simp only [spec_l7Contacts.l0, ctI, List.append_nil]
    rw [if_neg (by omega)]
  | succ d ih =>
    intro k i out hk h0 hd ho
    rw [show gas (d + 1) + k = (2 * d + 1 + (gas d + k)) + 1 by simp [gas]; omega]
    simp only [spec_l7Contacts.l0, ctI]
    have := ctJ_len l i d (i + 1)
    rw [if_pos (by omega), wrap_id (by omega) (by omega), spec_l7Contacts_in l hm i h0 (by omega) d _ (i + 1) out (by omega) (by omega) (by omega) (by omega), ih k (i + 1) _ hk (by omega) (by omega) (by rw [List.length_append]; omega)]
    simp
theorem spec_l7Contacts_eq {l : List S41} (hm : l.length ≤ 1000) {k : Nat} (hk : gas l.length + 67 < k) : spec_l7Contacts.f k l = some (cts l) := by
  obtain ⟨m, rfl⟩ : ∃ m, k = gas l.length + m := ⟨k - gas l.length, by omega⟩
  unfold spec_l7Contacts.f
  rw [spec_l7Contacts_out l hm l.length m 0 _ (by omega) (by omega) (by omega) (by simp; omega)]
  simp [cts]

theorem spec_ShapeOk_eq (k w h : Int) : spec_ShapeOk.f k w h = some (shapeOk k w h) := by
  unfold spec_ShapeOk.f shapeOk
  simp only [spec_l1In_eq, Option.bind_some]
  by_cases h1 : k = 1
  · rw [if_pos h1, if_pos h1]; cases inB w 1 25600 <;> simp
  · rw [if_neg h1, if_neg h1]
    by_cases h2 : k = 2
    · rw [if_pos h2, if_pos h2]; cases inB w 1 25600 <;> simp
    · rw [if_neg h2, if_neg h2]

theorem spec_l3Place_eq (a b : Int) : spec_l3Place.f a b = some (place a b) := by
  unfold spec_l3Place.f place
  simp only [spec_l1In_eq, Option.bind_some]
  cases inB a (-2560000) 2560000 <;> simp

theorem spec_l6Drive_eq (a b : Int) : spec_l6Drive.f a b = some (drv a b) := by
  unfold spec_l6Drive.f drv
  simp only [spec_l1In_eq, Option.bind_some]
  cases inB a (-20000000) 20000000 <;> simp

theorem spec_BodyOk_eq {k : Nat} (hk : 0 < k) (i sk sw sh ax ay dx dy m bo ru q : Int) : spec_BodyOk.f k i sk sw sh ax ay dx dy m bo ru q = some (bodyOk i sk sw sh ax ay dx dy m bo ru q) := by
  obtain ⟨k, rfl⟩ : ∃ m, k = m + 1 := ⟨k - 1, by omega⟩
  unfold spec_BodyOk.f bodyOk
  simp only [spec_l1In_eq, spec_ShapeOk_eq, spec_l3Place_eq, spec_l6Drive_eq, Option.bind_some, spec_BodyOk.j0]
  cases inB i 0 999999999
  · simp
  cases shapeOk sk sw sh
  · simp
  cases place ax ay
  · simp
  cases drv dx dy
  · simp
  cases inB m 0 1000
  · simp
  cases inB bo 0 256
  · simp
  cases inB ru 0 256
  · simp
  cases inB q 0 8
  · simp
  unfold rest0
  by_cases hm : m = 0
  · cases hd : (dx == 0 && (dy == 0)) <;> simp [hm]
  · by_cases hq : q < 8 <;> simp [hm, hq]

theorem spec_BodiesOk_loop (l : List S41) (hm : l.length ≤ 9223372036854775807) : ∀ (d k : Nat) (i : Int), d + 1 < k → 0 ≤ i → (l.length : Int) - i = d → spec_BodiesOk.l0 k l i = some (chkB l d i) := by
  intro d
  induction d with
  | zero =>
    intro k i hk h0 hd
    obtain ⟨k, rfl⟩ : ∃ m, k = m + 1 := ⟨k - 1, by omega⟩
    simp only [spec_BodiesOk.l0, chkB]
    rw [if_neg (by omega)]
  | succ d ih =>
    intro k i hk h0 hd
    obtain ⟨k, rfl⟩ : ∃ m, k = m + 1 := ⟨k - 1, by omega⟩
    have e1 : wrap64 (i + 1) = i + 1 := wrap_id (by omega) (by omega)
    simp only [spec_BodiesOk.l0, chkB]
    rw [if_pos (by omega), if_pos h0, spec_BodyOk_eq (by omega), e1]
    simp only [Option.bind_some]
    have hr := ih k (i + 1) (by omega) (by omega) (by omega)
    unfold bok
    split
    · by_cases hi : i > 0
      · have e2 : wrap64 (i - 1) = i - 1 := wrap_id (by omega) (by omega)
        rw [if_pos hi, if_pos hi, e2, if_pos (by omega), if_pos (by omega), hr]
        split <;> rfl
      · rw [if_neg hi, if_neg hi, hr]
    · rfl
theorem spec_BodiesOk_eq {k : Nat} {l : List S41} (hm : l.length ≤ 9223372036854775807) (hk : l.length + 1 < k) : spec_BodiesOk.f k l = some (bodiesOk l) :=
  spec_BodiesOk_loop l hm l.length k 0 hk (by omega) (by omega)

theorem l7G {l : List S41} (h12 : l.length ≤ 12) {k : Nat} (hk : 20000 < k) : spec_l7Groups.f k l (cts l) = some (grp l (cts l)) := by
  have hcl := cts_len h12
  have h1 : l.length * ((cts l).length + 2) ≤ 12 * 146 := Nat.mul_le_mul h12 (by omega)
  exact spec_l7Groups_eq (by omega) (by omega) (cts_ok l) (by omega)
theorem gas_le : ∀ {n : Nat}, n ≤ 12 → gas n ≤ 200 := by
  intro n h
  have : n = 0 ∨ n = 1 ∨ n = 2 ∨ n = 3 ∨ n = 4 ∨ n = 5 ∨ n = 6 ∨ n = 7 ∨ n = 8 ∨ n = 9 ∨ n = 10 ∨ n = 11 ∨ n = 12 := by omega
  rcases this with rfl | rfl | rfl | rfl | rfl | rfl | rfl | rfl | rfl | rfl | rfl | rfl | rfl <;> decide

theorem spec_l7Awake_loop {l : List S41} {cs : List S37} (hm : l.length ≤ 1000) (hc : CtOk l.length cs) : ∀ (d k i : Nat), (l.length : Int) - i = d → d < k →
    spec_l7Awake.l0 k l (grp l cs) (aw l cs i) (i : Int) = some (aw l cs l.length) := by
  intro d
  induction d with
  | zero =>
    intro k i hd hk
    obtain ⟨k, rfl⟩ : ∃ m, k = m + 1 := ⟨k - 1, by omega⟩
    rw [spec_l7Awake.l0, if_neg (by omega), show i = l.length by omega]
  | succ d ih =>
    intro k i hd hk
    obtain ⟨k, rfl⟩ : ∃ m, k = m + 1 := ⟨k - 1, by omega⟩
    have hi : i < l.length := by omega
    have e1 : wrap64 ((i : Int) + 1) = ((i + 1 : Nat) : Int) := by rw [wrap_id (by omega) (by omega)]; omega
    have hl := aw_len l cs i
    have hcl := cntB_le_self (rep l cs) i
    have hgl := grp_len l cs
    have hs : spec_l6Sleeps.f (rd_T41 l (i : Int)).f0 (rd_T41 l (i : Int)).f1.f0 (rd_T41 l (i : Int)).f1.f1 (rd_T41 l (i : Int)).f1.f2 (rd_T41 l (i : Int)).f2.f0 (rd_T41 l (i : Int)).f2.f1 (rd_T41 l (i : Int)).f3.f0 (rd_T41 l (i : Int)).f3.f1 (rd_T41 l (i : Int)).f4 (rd_T41 l (i : Int)).f5 (rd_T41 l (i : Int)).f6 (rd_T41 l (i : Int)).f7 = some (slp l i) := rfl
    have nx := ih k (i + 1) (by omega) (by omega)
    -- the last step: a flag is set, or stays
    have fin : ∀ (y : List Bool) (q : Nat), q < y.length → ms l i ≠ 0 → (if ms l i = 0 ∨ slp l i = true then y else y.set q true) = aw l cs (i + 1) →
        (if rdOf false y (q : Int) = true then spec_l7Awake.l0 k l (grp l cs) (y.set (q : Int).toNat true) ((i + 1 : Nat) : Int) else (spec_l6Sleeps.f (rd_T41 l (i : Int)).f0 (rd_T41 l (i : Int)).f1.f0 (rd_T41 l (i : Int)).f1.f1 (rd_T41 l (i : Int)).f1.f2 (rd_T41 l (i : Int)).f2.f0 (rd_T41 l (i : Int)).f2.f1 (rd_T41 l (i : Int)).f3.f0 (rd_T41 l (i : Int)).f3.f1 (rd_T41 l (i : Int)).f4 (rd_T41 l (i : Int)).f5 (rd_T41 l (i : Int)).f6 (rd_T41 l (i : Int)).f7).bind fun t => spec_l7Awake.l0 k l (grp l cs) (y.set (q : Int).toNat (!t)) ((i + 1 : Nat) : Int)) = some (aw l cs l.length) := by
      intro y q hq hf hy
      have hset : ∀ b, rdOf false y (q : Int) = b → y.set q b = y := by
        intro b hb
        unfold rdOf at hb
        rw [Int.toNat_natCast] at hb
        rw [← hb]
        exact set_getD y q false
      rw [hs, Int.toNat_natCast]
      simp only [Option.bind_some]
      rw [← hy] at nx
      cases hb : rdOf false y (q : Int)
      · rw [if_neg (by decide)]
        cases hsl : slp l i
        · rw [if_neg (fun q => q.elim hf (fun h => by rw [hsl] at h; cases h))] at nx
          exact nx
        · rw [if_pos (.inr hsl)] at nx
          show spec_l7Awake.l0 k l (grp l cs) (y.set q false) _ = _
          rw [hset _ hb]
          exact nx
      · rw [if_pos rfl]
        cases hsl : slp l i
        · rw [if_neg (fun q => q.elim hf (fun h => by rw [hsl] at h; cases h))] at nx
          exact nx
        · rw [if_pos (.inr hsl)] at nx
          rw [hset _ hb]
          exact nx
    simp only [spec_l7Awake.l0]
    rw [if_pos (by omega), if_pos (by omega), if_pos (by omega), grp_rd hi, e1]
    simp only [Option.bind_some]
    by_cases hf : ms l i = 0
    · rw [grpv_fixed hf, if_neg (by omega), if_neg (by omega)]
      simp only [aw, awo, rep_ms hf] at nx
      rw [if_pos (.inl hf)] at nx
      exact nx
    · obtain ⟨hg, hr⟩ := grp_next hc hi hf
      rw [hg]
      rcases hr with ⟨hr, hcn⟩ | ⟨hr, hcn⟩
      · have ho : awo l cs i (aw l cs i) = aw l cs i ++ [false] := by unfold awo; rw [if_pos hr]
        rw [if_pos (by omega), if_pos (by omega), if_pos (by omega), if_pos (by omega), if_pos (by rw [List.length_append, List.length_singleton]; omega)]
        exact fin _ _ (by rw [List.length_append, List.length_singleton]; omega) hf (by rw [← ho]; rfl)
      · have ho : awo l cs i (aw l cs i) = aw l cs i := by unfold awo; rw [if_neg (by rw [hr]; decide)]
        rw [if_neg (by omega), if_pos (by omega), if_pos (by omega), if_pos (by omega)]
        exact fin _ _ (by omega) hf (by simp only [aw, ho])
theorem spec_l7Awake_eq {l : List S41} {cs : List S37} (hm : l.length ≤ 1000) (hc : CtOk l.length cs) {k : Nat} (hk : l.length < k) : spec_l7Awake.f k l (grp l cs) = some (aw l cs l.length) :=
  spec_l7Awake_loop hm hc l.length k 0 (by omega) hk
theorem spec_GroupAwake_eq {l : List S41} (hm : l.length ≤ 9223372036854775807) {k : Nat} (hk : l.length + 20000 < k) : spec_GroupAwake.f k l = some (if bodiesOk l = true then aw l (cts l) l.length else []) := by
  unfold spec_GroupAwake.f
  rw [spec_BodiesOk_eq hm (by omega)]
  simp only [Option.bind_some]
  by_cases h : bodiesOk l = true
  · have h12 := (bodiesOk_get h).1
    have := gas_le h12
    rw [if_pos h, if_pos h, spec_l7Contacts_eq (by omega) (by omega)]
    simp only [Option.bind_some]
    rw [l7G h12 (by omega)]
    simp only [Option.bind_some]
    rw [spec_l7Awake_eq (by omega) (cts_ok l) (by omega)]
    rfl
  · rw [if_neg h, if_neg h]

theorem eqBoolS_loop (l : List Bool) (hm : l.length ≤ 9223372036854775807) : ∀ (d k : Nat) (i : Int), d < k → 0 ≤ i → (l.length : Int) - i = d → laws_eqBoolS.l0 k l l i = some true := by
  intro d
  induction d with
  | zero =>
    intro k i hk h0 hd
    obtain ⟨k, rfl⟩ : ∃ m, k = m + 1 := ⟨k - 1, by omega⟩
    simp only [laws_eqBoolS.l0]
    rw [if_neg (by omega)]
  | succ d ih =>
    intro k i hk h0 hd
    obtain ⟨k, rfl⟩ : ∃ m, k = m + 1 := ⟨k - 1, by omega⟩
    have e1 : wrap64 (i + 1) = i + 1 := wrap_id (by omega) (by omega)
    simp only [laws_eqBoolS.l0]
    rw [if_pos (by omega), if_pos h0, if_pos (by omega), if_neg (by simp), e1]
    exact ih k (i + 1) (by omega) (by omega) (by omega)
theorem eqBoolS_self {k : Nat} {l : List Bool} (hm : l.length ≤ 9223372036854775807) (hk : l.length < k) : laws_eqBoolS.f k l l = some true := by
  unfold laws_eqBoolS.f
  rw [if_pos rfl]
  exact eqBoolS_loop l hm l.length k 0 hk (by omega) (by omega)
theorem markBoolS_loop : ∀ (d k : Nat) (i x : Int) (l : List Bool), l.length ≤ 1048576 → d < k → 0 ≤ i → (l.length : Int) - i = d → x = i + 1 →
    ∃ l', laws_markBoolS.l0 k l x i = some ((l.length : Int) + 1, l') ∧ l'.length = l.length ∧ (∀ j : Nat, (j : Int) < i → l'[j]? = l[j]?) ∧ ∀ j : Nat, i ≤ (j : Int) → (j : Int) < l.length → l'[j]? = some (Int.tmod ((j : Int) + 1) 3 == 0) := by
  intro d
  induction d with
  | zero =>
    intro k i x l hm hk h0 hd hx
    obtain ⟨k, rfl⟩ : ∃ m, k = m + 1 := ⟨k - 1, by omega⟩
    simp only [laws_markBoolS.l0]
    rw [if_neg (by omega)]
    exact ⟨l, by rw [hx, show i = l.length by omega], rfl, fun _ _ => rfl, fun j h1 h2 => by omega⟩
  | succ d ih =>
    intro k i x l hm hk h0 hd hx
    obtain ⟨k, rfl⟩ : ∃ m, k = m + 1 := ⟨k - 1, by omega⟩
    simp only [laws_markBoolS.l0]
    rw [if_pos (by omega), if_pos h0, wrap_id (n := i + 1) (by omega) (by omega), wrap_id (n := x + 1) (by omega) (by omega)]
    obtain ⟨l', hl, hn, hlo, hhi⟩ := ih k (i + 1) (x + 1) (l.set i.toNat (Int.tmod x 3 == 0)) (by simpa using hm) (by omega) (by omega) (by rw [List.length_set]; omega) (by omega)
    rw [List.length_set] at hl hn hhi
    refine ⟨l', hl, hn, fun j hj => ?_, fun j h1 h2 => ?_⟩
    · rw [hlo j (by omega), List.getElem?_set, if_neg (by omega)]
    · by_cases hj : (j : Int) = i
      · rw [hlo j (by omega), List.getElem?_set, if_pos (by omega), if_pos (by omega), hx, hj]
      · exact hhi j (by omega) h2
theorem heldBoolS_loop (l : List Bool) (hm : l.length ≤ 1048576) (hl : ∀ j : Nat, (j : Int) < l.length → l[j]? = some (Int.tmod ((j : Int) + 1) 3 == 0)) : ∀ (d k : Nat) (i x : Int), d < k → 0 ≤ i → (l.length : Int) - i = d → x = i + 1 →
    laws_heldBoolS.l0 k l x i = some ((l.length : Int) + 1) := by
  intro d
  induction d with
  | zero =>
    intro k i x hk h0 hd hx
    obtain ⟨k, rfl⟩ : ∃ m, k = m + 1 := ⟨k - 1, by omega⟩
    simp only [laws_heldBoolS.l0]
    rw [if_neg (by omega), hx, show i = l.length by omega]
  | succ d ih =>
    intro k i x hk h0 hd hx
    obtain ⟨k, rfl⟩ : ∃ m, k = m + 1 := ⟨k - 1, by omega⟩
    have hr : rdOf false l i = (Int.tmod x 3 == 0) := by
      unfold rdOf
      rw [List.getD_eq_getElem?_getD, hl i.toNat (by omega), hx, show ((i.toNat : Nat) : Int) = i by omega]
      rfl
    simp only [laws_heldBoolS.l0]
    rw [hr, if_pos (by omega), if_pos h0, if_neg (by simp), wrap_id (n := i + 1) (by omega) (by omega), wrap_id (n := x + 1) (by omega) (by omega)]
    exact ih k (i + 1) (x + 1) (by omega) (by omega) (by omega) (by omega)
theorem heldBoolS_eq {k : Nat} {l : List Bool} (hm : l.length ≤ 1048576) (hk : l.length < k) : ∃ l', laws_markBoolS.f k l 1 = some ((l.length : Int) + 1, l') ∧ laws_heldBoolS.f k l' 1 = some ((l.length : Int) + 1) := by
  obtain ⟨l', h1, h2, _, h3⟩ := markBoolS_loop l.length k 0 1 l hm hk (by omega) (by omega) (by omega)
  refine ⟨l', h1, ?_⟩
  rw [← h2]
  exact heldBoolS_loop l' (by omega) (fun j hj => h3 j (by omega) (by omega)) l'.length k 0 1 (by omega) (by omega) (by omega) (by omega)

theorem markBodyS_loop : ∀ (d k : Nat) (i x : Int) (l : List S41), l.length ≤ 1048576 → d < k → 0 ≤ i → (l.length : Int) - i = d → 0 ≤ x → x ≤ 12 * i + 1 → ∃ l' m, laws_markBodyS.l0 k l x i = some (m, l') ∧ 0 ≤ m := by
  intro d
  induction d with
  | zero =>
    intro k i x l hm hk h0 hd hx hx2
    obtain ⟨k, rfl⟩ : ∃ m, k = m + 1 := ⟨k - 1, by omega⟩
    simp only [laws_markBodyS.l0]
    rw [if_neg (by omega)]
    exact ⟨_, _, rfl, hx⟩
  | succ d ih =>
    intro k i x l hm hk h0 hd hx hx2
    obtain ⟨k, rfl⟩ : ∃ m, k = m + 1 := ⟨k - 1, by omega⟩
    simp only [laws_markBodyS.l0]
    rw [if_pos (by omega), if_pos h0, wrap_id (n := i + 1) (by omega) (by omega)]
    have e : wrap64 (wrap64 (wrap64 (wrap64 (wrap64 (wrap64 (wrap64 (wrap64 (wrap64 (wrap64 (wrap64 (wrap64 (x + 1) + 1) + 1) + 1) + 1) + 1) + 1) + 1) + 1) + 1) + 1) + 1) = x + 12 := by
      rw [wrap_id (n := x + 1) (by omega) (by omega), wrap_id (n := x + 1 + 1) (by omega) (by omega), wrap_id (n := x + 1 + 1 + 1) (by omega) (by omega), wrap_id (n := x + 1 + 1 + 1 + 1) (by omega) (by omega), wrap_id (n := x + 1 + 1 + 1 + 1 + 1) (by omega) (by omega), wrap_id (n := x + 1 + 1 + 1 + 1 + 1 + 1) (by omega) (by omega), wrap_id (n := x + 1 + 1 + 1 + 1 + 1 + 1 + 1) (by omega) (by omega), wrap_id (n := x + 1 + 1 + 1 + 1 + 1 + 1 + 1 + 1) (by omega) (by omega), wrap_id (n := x + 1 + 1 + 1 + 1 + 1 + 1 + 1 + 1 + 1) (by omega) (by omega), wrap_id (n := x + 1 + 1 + 1 + 1 + 1 + 1 + 1 + 1 + 1 + 1) (by omega) (by omega), wrap_id (n := x + 1 + 1 + 1 + 1 + 1 + 1 + 1 + 1 + 1 + 1 + 1) (by omega) (by omega), wrap_id (n := x + 1 + 1 + 1 + 1 + 1 + 1 + 1 + 1 + 1 + 1 + 1 + 1) (by omega) (by omega)]
      omega
    exact ih k (i + 1) _ _ (by simpa using hm) (by omega) (by omega) (by rw [List.length_set]; omega) (by rw [e]; omega) (by rw [e]; omega)
theorem markBodyS_eq {k : Nat} {l : List S41} (hm : l.length ≤ 1048576) (hk : l.length < k) : ∃ l' m, laws_markBodyS.f k l 1 = some (m, l') ∧ 0 ≤ m :=
  markBodyS_loop l.length k 0 1 l hm hk (by omega) (by omega) (by omega) (by omega)

theorem laws_toBody_eq (i sk sw sh ax ay dx dy m bo ru q : Int) : laws_toBody.f i sk sw sh ax ay dx dy m bo ru q = some (i, sk, sw, sh, ax, ay, dx, dy, m, bo, ru, q) := rfl

/-- The body that a body of the statement stands for. -/
def cv (x : S76) : S41 := ⟨x.f0, ⟨x.f1.f0, x.f1.f1, x.f1.f2⟩, ⟨x.f2.f0, x.f2.f1⟩, ⟨x.f3.f0, x.f3.f1⟩, x.f4, x.f5, x.f6, x.f7⟩
theorem toBodyS_loop (l : List S76) (hm : l.length ≤ 1048576) : ∀ (d k : Nat) (i : Int) (out : List S41), d < k → 0 ≤ i → (l.length : Int) - i = d → out.length = l.length → (∀ j : Nat, (j : Int) < i → out[j]? = (l.map cv)[j]?) →
    laws_toBodyS.l0 k l out i = some (l.map cv) := by
  intro d
  induction d with
  | zero =>
    intro k i out hk h0 hd hl ho
    obtain ⟨k, rfl⟩ : ∃ m, k = m + 1 := ⟨k - 1, by omega⟩
    simp only [laws_toBodyS.l0]
    rw [if_neg (by omega)]
    congr 1
    refine List.ext_getElem? fun j => ?_
    rcases Nat.lt_or_ge j l.length with hj | hj
    · exact ho j (by omega)
    · rw [List.getElem?_eq_none (by omega), List.getElem?_eq_none (by rw [List.length_map]; omega)]
  | succ d ih =>
    intro k i out hk h0 hd hl ho
    obtain ⟨k, rfl⟩ : ∃ m, k = m + 1 := ⟨k - 1, by omega⟩
    have e1 : wrap64 (i + 1) = i + 1 := wrap_id (by omega) (by omega)
    simp only [laws_toBodyS.l0]
    rw [if_pos (by omega), if_pos h0, laws_toBody_eq]
    simp only [Option.bind_some]
    rw [if_pos (by omega), e1]
    refine ih k (i + 1) _ (by omega) (by omega) (by omega) (by rw [List.length_set]; exact hl) fun j hj => ?_
    rw [List.getElem?_set]
    by_cases hji : i.toNat = j
    · subst hji
      rw [if_pos rfl, if_pos (by omega), List.getElem?_map]
      unfold rd_T76
      rw [List.getD_eq_getElem?_getD, List.getElem?_eq_getElem (show i.toNat < l.length by omega)]
      rfl
    · rw [if_neg hji]
      exact ho j (by omega)
theorem toBodyS_eq {k : Nat} {l : List S76} (hm : l.length ≤ 1048576) (hk : l.length < k) : laws_toBodyS.f k l = some (l.map cv) := by
  unfold laws_toBodyS.f
  rw [if_pos (by omega), if_pos (by omega)]
  exact toBodyS_loop l hm l.length k 0 _ hk (by omega) (by omega) (by simp) (fun j hj => by omega)
theorem szBodyS_eq {l : List S76} (hm : l.length ≤ 9223372036854775807) : laws_szBodyS.f l 1048576 = some (if (1048576 : Int) - (l.length : Int) < 0 then (-1 : Int) else (1048576 : Int) - (l.length : Int)) := by
  unfold laws_szBodyS.f
  rw [wrap_id (by omega) (by omega)]
  split <;> rfl

theorem laws_eqVec_eq (a b c d : Int) : laws_eqVec.f a b c d = some (decide (a = c) && decide (b = d)) := by
  unfold laws_eqVec.f
  split <;> (try split) <;> simp_all

theorem eqBody_self (a b c d e f g h i j k l : Int) : laws_eqBody.f a b c d e f g h i j k l a b c d e f g h i j k l = some true := by
  unfold laws_eqBody.f laws_eqShape.f
  simp [laws_eqVec_eq]
theorem eqBodyS_loop (l : List S41) (hm : l.length ≤ 9223372036854775807) : ∀ (d k : Nat) (i : Int), d < k → 0 ≤ i → (l.length : Int) - i = d → laws_eqBodyS.l0 k l l i = some true := by
  intro d
  induction d with
  | zero =>
    intro k i hk h0 hd
    obtain ⟨k, rfl⟩ : ∃ m, k = m + 1 := ⟨k - 1, by omega⟩
    simp only [laws_eqBodyS.l0]
    rw [if_neg (by omega)]
  | succ d ih =>
    intro k i hk h0 hd
    obtain ⟨k, rfl⟩ : ∃ m, k = m + 1 := ⟨k - 1, by omega⟩
    have e1 : wrap64 (i + 1) = i + 1 := wrap_id (by omega) (by omega)
    simp only [laws_eqBodyS.l0]
    rw [if_pos (by omega), if_pos h0, if_pos (by omega), eqBody_self]
    simp only [Option.bind_some, if_true]
    rw [e1]
    exact ih k (i + 1) (by omega) (by omega) (by omega)
theorem eqBodyS_self {k : Nat} {l : List S41} (hm : l.length ≤ 9223372036854775807) (hk : l.length < k) : laws_eqBodyS.f k l l = some true := by
  unfold laws_eqBodyS.f
  rw [if_pos rfl]
  exact eqBodyS_loop l hm l.length k 0 hk (by omega) (by omega)

theorem FnExactGroupAwake : laws_FnExactGroupAwake.Pure := by
  intro l hm _
  unfold laws_FnExactGroupAwake.f
  rw [szBodyS_eq hm]
  simp only [Option.bind_some]
  by_cases h : (1048576 : Int) - l.length < 0
  · exact ⟨0, by rw [if_pos h, if_pos (by omega)]⟩
  · refine ⟨(gas l.length + l.length * 200000 + 30000) + 1, ?_⟩
    rw [if_neg h, if_neg (by omega)]
    have hc : (if bodiesOk (l.map cv) = true then aw (l.map cv) (cts (l.map cv)) (l.map cv).length else []).length ≤ 144 := by
      split
      · rename_i hb; rw [aw_len]; have := (bodiesOk_get hb).1; have := cntB_le_self (rep (l.map cv) (cts (l.map cv))) (l.map cv).length; omega
      · simp
    have hn : (l.map cv).length = l.length := List.length_map ..
    have hg : gas (l.map cv).length = gas l.length := by rw [hn]
    generalize hq : gas l.length + l.length * 200000 + 30000 = q
    rw [toBodyS_eq (by omega) (by omega)]
    simp only [Option.bind_some]
    rw [spec_GroupAwake_eq (by omega) (by omega), impl_GroupAwake_eq (by omega) (by omega)]
    simp only [Option.bind_some]
    rw [eqBoolS_self (by omega) (by omega), eqBodyS_self (by omega) (by omega)]
    obtain ⟨l1, m, h1, h2⟩ := markBodyS_eq (k := q + 1) (l := l.map cv) (by omega) (by omega)
    simp only [Option.bind_some, if_true]
    rw [h1]
    simp only [Option.bind_some]
    rw [if_neg (by omega)]
    simp only [laws_FnExactGroupAwake.j0]
    obtain ⟨l2, h3, h4⟩ := heldBoolS_eq (k := q) (l := if bodiesOk (l.map cv) = true then aw (l.map cv) (cts (l.map cv)) (l.map cv).length else []) (by omega) (by omega)
    rw [h3]
    simp only [Option.bind_some]
    rw [h4, toBodyS_eq (k := q) (by omega) (by omega)]
    simp only [Option.bind_some]
    rw [impl_GroupAwake_eq (k := q) (by omega) (by omega)]
    simp only [Option.bind_some]
    rw [eqBoolS_self (k := q) (by omega) (by omega)]
    simp only [Option.bind_some]
    rw [if_neg (by decide)]
    have hp : ¬ ((if bodiesOk (l.map cv) = true then aw (l.map cv) (cts (l.map cv)) (l.map cv).length else []).length : Int) + 1 < 0 := by omega
    simp only [if_neg hp, if_true]

end Go.Proofs.Ytdngjedhbnoaoaa.Pure
