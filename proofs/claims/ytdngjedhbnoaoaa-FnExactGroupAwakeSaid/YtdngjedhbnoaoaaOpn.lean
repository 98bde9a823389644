/- How a struct by value whose cells are all of the kind int, and a slice of such structs, that came in are opened into lists of whole numbers; under no condition but that they read as data. -/
import Derived.ProofKit
import Derived.OpenShut
import Derived.WalkKit
import Derived.Below
import Derived.Carry
import Derived.Lib.SmallJoins
import Derived.Test.YtdngjedhbnoaoaaWWords
namespace Go.Proofs.Ytdngjedhbnoaoaa.Opn
open Go.RowKit Go.ChangeShapes Go.WideShapes Go.ChangeAt Go.Deep Go.Proofs.YtdngjedhbnoaoaaW.PrintWords
set_option linter.unusedVariables false
set_option linter.unusedSimpArgs false

/-- The fields lie one behind the other from 'off' on, each good by 'g'; the end. -/
def fieldsTo (P : Program) (g : TypeId → Bool) : List Field → Nat → Option Nat
  | [], off => some off
  | f :: fs, off => if f.offset = off ∧ g f.type = true then fieldsTo P g fs (off + P.cellsOf f.type) else none
/-- All cells of the type are of the kind int. -/
def flat (P : Program) : Nat → TypeId → Bool
  | 0, _ => false
  | n + 1, t =>
    match P.underlying t with
    | some (.int .i64) => P.cellsOf t == 1
    | some (.struct fs) => fieldsTo P (flat P n) fs.toList 0 == some (P.cellsOf t)
    | _ => false
/-- These values are whole numbers of the kind int. -/
def Ints (cs : List Value) : Prop := ∃ xs : List Int, cs = xs.map (Value.int .i64) ∧ ∀ a ∈ xs, (Lit.int .i64 a).wf = true

theorem ints_nil : Ints [] := ⟨[], rfl, by simp⟩
theorem ints_append {a b : List Value} (ha : Ints a) (hb : Ints b) : Ints (a ++ b) := by
  obtain ⟨xs, rfl, hx⟩ := ha
  obtain ⟨ys, rfl, hy⟩ := hb
  refine ⟨xs ++ ys, by simp, fun z hz => ?_⟩
  rcases List.mem_append.1 hz with h | h
  · exact hx z h
  · exact hy z h

variable {H : Type} {enc : TypeId × Value → H} {P : Program} {w : World} {base : Nat} {spare : Nat → Bool} {held : Bool}

theorem fields_ints {g : TypeId → Bool} {n : Nat} (hg : ∀ t cs x, g t = true → DataW.trod enc P w base spare held n t cs = some x → Ints cs ∧ x.2 = [])
    (cs : List Value) : ∀ (fs : List Field) (off : Nat) (e : Nat) (xs : List (DataW H × List MemPlace)), fieldsTo P g fs off = some e → e ≤ cs.length → off ≤ cs.length →
      (∀ (i : Nat) (f : Field), fs[i]? = some f → DataW.trod enc P w base spare held n f.type ((cs.drop f.offset).take (P.cellsOf f.type)) = xs[i]?) → xs.length = fs.length →
      Ints ((cs.drop off).take (e - off)) ∧ off ≤ e ∧ xs.flatMap (·.2) = [] := by
  intro fs
  induction fs with
  | nil =>
    intro off e xs h he ho hx hl
    simp only [fieldsTo, Option.some.injEq] at h
    subst h
    obtain rfl : xs = [] := List.eq_nil_of_length_eq_zero (by simpa using hl)
    refine ⟨?_, Nat.le_refl _, rfl⟩
    rw [Nat.sub_self, List.take_zero]
    exact ints_nil
  | cons f fs ih =>
    intro off e xs h he ho hx hl
    cases xs with
    | nil => simp at hl
    | cons x xs =>
      simp only [fieldsTo] at h
      split at h
      · rename_i hc
        obtain ⟨hoff, hgt⟩ := hc
        have h0 := hx 0 f rfl
        simp only [List.getElem?_cons_zero] at h0
        obtain ⟨hi, hp⟩ := hg _ _ _ hgt h0
        have hoe : off + P.cellsOf f.type ≤ e := by
          clear ih hx h0 hi hp
          have : ∀ (fs : List Field) (o e : Nat), fieldsTo P g fs o = some e → o ≤ e := by
            intro fs
            induction fs with
            | nil => intro o e h; simp only [fieldsTo, Option.some.injEq] at h; omega
            | cons f fs ih =>
              intro o e h
              simp only [fieldsTo] at h
              split at h
              · have := ih _ _ h; omega
              · cases h
          exact this _ _ _ h
        obtain ⟨h1, h2, h3⟩ := ih (off + P.cellsOf f.type) e xs h he (by omega) (fun i f' hf => by
          have := hx (i + 1) f' (by simpa using hf)
          simpa using this) (by simpa using hl)
        refine ⟨?_, by omega, by simp [hp, h3]⟩
        have hsplit : (cs.drop off).take (e - off) = (cs.drop f.offset).take (P.cellsOf f.type) ++ (cs.drop (off + P.cellsOf f.type)).take (e - (off + P.cellsOf f.type)) := by
          rw [hoff, show e - off = P.cellsOf f.type + (e - (off + P.cellsOf f.type)) by omega, List.take_add, List.drop_drop]
        rw [hsplit]
        exact ints_append hi h1
      · cases h

theorem flat_trod : ∀ (m : Nat) (t : TypeId) (fuel : Nat) (cs : List Value) (x : DataW H × List MemPlace), flat P m t = true → DataW.trod enc P w base spare held fuel t cs = some x → Ints cs ∧ x.2 = [] := by
  intro m
  induction m with
  | zero => intro t fuel cs x h; simp [flat] at h
  | succ m ih =>
    intro t fuel cs x h hx
    simp only [flat] at h
    split at h
    · rename_i hu
      obtain ⟨a, rfl, rfl, hw⟩ := DataW.trod_int hu hx
      exact ⟨⟨[a], rfl, by simpa using hw⟩, rfl⟩
    · rename_i fs hu
      obtain ⟨xs, n, rfl, rfl, hl, hlen, hf⟩ := DataW.trod_struct hu hx
      have he : fieldsTo P (flat P m) fs.toList 0 = some (P.cellsOf t) := by simpa using h
      obtain ⟨h1, h2, h3⟩ := fields_ints (fun t cs x h hx => ih t n cs x h hx) cs fs.toList 0 (P.cellsOf t) xs he (by omega) (by omega)
        (fun i f hfi => hf i f (by simpa using hfi)) (by simpa using hlen)
      refine ⟨?_, h3⟩
      rw [List.drop_zero, Nat.sub_zero, ← hl, List.take_length] at h1
      exact h1
    · cases h

/-- A struct by value, all of whose cells are of the kind int. -/
theorem open_flat {r : Reach} {b0 : Nat} {t : TypeId} {fs : Array Field} {v : Value} {d : DataW H} {p : List MemPlace} (hs : P.underlying t = some (.struct fs)) (hf : flat P 8 t = true)
    (hv : Value.okWide P w r b0 t v) (h : DataW.Trod enc P w base spare held t v d p) :
    ∃ xs : List Int, v = .agg (xs.map (Value.int .i64)).toArray ∧ xs.length = P.cellsOf t ∧ (∀ a ∈ xs, (Lit.int .i64 a).wf = true) := by
  obtain ⟨cs, rfl, hsz⟩ := okWide_struct hs hv
  obtain ⟨fuel, h⟩ := h
  obtain ⟨⟨xs, hx, hw⟩, _⟩ := flat_trod 8 t fuel _ _ hf h
  have hc : cs.toList = xs.map (Value.int .i64) := by simpa [Value.cells] using hx
  refine ⟨xs, ?_, ?_, hw⟩
  · rw [← hc]
  · have := congrArg List.length hc
    simp at this
    omega

/-- A slice of structs, all of whose cells are of the kind int: the row that it reads as. -/
theorem open_row {α : Type} {z : α} {sz : Nat} {K : α → List Value → Prop} {Wf : α → Prop} {t e : TypeId} {a : Option Addr} {len cap : Nat} {d : DataW H} {p : List MemPlace} (ht : P.underlying t = some (.slice e)) (hc : P.cellsOf e = sz) (hf : flat P 8 e = true)
    (mk : ∀ cs : List Value, cs.length = sz → Ints cs → ∃ x, K x cs ∧ Wf x) (h : DataW.Trod enc P w 0 spare held t (.slice a len cap) d p) :
    ∃ (a' : Option Addr) (l : List α) (c : Nat), Value.slice a len cap = Value.slice a' l.length c ∧ ReadsRow K sz w a' l.length l ∧ l.length ≤ c ∧ ∀ x ∈ l, Wf x := by
  obtain ⟨fuel, h⟩ := h
  rcases open_slice ht h with ⟨hcs, _⟩ | ⟨a', len', cap', m, n, D, Pl, hcs, _, hl, hm, hmm, _, hx⟩
  · simp [Value.cells] at hcs
    obtain ⟨rfl, rfl, rfl⟩ := hcs
    exact ⟨none, [], 0, rfl, ⟨rfl, by simp, fun h => by simp at h⟩, by simp, by simp⟩
  · simp [Value.cells] at hcs
    obtain ⟨rfl, rfl, rfl⟩ := hcs
    have hle : len ≤ m := by rw [hmm]; split <;> omega
    have hall : ∀ i, i < len → ∃ x cs', w.cells? 0 (a'.add (i * P.cellsOf e)) (P.cellsOf e) = some cs' ∧ K x cs' ∧ Wf x := by
      intro i hi
      obtain ⟨cs', h1, h2⟩ := hx i (by omega)
      obtain ⟨_, hlen, _⟩ := World.cells?_some h1
      obtain ⟨x, hk, hwf⟩ := mk cs' (hlen.trans hc) (flat_trod 8 e n cs' _ hf h2).1
      exact ⟨x, cs', h1, hk, hwf⟩
    haveI : Inhabited α := ⟨z⟩
    obtain ⟨f, hfx⟩ := choose_lt hall
    refine ⟨some a', (List.range len).map f, cap, by simp, ⟨rfl, by simp; unfold maxLen at hm; omega, fun _ => ⟨a', rfl, fun j x hj => ?_⟩⟩, by simpa using hl, fun x hx => ?_⟩
    · have hj' : j < len := by
        have := (List.getElem?_eq_some_iff.1 hj).1
        simpa using this
      obtain ⟨cs', h1, hk, hwf⟩ := hfx j hj'
      obtain ⟨_, hlen, hcell⟩ := World.cells?_some h1
      have he : x = f j := by
        have := (List.getElem?_eq_some_iff.1 hj).2
        simpa using this.symm
      subst he
      refine ⟨cs', hlen.trans hc, hk, fun i u hu => ?_⟩
      have hi : i < P.cellsOf e := by
        have := (List.getElem?_eq_some_iff.1 hu).1
        omega
      have := hcell i hi
      rw [Addr.add_add, hc] at this
      rw [this, hu]
    · obtain ⟨i, hi, rfl⟩ := List.mem_map.1 hx
      obtain ⟨_, _, _, hwf⟩ := hfx i (by simpa using hi)
      exact hwf

theorem list2 {α : Type} {l : List α} (h : l.length = 2) : ∃ a b, l = [a, b] := by
  match l, h with
  | [a, b], _ => exact ⟨a, b, rfl⟩
theorem list3 {α : Type} {l : List α} (h : l.length = 3) : ∃ a b c, l = [a, b, c] := by
  match l, h with
  | [a, b, c], _ => exact ⟨a, b, c, rfl⟩
theorem list4 {α : Type} {l : List α} (h : l.length = 4) : ∃ a b c d, l = [a, b, c, d] := by
  match l, h with
  | [a, b, c, d], _ => exact ⟨a, b, c, d, rfl⟩
theorem list12 {α : Type} {l : List α} (h : l.length = 12) : ∃ a b c d e f g h i j k m, l = [a, b, c, d, e, f, g, h, i, j, k, m] := by
  match l, h with
  | [a, b, c, d, e, f, g, h, i, j, k, m], _ => exact ⟨a, b, c, d, e, f, g, h, i, j, k, m, rfl⟩
theorem wf2 {a b : Int} (h : ∀ x ∈ [a, b], (Lit.int .i64 x).wf = true) : (Lit.int .i64 a).wf = true ∧ (Lit.int .i64 b).wf = true := by simpa using h
theorem wf3 {a b c : Int} (h : ∀ x ∈ [a, b, c], (Lit.int .i64 x).wf = true) : (Lit.int .i64 a).wf = true ∧ (Lit.int .i64 b).wf = true ∧ (Lit.int .i64 c).wf = true := by simpa using h
theorem wf4 {a b c d : Int} (h : ∀ x ∈ [a, b, c, d], (Lit.int .i64 x).wf = true) : (Lit.int .i64 a).wf = true ∧ (Lit.int .i64 b).wf = true ∧ (Lit.int .i64 c).wf = true ∧ (Lit.int .i64 d).wf = true := by simpa using h
theorem wf12 {a b c d e f g i j k m n : Int} (h : ∀ x ∈ [a, b, c, d, e, f, g, i, j, k, m, n], (Lit.int .i64 x).wf = true) :
    (Lit.int .i64 a).wf = true ∧ (Lit.int .i64 b).wf = true ∧ (Lit.int .i64 c).wf = true ∧ (Lit.int .i64 d).wf = true ∧ (Lit.int .i64 e).wf = true ∧ (Lit.int .i64 f).wf = true ∧
    (Lit.int .i64 g).wf = true ∧ (Lit.int .i64 i).wf = true ∧ (Lit.int .i64 j).wf = true ∧ (Lit.int .i64 k).wf = true ∧ (Lit.int .i64 m).wf = true ∧ (Lit.int .i64 n).wf = true := by simpa using h

theorem open2 {r : Reach} {b0 : Nat} {t : TypeId} {fs : Array Field} {v : Value} {d : DataW H} {p : List MemPlace} (hs : P.underlying t = some (.struct fs)) (hf : flat P 8 t = true) (hc : P.cellsOf t = 2)
    (hv : Value.okWide P w r b0 t v) (h : DataW.Trod enc P w base spare held t v d p) :
    ∃ a b : Int, v = .agg #[.int .i64 a, .int .i64 b] ∧ (Lit.int .i64 a).wf = true ∧ (Lit.int .i64 b).wf = true := by
  obtain ⟨xs, rfl, hl, hw⟩ := open_flat hs hf hv h
  obtain ⟨a, b, rfl⟩ := list2 (hl.trans hc)
  exact ⟨a, b, rfl, wf2 hw⟩
theorem open3 {r : Reach} {b0 : Nat} {t : TypeId} {fs : Array Field} {v : Value} {d : DataW H} {p : List MemPlace} (hs : P.underlying t = some (.struct fs)) (hf : flat P 8 t = true) (hc : P.cellsOf t = 3)
    (hv : Value.okWide P w r b0 t v) (h : DataW.Trod enc P w base spare held t v d p) :
    ∃ a b c : Int, v = .agg #[.int .i64 a, .int .i64 b, .int .i64 c] ∧ (Lit.int .i64 a).wf = true ∧ (Lit.int .i64 b).wf = true ∧ (Lit.int .i64 c).wf = true := by
  obtain ⟨xs, rfl, hl, hw⟩ := open_flat hs hf hv h
  obtain ⟨a, b, c, rfl⟩ := list3 (hl.trans hc)
  exact ⟨a, b, c, rfl, wf3 hw⟩
theorem open4 {r : Reach} {b0 : Nat} {t : TypeId} {fs : Array Field} {v : Value} {d : DataW H} {p : List MemPlace} (hs : P.underlying t = some (.struct fs)) (hf : flat P 8 t = true) (hc : P.cellsOf t = 4)
    (hv : Value.okWide P w r b0 t v) (h : DataW.Trod enc P w base spare held t v d p) :
    ∃ a b c e : Int, v = .agg #[.int .i64 a, .int .i64 b, .int .i64 c, .int .i64 e] ∧ (Lit.int .i64 a).wf = true ∧ (Lit.int .i64 b).wf = true ∧ (Lit.int .i64 c).wf = true ∧ (Lit.int .i64 e).wf = true := by
  obtain ⟨xs, rfl, hl, hw⟩ := open_flat hs hf hv h
  obtain ⟨a, b, c, e, rfl⟩ := list4 (hl.trans hc)
  exact ⟨a, b, c, e, rfl, wf4 hw⟩
theorem open12 {r : Reach} {b0 : Nat} {t : TypeId} {fs : Array Field} {v : Value} {d : DataW H} {p : List MemPlace} (hs : P.underlying t = some (.struct fs)) (hf : flat P 8 t = true) (hc : P.cellsOf t = 12)
    (hv : Value.okWide P w r b0 t v) (h : DataW.Trod enc P w base spare held t v d p) :
    ∃ a b c e f g i j k l m n : Int, v = .agg #[.int .i64 a, .int .i64 b, .int .i64 c, .int .i64 e, .int .i64 f, .int .i64 g, .int .i64 i, .int .i64 j, .int .i64 k, .int .i64 l, .int .i64 m, .int .i64 n] ∧
      (Lit.int .i64 a).wf = true ∧ (Lit.int .i64 b).wf = true ∧ (Lit.int .i64 c).wf = true ∧ (Lit.int .i64 e).wf = true ∧ (Lit.int .i64 f).wf = true ∧ (Lit.int .i64 g).wf = true ∧ (Lit.int .i64 i).wf = true ∧
      (Lit.int .i64 j).wf = true ∧ (Lit.int .i64 k).wf = true ∧ (Lit.int .i64 l).wf = true ∧ (Lit.int .i64 m).wf = true ∧ (Lit.int .i64 n).wf = true := by
  obtain ⟨xs, rfl, hl, hw⟩ := open_flat hs hf hv h
  obtain ⟨a, b, c, e, f, g, i, j, k, l, m, n, rfl⟩ := list12 (hl.trans hc)
  exact ⟨a, b, c, e, f, g, i, j, k, l, m, n, rfl, wf12 hw⟩

end Go.Proofs.Ytdngjedhbnoaoaa.Opn
