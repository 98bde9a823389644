/- The pure statement of FnExactDrives, over whole numbers (and lists) alone, and the end of its walk; no condition of its own. -/
import Derived.Test.YtgclkbklhopaaaaPFnExactDrivesx9
import Derived.Test.YtgclkbklhopaaaaOpn
namespace Go.Proofs.Ytgclkbklhopaaaa.PFnExactDrives
open Go.RowKit Go.ChangeShapes Go.WideShapes Go.Deep Go.Proofs.YtgclkbklhopaaaaW.PrintWords Go.Proofs.YtgclkbklhopaaaaW.PrintLast Go.Proofs.YtgclkbklhopaaaaW.PrintMore
set_option linter.unusedVariables false
def wf37 (x : S37) : Prop := (Lit.int .i64 x.f0).wf = true ∧ (Lit.int .i64 x.f1.f0).wf = true ∧ (Lit.int .i64 x.f1.f1).wf = true ∧ (Lit.int .i64 x.f1.f2).wf = true ∧ (Lit.int .i64 x.f2.f0).wf = true ∧ (Lit.int .i64 x.f2.f1).wf = true ∧ (Lit.int .i64 x.f3.f0).wf = true ∧ (Lit.int .i64 x.f3.f1).wf = true ∧ (Lit.int .i64 x.f4).wf = true ∧ (Lit.int .i64 x.f5).wf = true ∧ (Lit.int .i64 x.f6).wf = true ∧ (Lit.int .i64 x.f7).wf = true
theorem ofInts37 (w : World) {cs : List Value} (hl : cs.length = 12) (h : Opn.Ints cs) : ∃ x : S37, k37.K w x cs ∧ wf37 x := by
  obtain ⟨xs, rfl, hw⟩ := h
  obtain ⟨b0, b1, b2, b3, b4, b5, b6, b7, b8, b9, b10, b11, rfl⟩ := Opn.list12 (show xs.length = 12 by simpa using hl)
  exact ⟨⟨b0, ⟨b1, b2, b3⟩, ⟨b4, b5⟩, ⟨b6, b7⟩, b8, b9, b10, b11⟩, k37_mk w _, Opn.wf12 hw⟩
theorem openRow37 {H : Type} {enc : TypeId × Value → H} {w : World} {r : Reach} {b0 : Nat} {spare : Nat → Bool} {held : Bool} {v : Value} {d : DataW H} {p : List MemPlace}
    (hv : Value.okWide Try.prog w r b0 61 v) (h : DataW.Trod enc Try.prog w 0 spare held 61 v d p) :
    ∃ (a : Option Addr) (l : List S37) (c : Nat), v = .slice a l.length c ∧ Kd.C k37 w a l.length l ∧ l.length ≤ c ∧ ∀ x ∈ l, wf37 x := by
  obtain ⟨a, len, cap, rfl⟩ := okWide_slice Try.underlying61 hv
  exact Opn.open_row (z := z37) (K := k37.K w) (Wf := wf37) Try.underlying61 (by kernel_rfl) (by kernel_rfl) (fun cs hl hi => ofInts37 w hl hi) h
def laws_FnExactDrives.Pure : Prop := ∀ (l0 : List S37), l0.length ≤ 9223372036854775807 → (∀ x ∈ l0, wf37 x) → ∃ k, laws_FnExactDrives.f k l0 = some true
theorem laws_FnExactDrives.walk (P : laws_FnExactDrives.Pure) (A0 : Option Addr) (c0 : Nat) (l0 : List S37) (w : World) (hr0 : Kd.C k37 w A0 l0.length l0) (hc0 : l0.length ≤ c0) (hw0 : ∀ x ∈ l0, wf37 x) :
    Calls Try.prog 12 #[.slice A0 l0.length c0] w fun e w' => e = .returned (.bool true) ∧ Below w.heap.size w w' := by
  have hm0 : l0.length ≤ 9223372036854775807 := hr0.2.1
  obtain ⟨k, h⟩ := P l0 hm0 hw0
  refine (laws_FnExactDrives.calls k _ _ l0 true w hr0 hc0 h).mono ?_
  rintro e w' ⟨rfl, hd⟩
  exact ⟨rfl, hd⟩
end Go.Proofs.Ytgclkbklhopaaaa.PFnExactDrives
