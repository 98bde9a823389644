/- The pure statement of FnExactGroupAwake, over whole numbers (and lists) alone, and the end of its walk; no condition of its own. -/
import Derived.Test.YtdngjedhbnoaoaaPBigx1219
import Derived.Test.YtdngjedhbnoaoaaOpn
namespace Go.Proofs.Ytdngjedhbnoaoaa.PBig
open Go.RowKit Go.ChangeShapes Go.WideShapes Go.Deep Go.Proofs.YtdngjedhbnoaoaaW.PrintWords Go.Proofs.YtdngjedhbnoaoaaW.PrintLast Go.Proofs.YtdngjedhbnoaoaaW.PrintMore
set_option linter.unusedVariables false
def wf76 (x : S76) : Prop := (Lit.int .i64 x.f0).wf = true ∧ (Lit.int .i64 x.f1.f0).wf = true ∧ (Lit.int .i64 x.f1.f1).wf = true ∧ (Lit.int .i64 x.f1.f2).wf = true ∧ (Lit.int .i64 x.f2.f0).wf = true ∧ (Lit.int .i64 x.f2.f1).wf = true ∧ (Lit.int .i64 x.f3.f0).wf = true ∧ (Lit.int .i64 x.f3.f1).wf = true ∧ (Lit.int .i64 x.f4).wf = true ∧ (Lit.int .i64 x.f5).wf = true ∧ (Lit.int .i64 x.f6).wf = true ∧ (Lit.int .i64 x.f7).wf = true
theorem ofInts76 (w : World) {cs : List Value} (hl : cs.length = 12) (h : Opn.Ints cs) : ∃ x : S76, k76.K w x cs ∧ wf76 x := by
  obtain ⟨xs, rfl, hw⟩ := h
  obtain ⟨b0, b1, b2, b3, b4, b5, b6, b7, b8, b9, b10, b11, rfl⟩ := Opn.list12 (show xs.length = 12 by simpa using hl)
  exact ⟨⟨b0, ⟨b1, b2, b3⟩, ⟨b4, b5⟩, ⟨b6, b7⟩, b8, b9, b10, b11⟩, k76_mk w _, Opn.wf12 hw⟩
set_option maxRecDepth 100000 in
theorem openRow76 {H : Type} {enc : TypeId × Value → H} {w : World} {r : Reach} {b0 : Nat} {spare : Nat → Bool} {held : Bool} {v : Value} {d : DataW H} {p : List MemPlace}
    (hv : Value.okWide Try.prog w r b0 49 v) (h : DataW.Trod enc Try.prog w 0 spare held 49 v d p) :
    ∃ (a : Option Addr) (l : List S76) (c : Nat), v = .slice a l.length c ∧ Kd.C k76 w a l.length l ∧ l.length ≤ c ∧ ∀ x ∈ l, wf76 x := by
  obtain ⟨a, len, cap, rfl⟩ := okWide_slice Try.underlying49 hv
  exact Opn.open_row (z := z76) (K := k76.K w) (Wf := wf76) Try.underlying49 (by kernel_rfl) (by kernel_rfl) (fun cs hl hi => ofInts76 w hl hi) h
def laws_FnExactGroupAwake.Pure : Prop := ∀ (l0 : List S76), l0.length ≤ 9223372036854775807 → (∀ x ∈ l0, wf76 x) → ∃ k, laws_FnExactGroupAwake.f k l0 = some true
theorem laws_FnExactGroupAwake.walk (P : laws_FnExactGroupAwake.Pure) (A0 : Option Addr) (c0 : Nat) (l0 : List S76) (w : World) (hr0 : Kd.C k76 w A0 l0.length l0) (hc0 : l0.length ≤ c0) (hw0 : ∀ x ∈ l0, wf76 x) :
    Calls Try.prog 8 #[.slice A0 l0.length c0] w fun e w' => e = .returned (.bool true) ∧ Below w.heap.size w w' := by
  have hm0 : l0.length ≤ 9223372036854775807 := hr0.2.1
  obtain ⟨k, h⟩ := P l0 hm0 hw0
  refine (laws_FnExactGroupAwake.calls k _ _ l0 true w hr0 hc0 h).mono ?_
  rintro e w' ⟨rfl, hd⟩
  exact ⟨rfl, hd⟩
end Go.Proofs.Ytdngjedhbnoaoaa.PBig
