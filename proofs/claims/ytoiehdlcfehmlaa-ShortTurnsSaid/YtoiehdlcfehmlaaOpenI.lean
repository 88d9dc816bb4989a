/- A list of numbers and a grid as arguments. -/
import Derived.Test.YtoiehdlcfehmlaaProg
import Derived.Test.YtoiehdlcfehmlaaOpen
namespace Go.Proofs.Ytoiehdlcfehmlaa
open Go.RowKit
set_option linter.unusedVariables false

open Go.ChangeShapes Go.WideShapes Go.ChangeAt Go.Joins
theorem openInts {H : Type} {enc : TypeId × Value → H} {w : World} {base b0 : Nat} {spare : Nat → Bool} {held : Bool} {r : Reach} {v : Value} {d : DataW H} {p : List MemPlace} (hv : Value.okWide Try.prog w r b0 22 v) (h : DataW.Trod enc Try.prog w base spare held 22 v d p) :
    ∃ a xs c, v = .slice a (List.length xs) c ∧ xs.length ≤ c ∧ Row w a xs.length (fI xs) ∧ ∀ k, k < xs.length → -9223372036854775808 ≤ gI xs k ∧ gI xs k ≤ 9223372036854775807 := by
  obtain ⟨a, n, c, rfl⟩ := okWide_slice Try.underlying22 hv
  obtain ⟨_, xs, _, e, h1, _, h2, h3⟩ := open_numbers (v := .slice a n c) Try.underlying22 Try.underlying3 (by kernel_rfl) h.choose_spec
  cases e
  exact ⟨a, xs, c, rfl, h1, h2, h3⟩

end Go.Proofs.Ytoiehdlcfehmlaa
