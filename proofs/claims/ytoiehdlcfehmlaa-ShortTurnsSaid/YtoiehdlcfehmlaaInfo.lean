/- The element types' rows of the program's table. -/
import Derived.Test.YtoiehdlcfehmlaaProg
import Derived.Test.YtoiehdlcfehmlaaOwn
namespace Go.Proofs.Ytoiehdlcfehmlaa
open Go.RowKit
set_option linter.unusedVariables false

theorem infoInt : (Try.prog.info? 3).map (fun i => (i.zero, i.size, i.bytes)) = some (some (.int .i64 0), 1, 8) := by kernel_rfl
/-- a list and an error come back -/
def RetL (w0 : World) (xs : List Int) (er : Int) (e : Ending) (w' : World) : Prop :=
  ∃ a c, e = .returned (.tuple #[.slice a xs.length c, .int .i64 er]) ∧ Row w' a xs.length (fI xs) ∧ xs.length ≤ c ∧ Below w0.heap.size w0 w'
theorem RetL.none (w0 w' : World) (er : Int) (h : Below w0.heap.size w0 w') : RetL w0 [] er (.returned (.tuple #[.slice none 0 0, .int .i64 er])) w' :=
  ⟨_, _, rfl, Row.nil _ _ _, Nat.le_refl _, h⟩
theorem RetL.own {w0 w' : World} {base : Nat} {xs : List Int} {er : Int} {a : Option Addr} {n c : Nat} {F : Nat → Value} (ho : w'.ownsRow base 3 1 (.slice a n c) n (vals F n)) (hn : xs.length = n) (hF : ∀ k, k < n → F k = fI xs k) (h : Below w0.heap.size w0 w') :
    RetL w0 xs er (.returned (.tuple #[.slice a n c, .int .i64 er])) w' := by
  subst hn
  obtain ⟨a', c', e, hr, _⟩ := ownsRow_row ho (f := F) (fun k hk => vals_get _ hk)
  cases e
  exact ⟨_, _, rfl, hr.congr hF, ownsRow_cap ho, h⟩

end Go.Proofs.Ytoiehdlcfehmlaa
