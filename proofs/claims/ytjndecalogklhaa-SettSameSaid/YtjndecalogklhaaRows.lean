/-
  No cell of these rows narrows 'for every input' (looked for: loops, veiled, ifaces, maps, wideKeys, modest, calm, conditions, laid).
  DERIVED. THE GIVEN ROWS OF THIS SEAT. 6 by the template 'for every input the law returns true; each argument reads behind the call as it read before'; 0 by the template 'total and deterministic' (their statements: YtjndecalogklhaaTotals.lean).
  GIVEN WITH THE SEED: the statements are not yours to turn. If you find one false, say at which input.
  Laid BY PROGRAM, IN A SANDBOX (cutbox-rows.mjs): the forced cells as the released guide's own fill.sh prints them over the translation 3a272fe6b603f815… (all of the seat's roots in one cut). By AI agents, Wed Nov 11 2026. No macro, syntax, notation, axiom, sorry.
-/
import Derived.Test.YtjndecalogklhaaChecked
import GoSem.Claim
import GoSem.ClaimJoined
import GoSem.ClaimMapViews
import Derived.JoinedTies
import Derived.KernelRfl
namespace Go.Proofs.Ytjndecalogklhaa
/- THE CELL 'sum', in the pinned program and in every row, IS THE sha256 OF THE DUMP (.gsa) THAT YtjndecalogklhaaProg.lean LOADS. Nothing in Lean hashes anything: it is a label: what it is worth is what the hold of that sum in a sandbox is worth. -/
noncomputable def Try.pinned : Pinned := { name := "ytjndecalogklhaa", sum := "3a272fe6b603f81575abce41eb7c39758c029a3c3d193b89cbdb3267672c7584", checked := Try.checked }
namespace Rows
def none {H : Type} : Left H := { results := [], args := [] }

/-- 'raddlelaw24.SettTurns': WHATEVER THE INPUT: true; the input reads as it did. -/
def settTurnsSpec : ChangeSpec := { name := "settTurns", fn := fun _ => fun
  | [d1, d2] => { results := [.lit (.bool true)], args := [d1, d2] }
  | _ => none }
def settTurnsRow : OpenClaim := { program := "ytjndecalogklhaa", sum := "3a272fe6b603f81575abce41eb7c39758c029a3c3d193b89cbdb3267672c7584", func := "raddle/raddlelaw24.SettTurns", spec := "settTurns", unfollowed := true, recurses := true, apart := false }
def SettTurnsSaid : Prop := settTurnsRow.holds Try.pinned (OpenSpec.ofChange settTurnsSpec)

/-- ITS FALSE NEIGHBOUR: 'it returns false'. Refute it at one input. -/
def settTurnsWrong : ChangeSpec := { name := "settTurns", fn := fun _ => fun
  | [d1, d2] => { results := [.lit (.bool false)], args := [d1, d2] }
  | _ => none }
def SettTurnsWrongFalsely : Prop := settTurnsRow.holds Try.pinned (OpenSpec.ofChange settTurnsWrong)

/-- 'raddlelaw24.SettRule': WHATEVER THE INPUT: true; the input reads as it did. -/
def settRuleSpec : ChangeSpec := { name := "settRule", fn := fun _ => fun
  | [d1, d2] => { results := [.lit (.bool true)], args := [d1, d2] }
  | _ => none }
def settRuleRow : OpenClaim := { program := "ytjndecalogklhaa", sum := "3a272fe6b603f81575abce41eb7c39758c029a3c3d193b89cbdb3267672c7584", func := "raddle/raddlelaw24.SettRule", spec := "settRule", unfollowed := true, recurses := true, named := ["math/bits.divideError", "math/bits.overflowError"], apart := false }
def SettRuleSaid : Prop := settRuleRow.holds Try.pinned (OpenSpec.ofChange settRuleSpec)

/-- ITS FALSE NEIGHBOUR: 'it returns false'. Refute it at one input. -/
def settRuleWrong : ChangeSpec := { name := "settRule", fn := fun _ => fun
  | [d1, d2] => { results := [.lit (.bool false)], args := [d1, d2] }
  | _ => none }
def SettRuleWrongFalsely : Prop := settRuleRow.holds Try.pinned (OpenSpec.ofChange settRuleWrong)

/-- 'raddlelaw24.SettWidths': WHATEVER THE INPUT: true; the input reads as it did. -/
def settWidthsSpec : ChangeSpec := { name := "settWidths", fn := fun _ => fun
  | [d1, d2] => { results := [.lit (.bool true)], args := [d1, d2] }
  | _ => none }
def settWidthsRow : OpenClaim := { program := "ytjndecalogklhaa", sum := "3a272fe6b603f81575abce41eb7c39758c029a3c3d193b89cbdb3267672c7584", func := "raddle/raddlelaw24.SettWidths", spec := "settWidths", unfollowed := true, recurses := true, named := ["math/bits.divideError", "math/bits.overflowError"], apart := false }
def SettWidthsSaid : Prop := settWidthsRow.holds Try.pinned (OpenSpec.ofChange settWidthsSpec)

/-- ITS FALSE NEIGHBOUR: 'it returns false'. Refute it at one input. -/
def settWidthsWrong : ChangeSpec := { name := "settWidths", fn := fun _ => fun
  | [d1, d2] => { results := [.lit (.bool false)], args := [d1, d2] }
  | _ => none }
def SettWidthsWrongFalsely : Prop := settWidthsRow.holds Try.pinned (OpenSpec.ofChange settWidthsWrong)

/-- 'raddlelaw24.SettNames': WHATEVER THE INPUT: true; the input reads as it did. -/
def settNamesSpec : ChangeSpec := { name := "settNames", fn := fun _ => fun
  | [] => { results := [.lit (.bool true)], args := [] }
  | _ => none }
def settNamesRow : OpenClaim := { program := "ytjndecalogklhaa", sum := "3a272fe6b603f81575abce41eb7c39758c029a3c3d193b89cbdb3267672c7584", func := "raddle/raddlelaw24.SettNames", spec := "settNames", unfollowed := true, recurses := true, named := ["math/bits.divideError", "math/bits.overflowError"], apart := false }
def SettNamesSaid : Prop := settNamesRow.holds Try.pinned (OpenSpec.ofChange settNamesSpec)

/-- ITS FALSE NEIGHBOUR: 'it returns false'. Refute it at one input. -/
def settNamesWrong : ChangeSpec := { name := "settNames", fn := fun _ => fun
  | [] => { results := [.lit (.bool false)], args := [] }
  | _ => none }
def SettNamesWrongFalsely : Prop := settNamesRow.holds Try.pinned (OpenSpec.ofChange settNamesWrong)

/-- 'raddlelaw24.SettYarns': WHATEVER THE INPUT: true; the input reads as it did. -/
def settYarnsSpec : ChangeSpec := { name := "settYarns", fn := fun _ => fun
  | [d1, d2] => { results := [.lit (.bool true)], args := [d1, d2] }
  | _ => none }
def settYarnsRow : OpenClaim := { program := "ytjndecalogklhaa", sum := "3a272fe6b603f81575abce41eb7c39758c029a3c3d193b89cbdb3267672c7584", func := "raddle/raddlelaw24.SettYarns", spec := "settYarns", unfollowed := true, recurses := true, named := ["math/bits.divideError", "math/bits.overflowError"], apart := false }
def SettYarnsSaid : Prop := settYarnsRow.holds Try.pinned (OpenSpec.ofChange settYarnsSpec)

/-- ITS FALSE NEIGHBOUR: 'it returns false'. Refute it at one input. -/
def settYarnsWrong : ChangeSpec := { name := "settYarns", fn := fun _ => fun
  | [d1, d2] => { results := [.lit (.bool false)], args := [d1, d2] }
  | _ => none }
def SettYarnsWrongFalsely : Prop := settYarnsRow.holds Try.pinned (OpenSpec.ofChange settYarnsWrong)

/-- 'raddlelaw24.SettSame': WHATEVER THE INPUT: true; the input reads as it did. -/
def settSameSpec : ChangeSpec := { name := "settSame", fn := fun _ => fun
  | [d1, d2, d3, d4, d5] => { results := [.lit (.bool true)], args := [d1, d2, d3, d4, d5] }
  | _ => none }
def settSameRow : OpenClaim := { program := "ytjndecalogklhaa", sum := "3a272fe6b603f81575abce41eb7c39758c029a3c3d193b89cbdb3267672c7584", func := "raddle/raddlelaw24.SettSame", spec := "settSame", unfollowed := true, recurses := true, named := ["math/bits.divideError", "math/bits.overflowError"], apart := false }
def SettSameSaid : Prop := settSameRow.holds Try.pinned (OpenSpec.ofChange settSameSpec)

/-- ITS FALSE NEIGHBOUR: 'it returns false'. Refute it at one input. -/
def settSameWrong : ChangeSpec := { name := "settSame", fn := fun _ => fun
  | [d1, d2, d3, d4, d5] => { results := [.lit (.bool false)], args := [d1, d2, d3, d4, d5] }
  | _ => none }
def SettSameWrongFalsely : Prop := settSameRow.holds Try.pinned (OpenSpec.ofChange settSameWrong)

/- THE SECOND FORM. 'bulk': how many values and letters a reading holds, each counted each time it is reached (what is shared counts as often as it is met; a slice's spare places count too). A statement '..UptoSaid' is the law's where the arguments, and the package variables that the reading takes, are together of bulk at most 1048576: NARROWER than '..Said'. Prove '..Said' where nothing that the law and all that it calls make is longer than what came in: it says more and counts as full. Else prove '..UptoSaid'. A law counts once. -/
mutual
def uptoBulk {H : Type} : DataW H → Nat
  | .lit (.string bytes) => bytes.length + 1
  | .lit _ => 1
  | .nil => 1
  | .ptr d => uptoBulk d + 1
  | .slice elems spare => uptoBulkAll elems + uptoBulkAll spare + 1
  | .agg parts => uptoBulkAll parts + 1
  | .iface _ d => uptoBulk d + 1
  | .map entries => uptoBulkEntries entries + 1
  | .held _ => 1
def uptoBulkAll {H : Type} : List (DataW H) → Nat
  | [] => 0
  | d :: r => uptoBulk d + uptoBulkAll r
def uptoBulkEntries {H : Type} : List (Lit × DataW H) → Nat
  | [] => 0
  | x :: r => uptoBulkEntry x + uptoBulkEntries r
def uptoBulkEntry {H : Type} : Lit × DataW H → Nat
  | (.string bytes, d) => bytes.length + uptoBulk d + 1
  | (_, d) => uptoBulk d + 1
 end
def uptoSmall : (H : Type) → List (DataW H) → Bool := fun _ ds => decide (uptoBulkAll ds ≤ 1048576)
def OpenSpec.upto (s : _root_.Go.ChangeSpec) : _root_.Go.OpenSpec := { _root_.Go.OpenSpec.ofChange s with cond := some uptoSmall }

/-- 'raddlelaw24.SettTurns', WHERE WHAT IT READS IS OF BULK AT MOST 1048576: true; the input reads as it did. -/
def settTurnsUptoRow : OpenClaim := { program := "ytjndecalogklhaa", sum := "3a272fe6b603f81575abce41eb7c39758c029a3c3d193b89cbdb3267672c7584", func := "raddle/raddlelaw24.SettTurns", spec := "settTurns", unfollowed := true, recurses := true, apart := false, narrowed := true }
def SettTurnsUptoSaid : Prop := settTurnsUptoRow.holds Try.pinned (OpenSpec.upto settTurnsSpec)

/-- 'raddlelaw24.SettRule', WHERE WHAT IT READS IS OF BULK AT MOST 1048576: true; the input reads as it did. -/
def settRuleUptoRow : OpenClaim := { program := "ytjndecalogklhaa", sum := "3a272fe6b603f81575abce41eb7c39758c029a3c3d193b89cbdb3267672c7584", func := "raddle/raddlelaw24.SettRule", spec := "settRule", unfollowed := true, recurses := true, named := ["math/bits.divideError", "math/bits.overflowError"], apart := false, narrowed := true }
def SettRuleUptoSaid : Prop := settRuleUptoRow.holds Try.pinned (OpenSpec.upto settRuleSpec)

/-- 'raddlelaw24.SettWidths', WHERE WHAT IT READS IS OF BULK AT MOST 1048576: true; the input reads as it did. -/
def settWidthsUptoRow : OpenClaim := { program := "ytjndecalogklhaa", sum := "3a272fe6b603f81575abce41eb7c39758c029a3c3d193b89cbdb3267672c7584", func := "raddle/raddlelaw24.SettWidths", spec := "settWidths", unfollowed := true, recurses := true, named := ["math/bits.divideError", "math/bits.overflowError"], apart := false, narrowed := true }
def SettWidthsUptoSaid : Prop := settWidthsUptoRow.holds Try.pinned (OpenSpec.upto settWidthsSpec)

/-- 'raddlelaw24.SettNames', WHERE WHAT IT READS IS OF BULK AT MOST 1048576: true; the input reads as it did. -/
def settNamesUptoRow : OpenClaim := { program := "ytjndecalogklhaa", sum := "3a272fe6b603f81575abce41eb7c39758c029a3c3d193b89cbdb3267672c7584", func := "raddle/raddlelaw24.SettNames", spec := "settNames", unfollowed := true, recurses := true, named := ["math/bits.divideError", "math/bits.overflowError"], apart := false, narrowed := true }
def SettNamesUptoSaid : Prop := settNamesUptoRow.holds Try.pinned (OpenSpec.upto settNamesSpec)

/-- 'raddlelaw24.SettYarns', WHERE WHAT IT READS IS OF BULK AT MOST 1048576: true; the input reads as it did. -/
def settYarnsUptoRow : OpenClaim := { program := "ytjndecalogklhaa", sum := "3a272fe6b603f81575abce41eb7c39758c029a3c3d193b89cbdb3267672c7584", func := "raddle/raddlelaw24.SettYarns", spec := "settYarns", unfollowed := true, recurses := true, named := ["math/bits.divideError", "math/bits.overflowError"], apart := false, narrowed := true }
def SettYarnsUptoSaid : Prop := settYarnsUptoRow.holds Try.pinned (OpenSpec.upto settYarnsSpec)

/-- 'raddlelaw24.SettSame', WHERE WHAT IT READS IS OF BULK AT MOST 1048576: true; the input reads as it did. -/
def settSameUptoRow : OpenClaim := { program := "ytjndecalogklhaa", sum := "3a272fe6b603f81575abce41eb7c39758c029a3c3d193b89cbdb3267672c7584", func := "raddle/raddlelaw24.SettSame", spec := "settSame", unfollowed := true, recurses := true, named := ["math/bits.divideError", "math/bits.overflowError"], apart := false, narrowed := true }
def SettSameUptoSaid : Prop := settSameUptoRow.holds Try.pinned (OpenSpec.upto settSameSpec)

end Rows
end Go.Proofs.Ytjndecalogklhaa
