/-
  No cell of these rows narrows 'for every input' (looked for: loops, veiled, ifaces, maps, wideKeys, modest, calm, conditions, laid).
  DERIVED. THE GIVEN ROWS OF THIS SEAT. 3 by the template 'for every input the law returns true; each argument reads behind the call as it read before'; 0 by the template 'total and deterministic' (their statements: YtdfjcpnflmgdoaaTotals.lean).
  GIVEN WITH THE SEED: the statements are not yours to turn. If you find one false, say at which input.
  Laid BY PROGRAM, IN A SANDBOX (cutbox-rows.mjs): the forced cells as the released guide's own fill.sh prints them over the translation a183ea4df00a8651… (all of the seat's roots in one cut). By AI agents, Wed Nov 11 2026. No macro, syntax, notation, axiom, sorry.
-/
import Derived.Test.YtdfjcpnflmgdoaaChecked
import GoSem.Claim
import GoSem.ClaimJoined
import GoSem.ClaimMapViews
import Derived.JoinedTies
import Derived.KernelRfl
namespace Go.Proofs.Ytdfjcpnflmgdoaa
/- THE CELL 'sum', in the pinned program and in every row, IS THE sha256 OF THE DUMP (.gsa) THAT YtdfjcpnflmgdoaaProg.lean LOADS. Nothing in Lean hashes anything: it is a label: what it is worth is what the hold of that sum in a sandbox is worth. -/
noncomputable def Try.pinned : Pinned := { name := "ytdfjcpnflmgdoaa", sum := "a183ea4df00a86510fe30fc701038636df85860f3a50922dd9a1fe5fd100d896", checked := Try.checked }
namespace Rows
def none {H : Type} : Left H := { results := [], args := [] }

/-- 'raddlelaw23.YarnWorks': WHATEVER THE INPUT: true; the input reads as it did. -/
def yarnWorksSpec : ChangeSpec := { name := "yarnWorks", fn := fun _ => fun
  | [d1, d2] => { results := [.lit (.bool true)], args := [d1, d2] }
  | _ => none }
def yarnWorksRow : OpenClaim := { program := "ytdfjcpnflmgdoaa", sum := "a183ea4df00a86510fe30fc701038636df85860f3a50922dd9a1fe5fd100d896", func := "raddle/raddlelaw23.YarnWorks", spec := "yarnWorks", unfollowed := true, recurses := true, apart := false }
def YarnWorksSaid : Prop := yarnWorksRow.holds Try.pinned (OpenSpec.ofChange yarnWorksSpec)

/-- ITS FALSE NEIGHBOUR: 'it returns false'. Refute it at one input. -/
def yarnWorksWrong : ChangeSpec := { name := "yarnWorks", fn := fun _ => fun
  | [d1, d2] => { results := [.lit (.bool false)], args := [d1, d2] }
  | _ => none }
def YarnWorksWrongFalsely : Prop := yarnWorksRow.holds Try.pinned (OpenSpec.ofChange yarnWorksWrong)

/-- 'raddlelaw23.YarnCounts': WHATEVER THE INPUT: true; the input reads as it did. -/
def yarnCountsSpec : ChangeSpec := { name := "yarnCounts", fn := fun _ => fun
  | [d1, d2, d3] => { results := [.lit (.bool true)], args := [d1, d2, d3] }
  | _ => none }
def yarnCountsRow : OpenClaim := { program := "ytdfjcpnflmgdoaa", sum := "a183ea4df00a86510fe30fc701038636df85860f3a50922dd9a1fe5fd100d896", func := "raddle/raddlelaw23.YarnCounts", spec := "yarnCounts", unfollowed := true, recurses := true, apart := false }
def YarnCountsSaid : Prop := yarnCountsRow.holds Try.pinned (OpenSpec.ofChange yarnCountsSpec)

/-- ITS FALSE NEIGHBOUR: 'it returns false'. Refute it at one input. -/
def yarnCountsWrong : ChangeSpec := { name := "yarnCounts", fn := fun _ => fun
  | [d1, d2, d3] => { results := [.lit (.bool false)], args := [d1, d2, d3] }
  | _ => none }
def YarnCountsWrongFalsely : Prop := yarnCountsRow.holds Try.pinned (OpenSpec.ofChange yarnCountsWrong)

/-- 'raddlelaw23.YarnWeighs': WHATEVER THE INPUT: true; the input reads as it did. -/
def yarnWeighsSpec : ChangeSpec := { name := "yarnWeighs", fn := fun _ => fun
  | [d1, d2, d3] => { results := [.lit (.bool true)], args := [d1, d2, d3] }
  | _ => none }
def yarnWeighsRow : OpenClaim := { program := "ytdfjcpnflmgdoaa", sum := "a183ea4df00a86510fe30fc701038636df85860f3a50922dd9a1fe5fd100d896", func := "raddle/raddlelaw23.YarnWeighs", spec := "yarnWeighs", recurses := true, apart := false }
def YarnWeighsSaid : Prop := yarnWeighsRow.holds Try.pinned (OpenSpec.ofChange yarnWeighsSpec)

/-- ITS FALSE NEIGHBOUR: 'it returns false'. Refute it at one input. -/
def yarnWeighsWrong : ChangeSpec := { name := "yarnWeighs", fn := fun _ => fun
  | [d1, d2, d3] => { results := [.lit (.bool false)], args := [d1, d2, d3] }
  | _ => none }
def YarnWeighsWrongFalsely : Prop := yarnWeighsRow.holds Try.pinned (OpenSpec.ofChange yarnWeighsWrong)

/- THE SECOND FORM. 'bulk': how many values and letters a reading holds, each counted each time it is reached (what is shared counts as often as it is met; a slice's spare places count too). A statement '..UptoSaid' is the law's where the arguments, and the package variables that the reading takes, are together of bulk at most 1048576: NARROWER than '..Said'. Prove '..Said' where nothing that the law and all that it calls make is longer than what came in: it says more and counts as full. Else prove '..UptoSaid'. A law counts once. -/
mutual
def uptoBulk {H : Type} : DataW H → Nat
  | .lit (.string bytes) => bytes.length + 1
  | .lit _ => 1
  | .nil => 1
  | .ptr d => uptoBulk d + 1
  | .slice elems spare => uptoBulkAll elems + uptoBulkAll spare + 1
  | .agg parts => uptoBulkAll parts + 1
  | .iface _ d => uptoBulk d + 1
  | .map entries => uptoBulkEntries entries + 1
  | .held _ => 1
def uptoBulkAll {H : Type} : List (DataW H) → Nat
  | [] => 0
  | d :: r => uptoBulk d + uptoBulkAll r
def uptoBulkEntries {H : Type} : List (Lit × DataW H) → Nat
  | [] => 0
  | x :: r => uptoBulkEntry x + uptoBulkEntries r
def uptoBulkEntry {H : Type} : Lit × DataW H → Nat
  | (.string bytes, d) => bytes.length + uptoBulk d + 1
  | (_, d) => uptoBulk d + 1
 end
def uptoSmall : (H : Type) → List (DataW H) → Bool := fun _ ds => decide (uptoBulkAll ds ≤ 1048576)
def OpenSpec.upto (s : _root_.Go.ChangeSpec) : _root_.Go.OpenSpec := { _root_.Go.OpenSpec.ofChange s with cond := some uptoSmall }

/-- 'raddlelaw23.YarnWorks', WHERE WHAT IT READS IS OF BULK AT MOST 1048576: true; the input reads as it did. -/
def yarnWorksUptoRow : OpenClaim := { program := "ytdfjcpnflmgdoaa", sum := "a183ea4df00a86510fe30fc701038636df85860f3a50922dd9a1fe5fd100d896", func := "raddle/raddlelaw23.YarnWorks", spec := "yarnWorks", unfollowed := true, recurses := true, apart := false, narrowed := true }
def YarnWorksUptoSaid : Prop := yarnWorksUptoRow.holds Try.pinned (OpenSpec.upto yarnWorksSpec)

/-- 'raddlelaw23.YarnCounts', WHERE WHAT IT READS IS OF BULK AT MOST 1048576: true; the input reads as it did. -/
def yarnCountsUptoRow : OpenClaim := { program := "ytdfjcpnflmgdoaa", sum := "a183ea4df00a86510fe30fc701038636df85860f3a50922dd9a1fe5fd100d896", func := "raddle/raddlelaw23.YarnCounts", spec := "yarnCounts", unfollowed := true, recurses := true, apart := false, narrowed := true }
def YarnCountsUptoSaid : Prop := yarnCountsUptoRow.holds Try.pinned (OpenSpec.upto yarnCountsSpec)

/-- 'raddlelaw23.YarnWeighs', WHERE WHAT IT READS IS OF BULK AT MOST 1048576: true; the input reads as it did. -/
def yarnWeighsUptoRow : OpenClaim := { program := "ytdfjcpnflmgdoaa", sum := "a183ea4df00a86510fe30fc701038636df85860f3a50922dd9a1fe5fd100d896", func := "raddle/raddlelaw23.YarnWeighs", spec := "yarnWeighs", recurses := true, apart := false, narrowed := true }
def YarnWeighsUptoSaid : Prop := yarnWeighsUptoRow.holds Try.pinned (OpenSpec.upto yarnWeighsSpec)

end Rows
end Go.Proofs.Ytdfjcpnflmgdoaa
