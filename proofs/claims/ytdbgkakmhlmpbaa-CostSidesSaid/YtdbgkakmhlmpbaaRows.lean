/-
  No cell of these rows narrows 'for every input' (looked for: loops, veiled, ifaces, maps, wideKeys, modest, calm, conditions, laid).
  DERIVED. THE GIVEN ROWS OF THIS SEAT. 7 by the template 'for every input the law returns true; each argument reads behind the call as it read before'; 0 by the template 'total and deterministic' (their statements: YtdbgkakmhlmpbaaTotals.lean).
  GIVEN WITH THE SEED: the statements are not yours to turn. If you find one false, say at which input.
  Laid BY PROGRAM, IN A SANDBOX (cutbox-rows.mjs): the forced cells as the released guide's own fill.sh prints them over the translation b0a70e2594a38018… (all of the seat's roots in one cut). By AI agents, Wed Nov 11 2026. No macro, syntax, notation, axiom, sorry.
-/
import Derived.Test.YtdbgkakmhlmpbaaChecked
import GoSem.Claim
import GoSem.ClaimJoined
import GoSem.ClaimMapViews
import Derived.JoinedTies
import Derived.KernelRfl
namespace Go.Proofs.Ytdbgkakmhlmpbaa
/- THE CELL 'sum', in the pinned program and in every row, IS THE sha256 OF THE DUMP (.gsa) THAT YtdbgkakmhlmpbaaProg.lean LOADS. Nothing in Lean hashes anything: it is a label: what it is worth is what the hold of that sum in a sandbox is worth. -/
noncomputable def Try.pinned : Pinned := { name := "ytdbgkakmhlmpbaa", sum := "b0a70e2594a38018ff455ed5058319268e4b8d680d95379c0346d63c4da44505", checked := Try.checked }
namespace Rows
def none {H : Type} : Left H := { results := [], args := [] }

/-- 'raddlelaw45.CostPrices': WHATEVER THE INPUT: true; the input reads as it did. -/
def costPricesSpec : ChangeSpec := { name := "costPrices", fn := fun _ => fun
  | [d1, d2, d3, d4] => { results := [.lit (.bool true)], args := [d1, d2, d3, d4] }
  | _ => none }
def costPricesRow : OpenClaim := { program := "ytdbgkakmhlmpbaa", sum := "b0a70e2594a38018ff455ed5058319268e4b8d680d95379c0346d63c4da44505", func := "raddle/raddlelaw45.CostPrices", spec := "costPrices", recurses := true, apart := false }
def CostPricesSaid : Prop := costPricesRow.holds Try.pinned (OpenSpec.ofChange costPricesSpec)

/-- ITS FALSE NEIGHBOUR: 'it returns false'. Refute it at one input. -/
def costPricesWrong : ChangeSpec := { name := "costPrices", fn := fun _ => fun
  | [d1, d2, d3, d4] => { results := [.lit (.bool false)], args := [d1, d2, d3, d4] }
  | _ => none }
def CostPricesWrongFalsely : Prop := costPricesRow.holds Try.pinned (OpenSpec.ofChange costPricesWrong)

/-- 'raddlelaw45.CostNeeds': WHATEVER THE INPUT: true; the input reads as it did. -/
def costNeedsSpec : ChangeSpec := { name := "costNeeds", fn := fun _ => fun
  | [d1, d2, d3] => { results := [.lit (.bool true)], args := [d1, d2, d3] }
  | _ => none }
def costNeedsRow : OpenClaim := { program := "ytdbgkakmhlmpbaa", sum := "b0a70e2594a38018ff455ed5058319268e4b8d680d95379c0346d63c4da44505", func := "raddle/raddlelaw45.CostNeeds", spec := "costNeeds", unfollowed := true, recurses := true, apart := false }
def CostNeedsSaid : Prop := costNeedsRow.holds Try.pinned (OpenSpec.ofChange costNeedsSpec)

/-- ITS FALSE NEIGHBOUR: 'it returns false'. Refute it at one input. -/
def costNeedsWrong : ChangeSpec := { name := "costNeeds", fn := fun _ => fun
  | [d1, d2, d3] => { results := [.lit (.bool false)], args := [d1, d2, d3] }
  | _ => none }
def CostNeedsWrongFalsely : Prop := costNeedsRow.holds Try.pinned (OpenSpec.ofChange costNeedsWrong)

/-- 'raddlelaw45.CostSkeins': WHATEVER THE INPUT: true; the input reads as it did. -/
def costSkeinsSpec : ChangeSpec := { name := "costSkeins", fn := fun _ => fun
  | [d1, d2, d3, d4] => { results := [.lit (.bool true)], args := [d1, d2, d3, d4] }
  | _ => none }
def costSkeinsRow : OpenClaim := { program := "ytdbgkakmhlmpbaa", sum := "b0a70e2594a38018ff455ed5058319268e4b8d680d95379c0346d63c4da44505", func := "raddle/raddlelaw45.CostSkeins", spec := "costSkeins", unfollowed := true, recurses := true, apart := false }
def CostSkeinsSaid : Prop := costSkeinsRow.holds Try.pinned (OpenSpec.ofChange costSkeinsSpec)

/-- ITS FALSE NEIGHBOUR: 'it returns false'. Refute it at one input. -/
def costSkeinsWrong : ChangeSpec := { name := "costSkeins", fn := fun _ => fun
  | [d1, d2, d3, d4] => { results := [.lit (.bool false)], args := [d1, d2, d3, d4] }
  | _ => none }
def CostSkeinsWrongFalsely : Prop := costSkeinsRow.holds Try.pinned (OpenSpec.ofChange costSkeinsWrong)

/-- 'raddlelaw45.CostNames': WHATEVER THE INPUT: true; the input reads as it did. -/
def costNamesSpec : ChangeSpec := { name := "costNames", fn := fun _ => fun
  | [] => { results := [.lit (.bool true)], args := [] }
  | _ => none }
def costNamesRow : OpenClaim := { program := "ytdbgkakmhlmpbaa", sum := "b0a70e2594a38018ff455ed5058319268e4b8d680d95379c0346d63c4da44505", func := "raddle/raddlelaw45.CostNames", spec := "costNames", unfollowed := true, recurses := true, apart := false }
def CostNamesSaid : Prop := costNamesRow.holds Try.pinned (OpenSpec.ofChange costNamesSpec)

/-- ITS FALSE NEIGHBOUR: 'it returns false'. Refute it at one input. -/
def costNamesWrong : ChangeSpec := { name := "costNames", fn := fun _ => fun
  | [] => { results := [.lit (.bool false)], args := [] }
  | _ => none }
def CostNamesWrongFalsely : Prop := costNamesRow.holds Try.pinned (OpenSpec.ofChange costNamesWrong)

/-- 'raddlelaw45.CostSides': WHATEVER THE INPUT: true; the input reads as it did. -/
def costSidesSpec : ChangeSpec := { name := "costSides", fn := fun _ => fun
  | [d1, d2, d3, d4] => { results := [.lit (.bool true)], args := [d1, d2, d3, d4] }
  | _ => none }
def costSidesRow : OpenClaim := { program := "ytdbgkakmhlmpbaa", sum := "b0a70e2594a38018ff455ed5058319268e4b8d680d95379c0346d63c4da44505", func := "raddle/raddlelaw45.CostSides", spec := "costSides", unfollowed := true, recurses := true, apart := false }
def CostSidesSaid : Prop := costSidesRow.holds Try.pinned (OpenSpec.ofChange costSidesSpec)

/-- ITS FALSE NEIGHBOUR: 'it returns false'. Refute it at one input. -/
def costSidesWrong : ChangeSpec := { name := "costSides", fn := fun _ => fun
  | [d1, d2, d3, d4] => { results := [.lit (.bool false)], args := [d1, d2, d3, d4] }
  | _ => none }
def CostSidesWrongFalsely : Prop := costSidesRow.holds Try.pinned (OpenSpec.ofChange costSidesWrong)

/-- 'raddlelaw45.CostWorks': WHATEVER THE INPUT: true; the input reads as it did. -/
def costWorksSpec : ChangeSpec := { name := "costWorks", fn := fun _ => fun
  | [d1, d2, d3, d4, d5] => { results := [.lit (.bool true)], args := [d1, d2, d3, d4, d5] }
  | _ => none }
def costWorksRow : OpenClaim := { program := "ytdbgkakmhlmpbaa", sum := "b0a70e2594a38018ff455ed5058319268e4b8d680d95379c0346d63c4da44505", func := "raddle/raddlelaw45.CostWorks", spec := "costWorks", unfollowed := true, recurses := true, apart := false }
def CostWorksSaid : Prop := costWorksRow.holds Try.pinned (OpenSpec.ofChange costWorksSpec)

/-- ITS FALSE NEIGHBOUR: 'it returns false'. Refute it at one input. -/
def costWorksWrong : ChangeSpec := { name := "costWorks", fn := fun _ => fun
  | [d1, d2, d3, d4, d5] => { results := [.lit (.bool false)], args := [d1, d2, d3, d4, d5] }
  | _ => none }
def CostWorksWrongFalsely : Prop := costWorksRow.holds Try.pinned (OpenSpec.ofChange costWorksWrong)

/-- 'raddlelaw45.CostSums': WHATEVER THE INPUT: true; the input reads as it did. -/
def costSumsSpec : ChangeSpec := { name := "costSums", fn := fun _ => fun
  | [d1, d2, d3, d4] => { results := [.lit (.bool true)], args := [d1, d2, d3, d4] }
  | _ => none }
def costSumsRow : OpenClaim := { program := "ytdbgkakmhlmpbaa", sum := "b0a70e2594a38018ff455ed5058319268e4b8d680d95379c0346d63c4da44505", func := "raddle/raddlelaw45.CostSums", spec := "costSums", unfollowed := true, recurses := true, apart := false }
def CostSumsSaid : Prop := costSumsRow.holds Try.pinned (OpenSpec.ofChange costSumsSpec)

/-- ITS FALSE NEIGHBOUR: 'it returns false'. Refute it at one input. -/
def costSumsWrong : ChangeSpec := { name := "costSums", fn := fun _ => fun
  | [d1, d2, d3, d4] => { results := [.lit (.bool false)], args := [d1, d2, d3, d4] }
  | _ => none }
def CostSumsWrongFalsely : Prop := costSumsRow.holds Try.pinned (OpenSpec.ofChange costSumsWrong)

/- THE SECOND FORM. 'bulk': how many values and letters a reading holds, each counted each time it is reached (what is shared counts as often as it is met; a slice's spare places count too). A statement '..UptoSaid' is the law's where the arguments, and the package variables that the reading takes, are together of bulk at most 1048576: NARROWER than '..Said'. Prove '..Said' where nothing that the law and all that it calls make is longer than what came in: it says more and counts as full. Else prove '..UptoSaid'. A law counts once. -/
mutual
def uptoBulk {H : Type} : DataW H → Nat
  | .lit (.string bytes) => bytes.length + 1
  | .lit _ => 1
  | .nil => 1
  | .ptr d => uptoBulk d + 1
  | .slice elems spare => uptoBulkAll elems + uptoBulkAll spare + 1
  | .agg parts => uptoBulkAll parts + 1
  | .iface _ d => uptoBulk d + 1
  | .map entries => uptoBulkEntries entries + 1
  | .held _ => 1
def uptoBulkAll {H : Type} : List (DataW H) → Nat
  | [] => 0
  | d :: r => uptoBulk d + uptoBulkAll r
def uptoBulkEntries {H : Type} : List (Lit × DataW H) → Nat
  | [] => 0
  | x :: r => uptoBulkEntry x + uptoBulkEntries r
def uptoBulkEntry {H : Type} : Lit × DataW H → Nat
  | (.string bytes, d) => bytes.length + uptoBulk d + 1
  | (_, d) => uptoBulk d + 1
 end
def uptoSmall : (H : Type) → List (DataW H) → Bool := fun _ ds => decide (uptoBulkAll ds ≤ 1048576)
def OpenSpec.upto (s : _root_.Go.ChangeSpec) : _root_.Go.OpenSpec := { _root_.Go.OpenSpec.ofChange s with cond := some uptoSmall }

/-- 'raddlelaw45.CostPrices', WHERE WHAT IT READS IS OF BULK AT MOST 1048576: true; the input reads as it did. -/
def costPricesUptoRow : OpenClaim := { program := "ytdbgkakmhlmpbaa", sum := "b0a70e2594a38018ff455ed5058319268e4b8d680d95379c0346d63c4da44505", func := "raddle/raddlelaw45.CostPrices", spec := "costPrices", recurses := true, apart := false, narrowed := true }
def CostPricesUptoSaid : Prop := costPricesUptoRow.holds Try.pinned (OpenSpec.upto costPricesSpec)

/-- 'raddlelaw45.CostNeeds', WHERE WHAT IT READS IS OF BULK AT MOST 1048576: true; the input reads as it did. -/
def costNeedsUptoRow : OpenClaim := { program := "ytdbgkakmhlmpbaa", sum := "b0a70e2594a38018ff455ed5058319268e4b8d680d95379c0346d63c4da44505", func := "raddle/raddlelaw45.CostNeeds", spec := "costNeeds", unfollowed := true, recurses := true, apart := false, narrowed := true }
def CostNeedsUptoSaid : Prop := costNeedsUptoRow.holds Try.pinned (OpenSpec.upto costNeedsSpec)

/-- 'raddlelaw45.CostSkeins', WHERE WHAT IT READS IS OF BULK AT MOST 1048576: true; the input reads as it did. -/
def costSkeinsUptoRow : OpenClaim := { program := "ytdbgkakmhlmpbaa", sum := "b0a70e2594a38018ff455ed5058319268e4b8d680d95379c0346d63c4da44505", func := "raddle/raddlelaw45.CostSkeins", spec := "costSkeins", unfollowed := true, recurses := true, apart := false, narrowed := true }
def CostSkeinsUptoSaid : Prop := costSkeinsUptoRow.holds Try.pinned (OpenSpec.upto costSkeinsSpec)

/-- 'raddlelaw45.CostNames', WHERE WHAT IT READS IS OF BULK AT MOST 1048576: true; the input reads as it did. -/
def costNamesUptoRow : OpenClaim := { program := "ytdbgkakmhlmpbaa", sum := "b0a70e2594a38018ff455ed5058319268e4b8d680d95379c0346d63c4da44505", func := "raddle/raddlelaw45.CostNames", spec := "costNames", unfollowed := true, recurses := true, apart := false, narrowed := true }
def CostNamesUptoSaid : Prop := costNamesUptoRow.holds Try.pinned (OpenSpec.upto costNamesSpec)

/-- 'raddlelaw45.CostSides', WHERE WHAT IT READS IS OF BULK AT MOST 1048576: true; the input reads as it did. -/
def costSidesUptoRow : OpenClaim := { program := "ytdbgkakmhlmpbaa", sum := "b0a70e2594a38018ff455ed5058319268e4b8d680d95379c0346d63c4da44505", func := "raddle/raddlelaw45.CostSides", spec := "costSides", unfollowed := true, recurses := true, apart := false, narrowed := true }
def CostSidesUptoSaid : Prop := costSidesUptoRow.holds Try.pinned (OpenSpec.upto costSidesSpec)

/-- 'raddlelaw45.CostWorks', WHERE WHAT IT READS IS OF BULK AT MOST 1048576: true; the input reads as it did. -/
def costWorksUptoRow : OpenClaim := { program := "ytdbgkakmhlmpbaa", sum := "b0a70e2594a38018ff455ed5058319268e4b8d680d95379c0346d63c4da44505", func := "raddle/raddlelaw45.CostWorks", spec := "costWorks", unfollowed := true, recurses := true, apart := false, narrowed := true }
def CostWorksUptoSaid : Prop := costWorksUptoRow.holds Try.pinned (OpenSpec.upto costWorksSpec)

/-- 'raddlelaw45.CostSums', WHERE WHAT IT READS IS OF BULK AT MOST 1048576: true; the input reads as it did. -/
def costSumsUptoRow : OpenClaim := { program := "ytdbgkakmhlmpbaa", sum := "b0a70e2594a38018ff455ed5058319268e4b8d680d95379c0346d63c4da44505", func := "raddle/raddlelaw45.CostSums", spec := "costSums", unfollowed := true, recurses := true, apart := false, narrowed := true }
def CostSumsUptoSaid : Prop := costSumsUptoRow.holds Try.pinned (OpenSpec.upto costSumsSpec)

end Rows
end Go.Proofs.Ytdbgkakmhlmpbaa
