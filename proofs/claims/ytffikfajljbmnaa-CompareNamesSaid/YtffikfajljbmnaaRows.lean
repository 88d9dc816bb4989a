/-
  No cell of these rows narrows 'for every input' (looked for: loops, veiled, ifaces, maps, wideKeys, modest, calm, conditions, laid).
  DERIVED. THE GIVEN ROWS OF THIS SEAT. 9 by the template 'for every input the law returns true; each argument reads behind the call as it read before'; 0 by the template 'total and deterministic' (their statements: YtffikfajljbmnaaTotals.lean).
  GIVEN WITH THE SEED: the statements are not yours to turn. If you find one false, say at which input.
  Laid BY PROGRAM, IN A SANDBOX (cutbox-rows.mjs): the forced cells as the released guide's own fill.sh prints them over the translation ec1a45379eb547db… (all of the seat's roots in one cut). By AI agents, Wed Nov 11 2026. No macro, syntax, notation, axiom, sorry.
-/
import Derived.Test.YtffikfajljbmnaaChecked
import GoSem.Claim
import GoSem.ClaimJoined
import GoSem.ClaimMapViews
import Derived.JoinedTies
import Derived.KernelRfl
namespace Go.Proofs.Ytffikfajljbmnaa
/- THE CELL 'sum', in the pinned program and in every row, IS THE sha256 OF THE DUMP (.gsa) THAT YtffikfajljbmnaaProg.lean LOADS. Nothing in Lean hashes anything: it is a label: what it is worth is what the hold of that sum in a sandbox is worth. -/
noncomputable def Try.pinned : Pinned := { name := "ytffikfajljbmnaa", sum := "ec1a45379eb547dbbba25de98f3d691de7b74a632fc0ec5d3eca725a4911dcc0", checked := Try.checked }
namespace Rows
def none {H : Type} : Left H := { results := [], args := [] }

/-- 'raddlelaw46.CompareGrids': WHATEVER THE INPUT: true; the input reads as it did. -/
def compareGridsSpec : ChangeSpec := { name := "compareGrids", fn := fun _ => fun
  | [d1, d2, d3] => { results := [.lit (.bool true)], args := [d1, d2, d3] }
  | _ => none }
def compareGridsRow : OpenClaim := { program := "ytffikfajljbmnaa", sum := "ec1a45379eb547dbbba25de98f3d691de7b74a632fc0ec5d3eca725a4911dcc0", func := "raddle/raddlelaw46.CompareGrids", spec := "compareGrids", unfollowed := true, recurses := true, apart := false }
def CompareGridsSaid : Prop := compareGridsRow.holds Try.pinned (OpenSpec.ofChange compareGridsSpec)

/-- ITS FALSE NEIGHBOUR: 'it returns false'. Refute it at one input. -/
def compareGridsWrong : ChangeSpec := { name := "compareGrids", fn := fun _ => fun
  | [d1, d2, d3] => { results := [.lit (.bool false)], args := [d1, d2, d3] }
  | _ => none }
def CompareGridsWrongFalsely : Prop := compareGridsRow.holds Try.pinned (OpenSpec.ofChange compareGridsWrong)

/-- 'raddlelaw46.CompareCharts': WHATEVER THE INPUT: true; the input reads as it did. -/
def compareChartsSpec : ChangeSpec := { name := "compareCharts", fn := fun _ => fun
  | [d1, d2] => { results := [.lit (.bool true)], args := [d1, d2] }
  | _ => none }
def compareChartsRow : OpenClaim := { program := "ytffikfajljbmnaa", sum := "ec1a45379eb547dbbba25de98f3d691de7b74a632fc0ec5d3eca725a4911dcc0", func := "raddle/raddlelaw46.CompareCharts", spec := "compareCharts", unfollowed := true, recurses := true, apart := false }
def CompareChartsSaid : Prop := compareChartsRow.holds Try.pinned (OpenSpec.ofChange compareChartsSpec)

/-- ITS FALSE NEIGHBOUR: 'it returns false'. Refute it at one input. -/
def compareChartsWrong : ChangeSpec := { name := "compareCharts", fn := fun _ => fun
  | [d1, d2] => { results := [.lit (.bool false)], args := [d1, d2] }
  | _ => none }
def CompareChartsWrongFalsely : Prop := compareChartsRow.holds Try.pinned (OpenSpec.ofChange compareChartsWrong)

/-- 'raddlelaw46.CompareSteps': WHATEVER THE INPUT: true; the input reads as it did. -/
def compareStepsSpec : ChangeSpec := { name := "compareSteps", fn := fun _ => fun
  | [d1, d2, d3] => { results := [.lit (.bool true)], args := [d1, d2, d3] }
  | _ => none }
def compareStepsRow : OpenClaim := { program := "ytffikfajljbmnaa", sum := "ec1a45379eb547dbbba25de98f3d691de7b74a632fc0ec5d3eca725a4911dcc0", func := "raddle/raddlelaw46.CompareSteps", spec := "compareSteps", unfollowed := true, recurses := true, apart := false }
def CompareStepsSaid : Prop := compareStepsRow.holds Try.pinned (OpenSpec.ofChange compareStepsSpec)

/-- ITS FALSE NEIGHBOUR: 'it returns false'. Refute it at one input. -/
def compareStepsWrong : ChangeSpec := { name := "compareSteps", fn := fun _ => fun
  | [d1, d2, d3] => { results := [.lit (.bool false)], args := [d1, d2, d3] }
  | _ => none }
def CompareStepsWrongFalsely : Prop := compareStepsRow.holds Try.pinned (OpenSpec.ofChange compareStepsWrong)

/-- 'raddlelaw46.CompareMetric': WHATEVER THE INPUT: true; the input reads as it did. -/
def compareMetricSpec : ChangeSpec := { name := "compareMetric", fn := fun _ => fun
  | [d1, d2, d3, d4] => { results := [.lit (.bool true)], args := [d1, d2, d3, d4] }
  | _ => none }
def compareMetricRow : OpenClaim := { program := "ytffikfajljbmnaa", sum := "ec1a45379eb547dbbba25de98f3d691de7b74a632fc0ec5d3eca725a4911dcc0", func := "raddle/raddlelaw46.CompareMetric", spec := "compareMetric", unfollowed := true, recurses := true, apart := false }
def CompareMetricSaid : Prop := compareMetricRow.holds Try.pinned (OpenSpec.ofChange compareMetricSpec)

/-- ITS FALSE NEIGHBOUR: 'it returns false'. Refute it at one input. -/
def compareMetricWrong : ChangeSpec := { name := "compareMetric", fn := fun _ => fun
  | [d1, d2, d3, d4] => { results := [.lit (.bool false)], args := [d1, d2, d3, d4] }
  | _ => none }
def CompareMetricWrongFalsely : Prop := compareMetricRow.holds Try.pinned (OpenSpec.ofChange compareMetricWrong)

/-- 'raddlelaw46.CompareGroup': WHATEVER THE INPUT: true; the input reads as it did. -/
def compareGroupSpec : ChangeSpec := { name := "compareGroup", fn := fun _ => fun
  | [d1, d2, d3, d4, d5, d6] => { results := [.lit (.bool true)], args := [d1, d2, d3, d4, d5, d6] }
  | _ => none }
def compareGroupRow : OpenClaim := { program := "ytffikfajljbmnaa", sum := "ec1a45379eb547dbbba25de98f3d691de7b74a632fc0ec5d3eca725a4911dcc0", func := "raddle/raddlelaw46.CompareGroup", spec := "compareGroup", unfollowed := true, recurses := true, apart := false }
def CompareGroupSaid : Prop := compareGroupRow.holds Try.pinned (OpenSpec.ofChange compareGroupSpec)

/-- ITS FALSE NEIGHBOUR: 'it returns false'. Refute it at one input. -/
def compareGroupWrong : ChangeSpec := { name := "compareGroup", fn := fun _ => fun
  | [d1, d2, d3, d4, d5, d6] => { results := [.lit (.bool false)], args := [d1, d2, d3, d4, d5, d6] }
  | _ => none }
def CompareGroupWrongFalsely : Prop := compareGroupRow.holds Try.pinned (OpenSpec.ofChange compareGroupWrong)

/-- 'raddlelaw46.CompareRows': WHATEVER THE INPUT: true; the input reads as it did. -/
def compareRowsSpec : ChangeSpec := { name := "compareRows", fn := fun _ => fun
  | [d1, d2, d3] => { results := [.lit (.bool true)], args := [d1, d2, d3] }
  | _ => none }
def compareRowsRow : OpenClaim := { program := "ytffikfajljbmnaa", sum := "ec1a45379eb547dbbba25de98f3d691de7b74a632fc0ec5d3eca725a4911dcc0", func := "raddle/raddlelaw46.CompareRows", spec := "compareRows", unfollowed := true, recurses := true, apart := false }
def CompareRowsSaid : Prop := compareRowsRow.holds Try.pinned (OpenSpec.ofChange compareRowsSpec)

/-- ITS FALSE NEIGHBOUR: 'it returns false'. Refute it at one input. -/
def compareRowsWrong : ChangeSpec := { name := "compareRows", fn := fun _ => fun
  | [d1, d2, d3] => { results := [.lit (.bool false)], args := [d1, d2, d3] }
  | _ => none }
def CompareRowsWrongFalsely : Prop := compareRowsRow.holds Try.pinned (OpenSpec.ofChange compareRowsWrong)

/-- 'raddlelaw46.ComparePages': WHATEVER THE INPUT: true; the input reads as it did. -/
def comparePagesSpec : ChangeSpec := { name := "comparePages", fn := fun _ => fun
  | [d1, d2, d3] => { results := [.lit (.bool true)], args := [d1, d2, d3] }
  | _ => none }
def comparePagesRow : OpenClaim := { program := "ytffikfajljbmnaa", sum := "ec1a45379eb547dbbba25de98f3d691de7b74a632fc0ec5d3eca725a4911dcc0", func := "raddle/raddlelaw46.ComparePages", spec := "comparePages", unfollowed := true, recurses := true, apart := false }
def ComparePagesSaid : Prop := comparePagesRow.holds Try.pinned (OpenSpec.ofChange comparePagesSpec)

/-- ITS FALSE NEIGHBOUR: 'it returns false'. Refute it at one input. -/
def comparePagesWrong : ChangeSpec := { name := "comparePages", fn := fun _ => fun
  | [d1, d2, d3] => { results := [.lit (.bool false)], args := [d1, d2, d3] }
  | _ => none }
def ComparePagesWrongFalsely : Prop := comparePagesRow.holds Try.pinned (OpenSpec.ofChange comparePagesWrong)

/-- 'raddlelaw46.CompareNames': WHATEVER THE INPUT: true; the input reads as it did. -/
def compareNamesSpec : ChangeSpec := { name := "compareNames", fn := fun _ => fun
  | [] => { results := [.lit (.bool true)], args := [] }
  | _ => none }
def compareNamesRow : OpenClaim := { program := "ytffikfajljbmnaa", sum := "ec1a45379eb547dbbba25de98f3d691de7b74a632fc0ec5d3eca725a4911dcc0", func := "raddle/raddlelaw46.CompareNames", spec := "compareNames", unfollowed := true, recurses := true, apart := false }
def CompareNamesSaid : Prop := compareNamesRow.holds Try.pinned (OpenSpec.ofChange compareNamesSpec)

/-- ITS FALSE NEIGHBOUR: 'it returns false'. Refute it at one input. -/
def compareNamesWrong : ChangeSpec := { name := "compareNames", fn := fun _ => fun
  | [] => { results := [.lit (.bool false)], args := [] }
  | _ => none }
def CompareNamesWrongFalsely : Prop := compareNamesRow.holds Try.pinned (OpenSpec.ofChange compareNamesWrong)

/-- 'raddlelaw46.CompareLeast': WHATEVER THE INPUT: true; the input reads as it did. -/
def compareLeastSpec : ChangeSpec := { name := "compareLeast", fn := fun _ => fun
  | [d1, d2, d3] => { results := [.lit (.bool true)], args := [d1, d2, d3] }
  | _ => none }
def compareLeastRow : OpenClaim := { program := "ytffikfajljbmnaa", sum := "ec1a45379eb547dbbba25de98f3d691de7b74a632fc0ec5d3eca725a4911dcc0", func := "raddle/raddlelaw46.CompareLeast", spec := "compareLeast", unfollowed := true, recurses := true, apart := false }
def CompareLeastSaid : Prop := compareLeastRow.holds Try.pinned (OpenSpec.ofChange compareLeastSpec)

/-- ITS FALSE NEIGHBOUR: 'it returns false'. Refute it at one input. -/
def compareLeastWrong : ChangeSpec := { name := "compareLeast", fn := fun _ => fun
  | [d1, d2, d3] => { results := [.lit (.bool false)], args := [d1, d2, d3] }
  | _ => none }
def CompareLeastWrongFalsely : Prop := compareLeastRow.holds Try.pinned (OpenSpec.ofChange compareLeastWrong)

/- THE SECOND FORM. 'bulk': how many values and letters a reading holds, each counted each time it is reached (what is shared counts as often as it is met; a slice's spare places count too). A statement '..UptoSaid' is the law's where the arguments, and the package variables that the reading takes, are together of bulk at most 1048576: NARROWER than '..Said'. Prove '..Said' where nothing that the law and all that it calls make is longer than what came in: it says more and counts as full. Else prove '..UptoSaid'. A law counts once. -/
mutual
def uptoBulk {H : Type} : DataW H → Nat
  | .lit (.string bytes) => bytes.length + 1
  | .lit _ => 1
  | .nil => 1
  | .ptr d => uptoBulk d + 1
  | .slice elems spare => uptoBulkAll elems + uptoBulkAll spare + 1
  | .agg parts => uptoBulkAll parts + 1
  | .iface _ d => uptoBulk d + 1
  | .map entries => uptoBulkEntries entries + 1
  | .held _ => 1
def uptoBulkAll {H : Type} : List (DataW H) → Nat
  | [] => 0
  | d :: r => uptoBulk d + uptoBulkAll r
def uptoBulkEntries {H : Type} : List (Lit × DataW H) → Nat
  | [] => 0
  | x :: r => uptoBulkEntry x + uptoBulkEntries r
def uptoBulkEntry {H : Type} : Lit × DataW H → Nat
  | (.string bytes, d) => bytes.length + uptoBulk d + 1
  | (_, d) => uptoBulk d + 1
 end
def uptoSmall : (H : Type) → List (DataW H) → Bool := fun _ ds => decide (uptoBulkAll ds ≤ 1048576)
def OpenSpec.upto (s : _root_.Go.ChangeSpec) : _root_.Go.OpenSpec := { _root_.Go.OpenSpec.ofChange s with cond := some uptoSmall }

/-- 'raddlelaw46.CompareGrids', WHERE WHAT IT READS IS OF BULK AT MOST 1048576: true; the input reads as it did. -/
def compareGridsUptoRow : OpenClaim := { program := "ytffikfajljbmnaa", sum := "ec1a45379eb547dbbba25de98f3d691de7b74a632fc0ec5d3eca725a4911dcc0", func := "raddle/raddlelaw46.CompareGrids", spec := "compareGrids", unfollowed := true, recurses := true, apart := false, narrowed := true }
def CompareGridsUptoSaid : Prop := compareGridsUptoRow.holds Try.pinned (OpenSpec.upto compareGridsSpec)

/-- 'raddlelaw46.CompareCharts', WHERE WHAT IT READS IS OF BULK AT MOST 1048576: true; the input reads as it did. -/
def compareChartsUptoRow : OpenClaim := { program := "ytffikfajljbmnaa", sum := "ec1a45379eb547dbbba25de98f3d691de7b74a632fc0ec5d3eca725a4911dcc0", func := "raddle/raddlelaw46.CompareCharts", spec := "compareCharts", unfollowed := true, recurses := true, apart := false, narrowed := true }
def CompareChartsUptoSaid : Prop := compareChartsUptoRow.holds Try.pinned (OpenSpec.upto compareChartsSpec)

/-- 'raddlelaw46.CompareSteps', WHERE WHAT IT READS IS OF BULK AT MOST 1048576: true; the input reads as it did. -/
def compareStepsUptoRow : OpenClaim := { program := "ytffikfajljbmnaa", sum := "ec1a45379eb547dbbba25de98f3d691de7b74a632fc0ec5d3eca725a4911dcc0", func := "raddle/raddlelaw46.CompareSteps", spec := "compareSteps", unfollowed := true, recurses := true, apart := false, narrowed := true }
def CompareStepsUptoSaid : Prop := compareStepsUptoRow.holds Try.pinned (OpenSpec.upto compareStepsSpec)

/-- 'raddlelaw46.CompareMetric', WHERE WHAT IT READS IS OF BULK AT MOST 1048576: true; the input reads as it did. -/
def compareMetricUptoRow : OpenClaim := { program := "ytffikfajljbmnaa", sum := "ec1a45379eb547dbbba25de98f3d691de7b74a632fc0ec5d3eca725a4911dcc0", func := "raddle/raddlelaw46.CompareMetric", spec := "compareMetric", unfollowed := true, recurses := true, apart := false, narrowed := true }
def CompareMetricUptoSaid : Prop := compareMetricUptoRow.holds Try.pinned (OpenSpec.upto compareMetricSpec)

/-- 'raddlelaw46.CompareGroup', WHERE WHAT IT READS IS OF BULK AT MOST 1048576: true; the input reads as it did. -/
def compareGroupUptoRow : OpenClaim := { program := "ytffikfajljbmnaa", sum := "ec1a45379eb547dbbba25de98f3d691de7b74a632fc0ec5d3eca725a4911dcc0", func := "raddle/raddlelaw46.CompareGroup", spec := "compareGroup", unfollowed := true, recurses := true, apart := false, narrowed := true }
def CompareGroupUptoSaid : Prop := compareGroupUptoRow.holds Try.pinned (OpenSpec.upto compareGroupSpec)

/-- 'raddlelaw46.CompareRows', WHERE WHAT IT READS IS OF BULK AT MOST 1048576: true; the input reads as it did. -/
def compareRowsUptoRow : OpenClaim := { program := "ytffikfajljbmnaa", sum := "ec1a45379eb547dbbba25de98f3d691de7b74a632fc0ec5d3eca725a4911dcc0", func := "raddle/raddlelaw46.CompareRows", spec := "compareRows", unfollowed := true, recurses := true, apart := false, narrowed := true }
def CompareRowsUptoSaid : Prop := compareRowsUptoRow.holds Try.pinned (OpenSpec.upto compareRowsSpec)

/-- 'raddlelaw46.ComparePages', WHERE WHAT IT READS IS OF BULK AT MOST 1048576: true; the input reads as it did. -/
def comparePagesUptoRow : OpenClaim := { program := "ytffikfajljbmnaa", sum := "ec1a45379eb547dbbba25de98f3d691de7b74a632fc0ec5d3eca725a4911dcc0", func := "raddle/raddlelaw46.ComparePages", spec := "comparePages", unfollowed := true, recurses := true, apart := false, narrowed := true }
def ComparePagesUptoSaid : Prop := comparePagesUptoRow.holds Try.pinned (OpenSpec.upto comparePagesSpec)

/-- 'raddlelaw46.CompareNames', WHERE WHAT IT READS IS OF BULK AT MOST 1048576: true; the input reads as it did. -/
def compareNamesUptoRow : OpenClaim := { program := "ytffikfajljbmnaa", sum := "ec1a45379eb547dbbba25de98f3d691de7b74a632fc0ec5d3eca725a4911dcc0", func := "raddle/raddlelaw46.CompareNames", spec := "compareNames", unfollowed := true, recurses := true, apart := false, narrowed := true }
def CompareNamesUptoSaid : Prop := compareNamesUptoRow.holds Try.pinned (OpenSpec.upto compareNamesSpec)

/-- 'raddlelaw46.CompareLeast', WHERE WHAT IT READS IS OF BULK AT MOST 1048576: true; the input reads as it did. -/
def compareLeastUptoRow : OpenClaim := { program := "ytffikfajljbmnaa", sum := "ec1a45379eb547dbbba25de98f3d691de7b74a632fc0ec5d3eca725a4911dcc0", func := "raddle/raddlelaw46.CompareLeast", spec := "compareLeast", unfollowed := true, recurses := true, apart := false, narrowed := true }
def CompareLeastUptoSaid : Prop := compareLeastUptoRow.holds Try.pinned (OpenSpec.upto compareLeastSpec)

end Rows
end Go.Proofs.Ytffikfajljbmnaa
