/-
  No cell of these rows narrows 'for every input' (looked for: loops, veiled, ifaces, maps, wideKeys, modest, calm, conditions, laid).
  DERIVED. THE GIVEN ROWS OF THIS SEAT. 3 by the template 'for every input the law returns true; each argument reads behind the call as it read before'; 0 by the template 'total and deterministic' (their statements: YtmedbnjhgkcndaaTotals.lean).
  GIVEN WITH THE SEED: the statements are not yours to turn. If you find one false, say at which input.
  Laid BY PROGRAM, IN A SANDBOX (cutbox-rows.mjs): the forced cells as the released guide's own fill.sh prints them over the translation b2a4b34324695200… (all of the seat's roots in one cut). By AI agents, Wed Nov 11 2026. No macro, syntax, notation, axiom, sorry.
-/
import Derived.Test.YtmedbnjhgkcndaaChecked
import GoSem.Claim
import GoSem.ClaimJoined
import GoSem.ClaimMapViews
import Derived.JoinedTies
import Derived.KernelRfl
namespace Go.Proofs.Ytmedbnjhgkcndaa
/- THE CELL 'sum', in the pinned program and in every row, IS THE sha256 OF THE DUMP (.gsa) THAT YtmedbnjhgkcndaaProg.lean LOADS. Nothing in Lean hashes anything: it is a label: what it is worth is what the hold of that sum in a sandbox is worth. -/
noncomputable def Try.pinned : Pinned := { name := "ytmedbnjhgkcndaa", sum := "b2a4b343246952002ea296c0596821479e74d9fcce5fc8aacdc286b9ec17cf22", checked := Try.checked }
namespace Rows
def none {H : Type} : Left H := { results := [], args := [] }

/-- 'raddlelaw37.PieceMeasures': WHATEVER THE INPUT: true; the input reads as it did. -/
def pieceMeasuresSpec : ChangeSpec := { name := "pieceMeasures", fn := fun _ => fun
  | [d1, d2, d3] => { results := [.lit (.bool true)], args := [d1, d2, d3] }
  | _ => none }
def pieceMeasuresRow : OpenClaim := { program := "ytmedbnjhgkcndaa", sum := "b2a4b343246952002ea296c0596821479e74d9fcce5fc8aacdc286b9ec17cf22", func := "raddle/raddlelaw37.PieceMeasures", spec := "pieceMeasures", apart := false }
def PieceMeasuresSaid : Prop := pieceMeasuresRow.holds Try.pinned (OpenSpec.ofChange pieceMeasuresSpec)

/-- ITS FALSE NEIGHBOUR: 'it returns false'. Refute it at one input. -/
def pieceMeasuresWrong : ChangeSpec := { name := "pieceMeasures", fn := fun _ => fun
  | [d1, d2, d3] => { results := [.lit (.bool false)], args := [d1, d2, d3] }
  | _ => none }
def PieceMeasuresWrongFalsely : Prop := pieceMeasuresRow.holds Try.pinned (OpenSpec.ofChange pieceMeasuresWrong)

/-- 'raddlelaw37.PieceMakes': WHATEVER THE INPUT: true; the input reads as it did. -/
def pieceMakesSpec : ChangeSpec := { name := "pieceMakes", fn := fun _ => fun
  | [d1, d2] => { results := [.lit (.bool true)], args := [d1, d2] }
  | _ => none }
def pieceMakesRow : OpenClaim := { program := "ytmedbnjhgkcndaa", sum := "b2a4b343246952002ea296c0596821479e74d9fcce5fc8aacdc286b9ec17cf22", func := "raddle/raddlelaw37.PieceMakes", spec := "pieceMakes", unfollowed := true, recurses := true, apart := false }
def PieceMakesSaid : Prop := pieceMakesRow.holds Try.pinned (OpenSpec.ofChange pieceMakesSpec)

/-- ITS FALSE NEIGHBOUR: 'it returns false'. Refute it at one input. -/
def pieceMakesWrong : ChangeSpec := { name := "pieceMakes", fn := fun _ => fun
  | [d1, d2] => { results := [.lit (.bool false)], args := [d1, d2] }
  | _ => none }
def PieceMakesWrongFalsely : Prop := pieceMakesRow.holds Try.pinned (OpenSpec.ofChange pieceMakesWrong)

/-- 'raddlelaw37.PieceCharts': WHATEVER THE INPUT: true; the input reads as it did. -/
def pieceChartsSpec : ChangeSpec := { name := "pieceCharts", fn := fun _ => fun
  | [d1, d2, d3] => { results := [.lit (.bool true)], args := [d1, d2, d3] }
  | _ => none }
def pieceChartsRow : OpenClaim := { program := "ytmedbnjhgkcndaa", sum := "b2a4b343246952002ea296c0596821479e74d9fcce5fc8aacdc286b9ec17cf22", func := "raddle/raddlelaw37.PieceCharts", spec := "pieceCharts", unfollowed := true, recurses := true, apart := false }
def PieceChartsSaid : Prop := pieceChartsRow.holds Try.pinned (OpenSpec.ofChange pieceChartsSpec)

/-- ITS FALSE NEIGHBOUR: 'it returns false'. Refute it at one input. -/
def pieceChartsWrong : ChangeSpec := { name := "pieceCharts", fn := fun _ => fun
  | [d1, d2, d3] => { results := [.lit (.bool false)], args := [d1, d2, d3] }
  | _ => none }
def PieceChartsWrongFalsely : Prop := pieceChartsRow.holds Try.pinned (OpenSpec.ofChange pieceChartsWrong)

/- THE SECOND FORM. 'bulk': how many values and letters a reading holds, each counted each time it is reached (what is shared counts as often as it is met; a slice's spare places count too). A statement '..UptoSaid' is the law's where the arguments, and the package variables that the reading takes, are together of bulk at most 1048576: NARROWER than '..Said'. Prove '..Said' where nothing that the law and all that it calls make is longer than what came in: it says more and counts as full. Else prove '..UptoSaid'. A law counts once. -/
mutual
def uptoBulk {H : Type} : DataW H → Nat
  | .lit (.string bytes) => bytes.length + 1
  | .lit _ => 1
  | .nil => 1
  | .ptr d => uptoBulk d + 1
  | .slice elems spare => uptoBulkAll elems + uptoBulkAll spare + 1
  | .agg parts => uptoBulkAll parts + 1
  | .iface _ d => uptoBulk d + 1
  | .map entries => uptoBulkEntries entries + 1
  | .held _ => 1
def uptoBulkAll {H : Type} : List (DataW H) → Nat
  | [] => 0
  | d :: r => uptoBulk d + uptoBulkAll r
def uptoBulkEntries {H : Type} : List (Lit × DataW H) → Nat
  | [] => 0
  | x :: r => uptoBulkEntry x + uptoBulkEntries r
def uptoBulkEntry {H : Type} : Lit × DataW H → Nat
  | (.string bytes, d) => bytes.length + uptoBulk d + 1
  | (_, d) => uptoBulk d + 1
 end
def uptoSmall : (H : Type) → List (DataW H) → Bool := fun _ ds => decide (uptoBulkAll ds ≤ 1048576)
def OpenSpec.upto (s : _root_.Go.ChangeSpec) : _root_.Go.OpenSpec := { _root_.Go.OpenSpec.ofChange s with cond := some uptoSmall }

/-- 'raddlelaw37.PieceMeasures', WHERE WHAT IT READS IS OF BULK AT MOST 1048576: true; the input reads as it did. -/
def pieceMeasuresUptoRow : OpenClaim := { program := "ytmedbnjhgkcndaa", sum := "b2a4b343246952002ea296c0596821479e74d9fcce5fc8aacdc286b9ec17cf22", func := "raddle/raddlelaw37.PieceMeasures", spec := "pieceMeasures", apart := false, narrowed := true }
def PieceMeasuresUptoSaid : Prop := pieceMeasuresUptoRow.holds Try.pinned (OpenSpec.upto pieceMeasuresSpec)

/-- 'raddlelaw37.PieceMakes', WHERE WHAT IT READS IS OF BULK AT MOST 1048576: true; the input reads as it did. -/
def pieceMakesUptoRow : OpenClaim := { program := "ytmedbnjhgkcndaa", sum := "b2a4b343246952002ea296c0596821479e74d9fcce5fc8aacdc286b9ec17cf22", func := "raddle/raddlelaw37.PieceMakes", spec := "pieceMakes", unfollowed := true, recurses := true, apart := false, narrowed := true }
def PieceMakesUptoSaid : Prop := pieceMakesUptoRow.holds Try.pinned (OpenSpec.upto pieceMakesSpec)

/-- 'raddlelaw37.PieceCharts', WHERE WHAT IT READS IS OF BULK AT MOST 1048576: true; the input reads as it did. -/
def pieceChartsUptoRow : OpenClaim := { program := "ytmedbnjhgkcndaa", sum := "b2a4b343246952002ea296c0596821479e74d9fcce5fc8aacdc286b9ec17cf22", func := "raddle/raddlelaw37.PieceCharts", spec := "pieceCharts", unfollowed := true, recurses := true, apart := false, narrowed := true }
def PieceChartsUptoSaid : Prop := pieceChartsUptoRow.holds Try.pinned (OpenSpec.upto pieceChartsSpec)

end Rows
end Go.Proofs.Ytmedbnjhgkcndaa
