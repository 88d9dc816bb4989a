/-
  No cell of these rows narrows 'for every input' (looked for: loops, veiled, ifaces, maps, wideKeys, modest, calm, conditions, laid).
  DERIVED. THE GIVEN ROWS OF THIS SEAT. 6 by the template 'for every input the law returns true; each argument reads behind the call as it read before'; 0 by the template 'total and deterministic' (their statements: YtapohhkdpkapoaaTotals.lean).
  GIVEN WITH THE SEED: the statements are not yours to turn. If you find one false, say at which input.
  Laid BY PROGRAM, IN A SANDBOX (cutbox-rows.mjs): the forced cells as the released guide's own fill.sh prints them over the translation 63b705e3dcb3a03c… (all of the seat's roots in one cut). By AI agents, Wed Nov 11 2026. No macro, syntax, notation, axiom, sorry.
-/
import Derived.Test.YtapohhkdpkapoaaChecked
import GoSem.Claim
import GoSem.ClaimJoined
import GoSem.ClaimMapViews
import Derived.JoinedTies
import Derived.KernelRfl
namespace Go.Proofs.Ytapohhkdpkapoaa
/- THE CELL 'sum', in the pinned program and in every row, IS THE sha256 OF THE DUMP (.gsa) THAT YtapohhkdpkapoaaProg.lean LOADS. Nothing in Lean hashes anything: it is a label: what it is worth is what the hold of that sum in a sandbox is worth. -/
noncomputable def Try.pinned : Pinned := { name := "ytapohhkdpkapoaa", sum := "63b705e3dcb3a03ce7a5d79564f36f9314f9b8becb5bc5b21c48032ff8eefa13", checked := Try.checked }
namespace Rows
def none {H : Type} : Left H := { results := [], args := [] }

/-- 'raddlelaw17.ReduceChanges': WHATEVER THE INPUT: true; the input reads as it did. -/
def reduceChangesSpec : ChangeSpec := { name := "reduceChanges", fn := fun _ => fun
  | [d1, d2, d3] => { results := [.lit (.bool true)], args := [d1, d2, d3] }
  | _ => none }
def reduceChangesRow : OpenClaim := { program := "ytapohhkdpkapoaa", sum := "63b705e3dcb3a03ce7a5d79564f36f9314f9b8becb5bc5b21c48032ff8eefa13", func := "raddle/raddlelaw17.ReduceChanges", spec := "reduceChanges", apart := false }
def ReduceChangesSaid : Prop := reduceChangesRow.holds Try.pinned (OpenSpec.ofChange reduceChangesSpec)

/-- ITS FALSE NEIGHBOUR: 'it returns false'. Refute it at one input. -/
def reduceChangesWrong : ChangeSpec := { name := "reduceChanges", fn := fun _ => fun
  | [d1, d2, d3] => { results := [.lit (.bool false)], args := [d1, d2, d3] }
  | _ => none }
def ReduceChangesWrongFalsely : Prop := reduceChangesRow.holds Try.pinned (OpenSpec.ofChange reduceChangesWrong)

/-- 'raddlelaw17.ReduceGroups': WHATEVER THE INPUT: true; the input reads as it did. -/
def reduceGroupsSpec : ChangeSpec := { name := "reduceGroups", fn := fun _ => fun
  | [d1, d2, d3] => { results := [.lit (.bool true)], args := [d1, d2, d3] }
  | _ => none }
def reduceGroupsRow : OpenClaim := { program := "ytapohhkdpkapoaa", sum := "63b705e3dcb3a03ce7a5d79564f36f9314f9b8becb5bc5b21c48032ff8eefa13", func := "raddle/raddlelaw17.ReduceGroups", spec := "reduceGroups", recurses := true, apart := false }
def ReduceGroupsSaid : Prop := reduceGroupsRow.holds Try.pinned (OpenSpec.ofChange reduceGroupsSpec)

/-- ITS FALSE NEIGHBOUR: 'it returns false'. Refute it at one input. -/
def reduceGroupsWrong : ChangeSpec := { name := "reduceGroups", fn := fun _ => fun
  | [d1, d2, d3] => { results := [.lit (.bool false)], args := [d1, d2, d3] }
  | _ => none }
def ReduceGroupsWrongFalsely : Prop := reduceGroupsRow.holds Try.pinned (OpenSpec.ofChange reduceGroupsWrong)

/-- 'raddlelaw17.ReduceSearches': WHATEVER THE INPUT: true; the input reads as it did. -/
def reduceSearchesSpec : ChangeSpec := { name := "reduceSearches", fn := fun _ => fun
  | [d1, d2] => { results := [.lit (.bool true)], args := [d1, d2] }
  | _ => none }
def reduceSearchesRow : OpenClaim := { program := "ytapohhkdpkapoaa", sum := "63b705e3dcb3a03ce7a5d79564f36f9314f9b8becb5bc5b21c48032ff8eefa13", func := "raddle/raddlelaw17.ReduceSearches", spec := "reduceSearches", recurses := true, apart := false }
def ReduceSearchesSaid : Prop := reduceSearchesRow.holds Try.pinned (OpenSpec.ofChange reduceSearchesSpec)

/-- ITS FALSE NEIGHBOUR: 'it returns false'. Refute it at one input. -/
def reduceSearchesWrong : ChangeSpec := { name := "reduceSearches", fn := fun _ => fun
  | [d1, d2] => { results := [.lit (.bool false)], args := [d1, d2] }
  | _ => none }
def ReduceSearchesWrongFalsely : Prop := reduceSearchesRow.holds Try.pinned (OpenSpec.ofChange reduceSearchesWrong)

/-- 'raddlelaw17.ReduceLeast': WHATEVER THE INPUT: true; the input reads as it did. -/
def reduceLeastSpec : ChangeSpec := { name := "reduceLeast", fn := fun _ => fun
  | [d1, d2, d3] => { results := [.lit (.bool true)], args := [d1, d2, d3] }
  | _ => none }
def reduceLeastRow : OpenClaim := { program := "ytapohhkdpkapoaa", sum := "63b705e3dcb3a03ce7a5d79564f36f9314f9b8becb5bc5b21c48032ff8eefa13", func := "raddle/raddlelaw17.ReduceLeast", spec := "reduceLeast", recurses := true, apart := false }
def ReduceLeastSaid : Prop := reduceLeastRow.holds Try.pinned (OpenSpec.ofChange reduceLeastSpec)

/-- ITS FALSE NEIGHBOUR: 'it returns false'. Refute it at one input. -/
def reduceLeastWrong : ChangeSpec := { name := "reduceLeast", fn := fun _ => fun
  | [d1, d2, d3] => { results := [.lit (.bool false)], args := [d1, d2, d3] }
  | _ => none }
def ReduceLeastWrongFalsely : Prop := reduceLeastRow.holds Try.pinned (OpenSpec.ofChange reduceLeastWrong)

/-- 'raddlelaw17.ReduceCosts': WHATEVER THE INPUT: true; the input reads as it did. -/
def reduceCostsSpec : ChangeSpec := { name := "reduceCosts", fn := fun _ => fun
  | [d] => { results := [.lit (.bool true)], args := [d] }
  | _ => none }
def reduceCostsRow : OpenClaim := { program := "ytapohhkdpkapoaa", sum := "63b705e3dcb3a03ce7a5d79564f36f9314f9b8becb5bc5b21c48032ff8eefa13", func := "raddle/raddlelaw17.ReduceCosts", spec := "reduceCosts", unfollowed := true, recurses := true, apart := false }
def ReduceCostsSaid : Prop := reduceCostsRow.holds Try.pinned (OpenSpec.ofChange reduceCostsSpec)

/-- ITS FALSE NEIGHBOUR: 'it returns false'. Refute it at one input. -/
def reduceCostsWrong : ChangeSpec := { name := "reduceCosts", fn := fun _ => fun
  | [d] => { results := [.lit (.bool false)], args := [d] }
  | _ => none }
def ReduceCostsWrongFalsely : Prop := reduceCostsRow.holds Try.pinned (OpenSpec.ofChange reduceCostsWrong)

/-- 'raddlelaw17.ReduceNames': WHATEVER THE INPUT: true; the input reads as it did. -/
def reduceNamesSpec : ChangeSpec := { name := "reduceNames", fn := fun _ => fun
  | [] => { results := [.lit (.bool true)], args := [] }
  | _ => none }
def reduceNamesRow : OpenClaim := { program := "ytapohhkdpkapoaa", sum := "63b705e3dcb3a03ce7a5d79564f36f9314f9b8becb5bc5b21c48032ff8eefa13", func := "raddle/raddlelaw17.ReduceNames", spec := "reduceNames", recurses := true, apart := false }
def ReduceNamesSaid : Prop := reduceNamesRow.holds Try.pinned (OpenSpec.ofChange reduceNamesSpec)

/-- ITS FALSE NEIGHBOUR: 'it returns false'. Refute it at one input. -/
def reduceNamesWrong : ChangeSpec := { name := "reduceNames", fn := fun _ => fun
  | [] => { results := [.lit (.bool false)], args := [] }
  | _ => none }
def ReduceNamesWrongFalsely : Prop := reduceNamesRow.holds Try.pinned (OpenSpec.ofChange reduceNamesWrong)

/- THE SECOND FORM. 'bulk': how many values and letters a reading holds, each counted each time it is reached (what is shared counts as often as it is met; a slice's spare places count too). A statement '..UptoSaid' is the law's where the arguments, and the package variables that the reading takes, are together of bulk at most 1048576: NARROWER than '..Said'. Prove '..Said' where nothing that the law and all that it calls make is longer than what came in: it says more and counts as full. Else prove '..UptoSaid'. A law counts once. -/
mutual
def uptoBulk {H : Type} : DataW H → Nat
  | .lit (.string bytes) => bytes.length + 1
  | .lit _ => 1
  | .nil => 1
  | .ptr d => uptoBulk d + 1
  | .slice elems spare => uptoBulkAll elems + uptoBulkAll spare + 1
  | .agg parts => uptoBulkAll parts + 1
  | .iface _ d => uptoBulk d + 1
  | .map entries => uptoBulkEntries entries + 1
  | .held _ => 1
def uptoBulkAll {H : Type} : List (DataW H) → Nat
  | [] => 0
  | d :: r => uptoBulk d + uptoBulkAll r
def uptoBulkEntries {H : Type} : List (Lit × DataW H) → Nat
  | [] => 0
  | x :: r => uptoBulkEntry x + uptoBulkEntries r
def uptoBulkEntry {H : Type} : Lit × DataW H → Nat
  | (.string bytes, d) => bytes.length + uptoBulk d + 1
  | (_, d) => uptoBulk d + 1
 end
def uptoSmall : (H : Type) → List (DataW H) → Bool := fun _ ds => decide (uptoBulkAll ds ≤ 1048576)
def OpenSpec.upto (s : _root_.Go.ChangeSpec) : _root_.Go.OpenSpec := { _root_.Go.OpenSpec.ofChange s with cond := some uptoSmall }

/-- 'raddlelaw17.ReduceChanges', WHERE WHAT IT READS IS OF BULK AT MOST 1048576: true; the input reads as it did. -/
def reduceChangesUptoRow : OpenClaim := { program := "ytapohhkdpkapoaa", sum := "63b705e3dcb3a03ce7a5d79564f36f9314f9b8becb5bc5b21c48032ff8eefa13", func := "raddle/raddlelaw17.ReduceChanges", spec := "reduceChanges", apart := false, narrowed := true }
def ReduceChangesUptoSaid : Prop := reduceChangesUptoRow.holds Try.pinned (OpenSpec.upto reduceChangesSpec)

/-- 'raddlelaw17.ReduceGroups', WHERE WHAT IT READS IS OF BULK AT MOST 1048576: true; the input reads as it did. -/
def reduceGroupsUptoRow : OpenClaim := { program := "ytapohhkdpkapoaa", sum := "63b705e3dcb3a03ce7a5d79564f36f9314f9b8becb5bc5b21c48032ff8eefa13", func := "raddle/raddlelaw17.ReduceGroups", spec := "reduceGroups", recurses := true, apart := false, narrowed := true }
def ReduceGroupsUptoSaid : Prop := reduceGroupsUptoRow.holds Try.pinned (OpenSpec.upto reduceGroupsSpec)

/-- 'raddlelaw17.ReduceSearches', WHERE WHAT IT READS IS OF BULK AT MOST 1048576: true; the input reads as it did. -/
def reduceSearchesUptoRow : OpenClaim := { program := "ytapohhkdpkapoaa", sum := "63b705e3dcb3a03ce7a5d79564f36f9314f9b8becb5bc5b21c48032ff8eefa13", func := "raddle/raddlelaw17.ReduceSearches", spec := "reduceSearches", recurses := true, apart := false, narrowed := true }
def ReduceSearchesUptoSaid : Prop := reduceSearchesUptoRow.holds Try.pinned (OpenSpec.upto reduceSearchesSpec)

/-- 'raddlelaw17.ReduceLeast', WHERE WHAT IT READS IS OF BULK AT MOST 1048576: true; the input reads as it did. -/
def reduceLeastUptoRow : OpenClaim := { program := "ytapohhkdpkapoaa", sum := "63b705e3dcb3a03ce7a5d79564f36f9314f9b8becb5bc5b21c48032ff8eefa13", func := "raddle/raddlelaw17.ReduceLeast", spec := "reduceLeast", recurses := true, apart := false, narrowed := true }
def ReduceLeastUptoSaid : Prop := reduceLeastUptoRow.holds Try.pinned (OpenSpec.upto reduceLeastSpec)

/-- 'raddlelaw17.ReduceCosts', WHERE WHAT IT READS IS OF BULK AT MOST 1048576: true; the input reads as it did. -/
def reduceCostsUptoRow : OpenClaim := { program := "ytapohhkdpkapoaa", sum := "63b705e3dcb3a03ce7a5d79564f36f9314f9b8becb5bc5b21c48032ff8eefa13", func := "raddle/raddlelaw17.ReduceCosts", spec := "reduceCosts", unfollowed := true, recurses := true, apart := false, narrowed := true }
def ReduceCostsUptoSaid : Prop := reduceCostsUptoRow.holds Try.pinned (OpenSpec.upto reduceCostsSpec)

/-- 'raddlelaw17.ReduceNames', WHERE WHAT IT READS IS OF BULK AT MOST 1048576: true; the input reads as it did. -/
def reduceNamesUptoRow : OpenClaim := { program := "ytapohhkdpkapoaa", sum := "63b705e3dcb3a03ce7a5d79564f36f9314f9b8becb5bc5b21c48032ff8eefa13", func := "raddle/raddlelaw17.ReduceNames", spec := "reduceNames", recurses := true, apart := false, narrowed := true }
def ReduceNamesUptoSaid : Prop := reduceNamesUptoRow.holds Try.pinned (OpenSpec.upto reduceNamesSpec)

end Rows
end Go.Proofs.Ytapohhkdpkapoaa
