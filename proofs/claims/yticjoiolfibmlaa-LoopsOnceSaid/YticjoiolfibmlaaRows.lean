/-
  No cell of these rows narrows 'for every input' (looked for: loops, veiled, ifaces, maps, wideKeys, modest, calm, conditions, laid).
  DERIVED. THE GIVEN ROWS OF THIS SEAT. 7 by the template 'for every input the law returns true; each argument reads behind the call as it read before'; 0 by the template 'total and deterministic' (their statements: YticjoiolfibmlaaTotals.lean).
  GIVEN WITH THE SEED: the statements are not yours to turn. If you find one false, say at which input.
  Laid BY PROGRAM, IN A SANDBOX (cutbox-rows.mjs): the forced cells as the released guide's own fill.sh prints them over the translation 6110693777689a33… (all of the seat's roots in one cut). By AI agents, Wed Nov 11 2026. No macro, syntax, notation, axiom, sorry.
-/
import Derived.Test.YticjoiolfibmlaaChecked
import GoSem.Claim
import GoSem.ClaimJoined
import GoSem.ClaimMapViews
import Derived.JoinedTies
import Derived.KernelRfl
namespace Go.Proofs.Yticjoiolfibmlaa
/- THE CELL 'sum', in the pinned program and in every row, IS THE sha256 OF THE DUMP (.gsa) THAT YticjoiolfibmlaaProg.lean LOADS. Nothing in Lean hashes anything: it is a label: what it is worth is what the hold of that sum in a sandbox is worth. -/
noncomputable def Try.pinned : Pinned := { name := "yticjoiolfibmlaa", sum := "6110693777689a332633c297c32435a9c763257a03e37fcf3ac80b39372f2c40", checked := Try.checked }
namespace Rows
def none {H : Type} : Left H := { results := [], args := [] }

/-- 'raddlelaw27.LoopsMake': WHATEVER THE INPUT: true; the input reads as it did. -/
def loopsMakeSpec : ChangeSpec := { name := "loopsMake", fn := fun _ => fun
  | [d] => { results := [.lit (.bool true)], args := [d] }
  | _ => none }
def loopsMakeRow : OpenClaim := { program := "yticjoiolfibmlaa", sum := "6110693777689a332633c297c32435a9c763257a03e37fcf3ac80b39372f2c40", func := "raddle/raddlelaw27.LoopsMake", spec := "loopsMake", unfollowed := true, recurses := true, apart := false }
def LoopsMakeSaid : Prop := loopsMakeRow.holds Try.pinned (OpenSpec.ofChange loopsMakeSpec)

/-- ITS FALSE NEIGHBOUR: 'it returns false'. Refute it at one input. -/
def loopsMakeWrong : ChangeSpec := { name := "loopsMake", fn := fun _ => fun
  | [d] => { results := [.lit (.bool false)], args := [d] }
  | _ => none }
def LoopsMakeWrongFalsely : Prop := loopsMakeRow.holds Try.pinned (OpenSpec.ofChange loopsMakeWrong)

/-- 'raddlelaw27.LoopsCross': WHATEVER THE INPUT: true; the input reads as it did. -/
def loopsCrossSpec : ChangeSpec := { name := "loopsCross", fn := fun _ => fun
  | [d] => { results := [.lit (.bool true)], args := [d] }
  | _ => none }
def loopsCrossRow : OpenClaim := { program := "yticjoiolfibmlaa", sum := "6110693777689a332633c297c32435a9c763257a03e37fcf3ac80b39372f2c40", func := "raddle/raddlelaw27.LoopsCross", spec := "loopsCross", unfollowed := true, recurses := true, apart := false }
def LoopsCrossSaid : Prop := loopsCrossRow.holds Try.pinned (OpenSpec.ofChange loopsCrossSpec)

/-- ITS FALSE NEIGHBOUR: 'it returns false'. Refute it at one input. -/
def loopsCrossWrong : ChangeSpec := { name := "loopsCross", fn := fun _ => fun
  | [d] => { results := [.lit (.bool false)], args := [d] }
  | _ => none }
def LoopsCrossWrongFalsely : Prop := loopsCrossRow.holds Try.pinned (OpenSpec.ofChange loopsCrossWrong)

/-- 'raddlelaw27.LoopsAsk': WHATEVER THE INPUT: true; the input reads as it did. -/
def loopsAskSpec : ChangeSpec := { name := "loopsAsk", fn := fun _ => fun
  | [d1, d2, d3] => { results := [.lit (.bool true)], args := [d1, d2, d3] }
  | _ => none }
def loopsAskRow : OpenClaim := { program := "yticjoiolfibmlaa", sum := "6110693777689a332633c297c32435a9c763257a03e37fcf3ac80b39372f2c40", func := "raddle/raddlelaw27.LoopsAsk", spec := "loopsAsk", unfollowed := true, recurses := true, apart := false }
def LoopsAskSaid : Prop := loopsAskRow.holds Try.pinned (OpenSpec.ofChange loopsAskSpec)

/-- ITS FALSE NEIGHBOUR: 'it returns false'. Refute it at one input. -/
def loopsAskWrong : ChangeSpec := { name := "loopsAsk", fn := fun _ => fun
  | [d1, d2, d3] => { results := [.lit (.bool false)], args := [d1, d2, d3] }
  | _ => none }
def LoopsAskWrongFalsely : Prop := loopsAskRow.holds Try.pinned (OpenSpec.ofChange loopsAskWrong)

/-- 'raddlelaw27.LoopsFlips': WHATEVER THE INPUT: true; the input reads as it did. -/
def loopsFlipsSpec : ChangeSpec := { name := "loopsFlips", fn := fun _ => fun
  | [d] => { results := [.lit (.bool true)], args := [d] }
  | _ => none }
def loopsFlipsRow : OpenClaim := { program := "yticjoiolfibmlaa", sum := "6110693777689a332633c297c32435a9c763257a03e37fcf3ac80b39372f2c40", func := "raddle/raddlelaw27.LoopsFlips", spec := "loopsFlips", unfollowed := true, recurses := true, apart := false }
def LoopsFlipsSaid : Prop := loopsFlipsRow.holds Try.pinned (OpenSpec.ofChange loopsFlipsSpec)

/-- ITS FALSE NEIGHBOUR: 'it returns false'. Refute it at one input. -/
def loopsFlipsWrong : ChangeSpec := { name := "loopsFlips", fn := fun _ => fun
  | [d] => { results := [.lit (.bool false)], args := [d] }
  | _ => none }
def LoopsFlipsWrongFalsely : Prop := loopsFlipsRow.holds Try.pinned (OpenSpec.ofChange loopsFlipsWrong)

/-- 'raddlelaw27.LoopsParts': WHATEVER THE INPUT: true; the input reads as it did. -/
def loopsPartsSpec : ChangeSpec := { name := "loopsParts", fn := fun _ => fun
  | [d1, d2] => { results := [.lit (.bool true)], args := [d1, d2] }
  | _ => none }
def loopsPartsRow : OpenClaim := { program := "yticjoiolfibmlaa", sum := "6110693777689a332633c297c32435a9c763257a03e37fcf3ac80b39372f2c40", func := "raddle/raddlelaw27.LoopsParts", spec := "loopsParts", unfollowed := true, recurses := true, apart := false }
def LoopsPartsSaid : Prop := loopsPartsRow.holds Try.pinned (OpenSpec.ofChange loopsPartsSpec)

/-- ITS FALSE NEIGHBOUR: 'it returns false'. Refute it at one input. -/
def loopsPartsWrong : ChangeSpec := { name := "loopsParts", fn := fun _ => fun
  | [d1, d2] => { results := [.lit (.bool false)], args := [d1, d2] }
  | _ => none }
def LoopsPartsWrongFalsely : Prop := loopsPartsRow.holds Try.pinned (OpenSpec.ofChange loopsPartsWrong)

/-- 'raddlelaw27.LoopsNames': WHATEVER THE INPUT: true; the input reads as it did. -/
def loopsNamesSpec : ChangeSpec := { name := "loopsNames", fn := fun _ => fun
  | [] => { results := [.lit (.bool true)], args := [] }
  | _ => none }
def loopsNamesRow : OpenClaim := { program := "yticjoiolfibmlaa", sum := "6110693777689a332633c297c32435a9c763257a03e37fcf3ac80b39372f2c40", func := "raddle/raddlelaw27.LoopsNames", spec := "loopsNames", unfollowed := true, recurses := true, apart := false }
def LoopsNamesSaid : Prop := loopsNamesRow.holds Try.pinned (OpenSpec.ofChange loopsNamesSpec)

/-- ITS FALSE NEIGHBOUR: 'it returns false'. Refute it at one input. -/
def loopsNamesWrong : ChangeSpec := { name := "loopsNames", fn := fun _ => fun
  | [] => { results := [.lit (.bool false)], args := [] }
  | _ => none }
def LoopsNamesWrongFalsely : Prop := loopsNamesRow.holds Try.pinned (OpenSpec.ofChange loopsNamesWrong)

/-- 'raddlelaw27.LoopsOnce': WHATEVER THE INPUT: true; the input reads as it did. -/
def loopsOnceSpec : ChangeSpec := { name := "loopsOnce", fn := fun _ => fun
  | [d] => { results := [.lit (.bool true)], args := [d] }
  | _ => none }
def loopsOnceRow : OpenClaim := { program := "yticjoiolfibmlaa", sum := "6110693777689a332633c297c32435a9c763257a03e37fcf3ac80b39372f2c40", func := "raddle/raddlelaw27.LoopsOnce", spec := "loopsOnce", unfollowed := true, recurses := true, apart := false }
def LoopsOnceSaid : Prop := loopsOnceRow.holds Try.pinned (OpenSpec.ofChange loopsOnceSpec)

/-- ITS FALSE NEIGHBOUR: 'it returns false'. Refute it at one input. -/
def loopsOnceWrong : ChangeSpec := { name := "loopsOnce", fn := fun _ => fun
  | [d] => { results := [.lit (.bool false)], args := [d] }
  | _ => none }
def LoopsOnceWrongFalsely : Prop := loopsOnceRow.holds Try.pinned (OpenSpec.ofChange loopsOnceWrong)

/- THE SECOND FORM. 'bulk': how many values and letters a reading holds, each counted each time it is reached (what is shared counts as often as it is met; a slice's spare places count too). A statement '..UptoSaid' is the law's where the arguments, and the package variables that the reading takes, are together of bulk at most 1048576: NARROWER than '..Said'. Prove '..Said' where nothing that the law and all that it calls make is longer than what came in: it says more and counts as full. Else prove '..UptoSaid'. A law counts once. -/
mutual
def uptoBulk {H : Type} : DataW H → Nat
  | .lit (.string bytes) => bytes.length + 1
  | .lit _ => 1
  | .nil => 1
  | .ptr d => uptoBulk d + 1
  | .slice elems spare => uptoBulkAll elems + uptoBulkAll spare + 1
  | .agg parts => uptoBulkAll parts + 1
  | .iface _ d => uptoBulk d + 1
  | .map entries => uptoBulkEntries entries + 1
  | .held _ => 1
def uptoBulkAll {H : Type} : List (DataW H) → Nat
  | [] => 0
  | d :: r => uptoBulk d + uptoBulkAll r
def uptoBulkEntries {H : Type} : List (Lit × DataW H) → Nat
  | [] => 0
  | x :: r => uptoBulkEntry x + uptoBulkEntries r
def uptoBulkEntry {H : Type} : Lit × DataW H → Nat
  | (.string bytes, d) => bytes.length + uptoBulk d + 1
  | (_, d) => uptoBulk d + 1
 end
def uptoSmall : (H : Type) → List (DataW H) → Bool := fun _ ds => decide (uptoBulkAll ds ≤ 1048576)
def OpenSpec.upto (s : _root_.Go.ChangeSpec) : _root_.Go.OpenSpec := { _root_.Go.OpenSpec.ofChange s with cond := some uptoSmall }

/-- 'raddlelaw27.LoopsMake', WHERE WHAT IT READS IS OF BULK AT MOST 1048576: true; the input reads as it did. -/
def loopsMakeUptoRow : OpenClaim := { program := "yticjoiolfibmlaa", sum := "6110693777689a332633c297c32435a9c763257a03e37fcf3ac80b39372f2c40", func := "raddle/raddlelaw27.LoopsMake", spec := "loopsMake", unfollowed := true, recurses := true, apart := false, narrowed := true }
def LoopsMakeUptoSaid : Prop := loopsMakeUptoRow.holds Try.pinned (OpenSpec.upto loopsMakeSpec)

/-- 'raddlelaw27.LoopsCross', WHERE WHAT IT READS IS OF BULK AT MOST 1048576: true; the input reads as it did. -/
def loopsCrossUptoRow : OpenClaim := { program := "yticjoiolfibmlaa", sum := "6110693777689a332633c297c32435a9c763257a03e37fcf3ac80b39372f2c40", func := "raddle/raddlelaw27.LoopsCross", spec := "loopsCross", unfollowed := true, recurses := true, apart := false, narrowed := true }
def LoopsCrossUptoSaid : Prop := loopsCrossUptoRow.holds Try.pinned (OpenSpec.upto loopsCrossSpec)

/-- 'raddlelaw27.LoopsAsk', WHERE WHAT IT READS IS OF BULK AT MOST 1048576: true; the input reads as it did. -/
def loopsAskUptoRow : OpenClaim := { program := "yticjoiolfibmlaa", sum := "6110693777689a332633c297c32435a9c763257a03e37fcf3ac80b39372f2c40", func := "raddle/raddlelaw27.LoopsAsk", spec := "loopsAsk", unfollowed := true, recurses := true, apart := false, narrowed := true }
def LoopsAskUptoSaid : Prop := loopsAskUptoRow.holds Try.pinned (OpenSpec.upto loopsAskSpec)

/-- 'raddlelaw27.LoopsFlips', WHERE WHAT IT READS IS OF BULK AT MOST 1048576: true; the input reads as it did. -/
def loopsFlipsUptoRow : OpenClaim := { program := "yticjoiolfibmlaa", sum := "6110693777689a332633c297c32435a9c763257a03e37fcf3ac80b39372f2c40", func := "raddle/raddlelaw27.LoopsFlips", spec := "loopsFlips", unfollowed := true, recurses := true, apart := false, narrowed := true }
def LoopsFlipsUptoSaid : Prop := loopsFlipsUptoRow.holds Try.pinned (OpenSpec.upto loopsFlipsSpec)

/-- 'raddlelaw27.LoopsParts', WHERE WHAT IT READS IS OF BULK AT MOST 1048576: true; the input reads as it did. -/
def loopsPartsUptoRow : OpenClaim := { program := "yticjoiolfibmlaa", sum := "6110693777689a332633c297c32435a9c763257a03e37fcf3ac80b39372f2c40", func := "raddle/raddlelaw27.LoopsParts", spec := "loopsParts", unfollowed := true, recurses := true, apart := false, narrowed := true }
def LoopsPartsUptoSaid : Prop := loopsPartsUptoRow.holds Try.pinned (OpenSpec.upto loopsPartsSpec)

/-- 'raddlelaw27.LoopsNames', WHERE WHAT IT READS IS OF BULK AT MOST 1048576: true; the input reads as it did. -/
def loopsNamesUptoRow : OpenClaim := { program := "yticjoiolfibmlaa", sum := "6110693777689a332633c297c32435a9c763257a03e37fcf3ac80b39372f2c40", func := "raddle/raddlelaw27.LoopsNames", spec := "loopsNames", unfollowed := true, recurses := true, apart := false, narrowed := true }
def LoopsNamesUptoSaid : Prop := loopsNamesUptoRow.holds Try.pinned (OpenSpec.upto loopsNamesSpec)

/-- 'raddlelaw27.LoopsOnce', WHERE WHAT IT READS IS OF BULK AT MOST 1048576: true; the input reads as it did. -/
def loopsOnceUptoRow : OpenClaim := { program := "yticjoiolfibmlaa", sum := "6110693777689a332633c297c32435a9c763257a03e37fcf3ac80b39372f2c40", func := "raddle/raddlelaw27.LoopsOnce", spec := "loopsOnce", unfollowed := true, recurses := true, apart := false, narrowed := true }
def LoopsOnceUptoSaid : Prop := loopsOnceUptoRow.holds Try.pinned (OpenSpec.upto loopsOnceSpec)

end Rows
end Go.Proofs.Yticjoiolfibmlaa
