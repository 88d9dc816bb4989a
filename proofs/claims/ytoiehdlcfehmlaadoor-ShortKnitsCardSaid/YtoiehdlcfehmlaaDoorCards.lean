/-
  DERIVED. GIVEN WITH THE SEED: THE CARDS: each row of YtoiehdlcfehmlaaDoorRows.lean that lists a variable, with what it lists TIED to the program's text (the seventh form; the later family's looks); each row that meets fmt, with fmt's text TOLD by the authors' own Lean function (tested against real Go, not proved from fmt's source: count such statements apart). THE CARD IS WHAT COUNTS. Prove the row's statement (the work); the ties are given (YtoiehdlcfehmlaaDoorTie.lean); close each card by the builder's one call (the guide's Derived/Test/ToyasCard.lean, 'card_holds'). Laid BY PROGRAM, IN A SANDBOX (cutbox-door.mjs). By AI agents, Wed Nov 11 2026. No macro, syntax, notation, axiom, sorry.
-/
import Derived.Test.YtoiehdlcfehmlaaDoorRows
import GoSem.ClaimSeven
namespace Go.Proofs.YtoiehdlcfehmlaaDoor
namespace Rows

/-- THE TIED CARD OF 'raddlelaw38.ShortNames'. -/
def shortNamesCard : Claim7 := { stood := { row := shortNamesRow, standIns := [], harness := (true, "dd224f09b7bd2d708e49c9d1e39fbd7694ddda389d105d38d20db584f451cd0f"), looks := false }, kinds := [], alts := [], laidByText := true, laidKinds := [.data, .data, .data], laidTests := true, laidLooks := .later }
def ShortNamesCardSaid : Prop := Claim7.holds Tryd.pinned (.plain (OpenSpec.ofChange shortNamesSpec)) shortNamesCard

/-- THE TIED CARD OF 'raddlelaw38.ShortNear'. -/
def shortNearCard : Claim7 := { stood := { row := shortNearRow, standIns := [], harness := (true, "dd224f09b7bd2d708e49c9d1e39fbd7694ddda389d105d38d20db584f451cd0f"), looks := false }, kinds := [], alts := [], laidByText := true, laidKinds := [.data, .data, .data], laidTests := true, laidLooks := .later }
def ShortNearCardSaid : Prop := Claim7.holds Tryd.pinned (.plain (OpenSpec.ofChange shortNearSpec)) shortNearCard

/-- THE TIED CARD OF 'raddlelaw38.ShortFits'. -/
def shortFitsCard : Claim7 := { stood := { row := shortFitsRow, standIns := [], harness := (true, "dd224f09b7bd2d708e49c9d1e39fbd7694ddda389d105d38d20db584f451cd0f"), looks := false }, kinds := [], alts := [], laidByText := true, laidKinds := [.data, .data, .data], laidTests := true, laidLooks := .later }
def ShortFitsCardSaid : Prop := Claim7.holds Tryd.pinned (.plain (OpenSpec.ofChange shortFitsSpec)) shortFitsCard

/-- THE TIED CARD OF 'raddlelaw38.ShortSums'. -/
def shortSumsCard : Claim7 := { stood := { row := shortSumsRow, standIns := [], harness := (true, "dd224f09b7bd2d708e49c9d1e39fbd7694ddda389d105d38d20db584f451cd0f"), looks := false }, kinds := [], alts := [], laidByText := true, laidKinds := [.data, .data, .data], laidTests := true, laidLooks := .later }
def ShortSumsCardSaid : Prop := Claim7.holds Tryd.pinned (.plain (OpenSpec.ofChange shortSumsSpec)) shortSumsCard

/-- THE TIED CARD OF 'raddlelaw38.ShortKnits'. -/
def shortKnitsCard : Claim7 := { stood := { row := shortKnitsRow, standIns := [], harness := (true, "dd224f09b7bd2d708e49c9d1e39fbd7694ddda389d105d38d20db584f451cd0f"), looks := false }, kinds := [], alts := [], laidByText := true, laidKinds := [.data, .data, .data], laidTests := true, laidLooks := .later }
def ShortKnitsCardSaid : Prop := Claim7.holds Tryd.pinned (.plain (OpenSpec.ofChange shortKnitsSpec)) shortKnitsCard

/-- THE SECOND FORM's CARD OF 'raddlelaw38.ShortNames'. -/
def shortNamesUptoCard : Claim7 := { stood := { row := shortNamesUptoRow, standIns := [], harness := (true, "dd224f09b7bd2d708e49c9d1e39fbd7694ddda389d105d38d20db584f451cd0f"), looks := false }, kinds := [], alts := [], laidByText := true, laidKinds := [.data, .data, .data], laidTests := true, laidLooks := .later }
def ShortNamesUptoCardSaid : Prop := Claim7.holds Tryd.pinned (.plain (OpenSpec.upto shortNamesSpec)) shortNamesUptoCard

/-- THE SECOND FORM's CARD OF 'raddlelaw38.ShortNear'. -/
def shortNearUptoCard : Claim7 := { stood := { row := shortNearUptoRow, standIns := [], harness := (true, "dd224f09b7bd2d708e49c9d1e39fbd7694ddda389d105d38d20db584f451cd0f"), looks := false }, kinds := [], alts := [], laidByText := true, laidKinds := [.data, .data, .data], laidTests := true, laidLooks := .later }
def ShortNearUptoCardSaid : Prop := Claim7.holds Tryd.pinned (.plain (OpenSpec.upto shortNearSpec)) shortNearUptoCard

/-- THE SECOND FORM's CARD OF 'raddlelaw38.ShortFits'. -/
def shortFitsUptoCard : Claim7 := { stood := { row := shortFitsUptoRow, standIns := [], harness := (true, "dd224f09b7bd2d708e49c9d1e39fbd7694ddda389d105d38d20db584f451cd0f"), looks := false }, kinds := [], alts := [], laidByText := true, laidKinds := [.data, .data, .data], laidTests := true, laidLooks := .later }
def ShortFitsUptoCardSaid : Prop := Claim7.holds Tryd.pinned (.plain (OpenSpec.upto shortFitsSpec)) shortFitsUptoCard

/-- THE SECOND FORM's CARD OF 'raddlelaw38.ShortSums'. -/
def shortSumsUptoCard : Claim7 := { stood := { row := shortSumsUptoRow, standIns := [], harness := (true, "dd224f09b7bd2d708e49c9d1e39fbd7694ddda389d105d38d20db584f451cd0f"), looks := false }, kinds := [], alts := [], laidByText := true, laidKinds := [.data, .data, .data], laidTests := true, laidLooks := .later }
def ShortSumsUptoCardSaid : Prop := Claim7.holds Tryd.pinned (.plain (OpenSpec.upto shortSumsSpec)) shortSumsUptoCard

/-- THE SECOND FORM's CARD OF 'raddlelaw38.ShortKnits'. -/
def shortKnitsUptoCard : Claim7 := { stood := { row := shortKnitsUptoRow, standIns := [], harness := (true, "dd224f09b7bd2d708e49c9d1e39fbd7694ddda389d105d38d20db584f451cd0f"), looks := false }, kinds := [], alts := [], laidByText := true, laidKinds := [.data, .data, .data], laidTests := true, laidLooks := .later }
def ShortKnitsUptoCardSaid : Prop := Claim7.holds Tryd.pinned (.plain (OpenSpec.upto shortKnitsSpec)) shortKnitsUptoCard
end Rows
end Go.Proofs.YtoiehdlcfehmlaaDoor
