/-
  DERIVED. GIVEN WITH THE SEED: THE CARDS: each row of YtdfjcpnflmgdoaaDoorRows.lean that lists a variable, with what it lists TIED to the program's text (the seventh form; the later family's looks); each row that meets fmt, with fmt's text TOLD by the authors' own Lean function (tested against real Go, not proved from fmt's source: count such statements apart). THE CARD IS WHAT COUNTS. Prove the row's statement (the work); the ties are given (YtdfjcpnflmgdoaaDoorTie.lean); close each card by the builder's one call (the guide's Derived/Test/ToyasCard.lean, 'card_holds'). Laid BY PROGRAM, IN A SANDBOX (cutbox-door.mjs). By AI agents, Wed Nov 11 2026. No macro, syntax, notation, axiom, sorry.
-/
import Derived.Test.YtdfjcpnflmgdoaaDoorRows
import GoSem.ClaimSeven
namespace Go.Proofs.YtdfjcpnflmgdoaaDoor
namespace Rows

/-- THE TIED CARD OF 'raddlelaw23.YarnTexts'. -/
def yarnTextsCard : Claim7 := { stood := { row := yarnTextsRow, standIns := [], harness := (true, "ebbae7013ad4c2bd0d21abe59b7bf5063ac423382a1234d151175f26ca12a032"), looks := false }, kinds := [], alts := [], laidByText := true, laidKinds := [.data, .data, .data], laidTests := true, laidLooks := .later }
def YarnTextsCardSaid : Prop := Claim7.holds Tryd.pinned (.plain (OpenSpec.ofChange yarnTextsSpec)) yarnTextsCard

/-- THE SECOND FORM's CARD OF 'raddlelaw23.YarnTexts'. -/
def yarnTextsUptoCard : Claim7 := { stood := { row := yarnTextsUptoRow, standIns := [], harness := (true, "ebbae7013ad4c2bd0d21abe59b7bf5063ac423382a1234d151175f26ca12a032"), looks := false }, kinds := [], alts := [], laidByText := true, laidKinds := [.data, .data, .data], laidTests := true, laidLooks := .later }
def YarnTextsUptoCardSaid : Prop := Claim7.holds Tryd.pinned (.plain (OpenSpec.upto yarnTextsSpec)) yarnTextsUptoCard
end Rows
end Go.Proofs.YtdfjcpnflmgdoaaDoor
