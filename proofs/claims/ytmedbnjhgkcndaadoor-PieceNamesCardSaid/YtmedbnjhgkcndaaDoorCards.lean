/-
  DERIVED. GIVEN WITH THE SEED: THE CARDS: each row of YtmedbnjhgkcndaaDoorRows.lean that lists a variable, with what it lists TIED to the program's text (the seventh form; the later family's looks); each row that meets fmt, with fmt's text TOLD by the authors' own Lean function (tested against real Go, not proved from fmt's source: count such statements apart). THE CARD IS WHAT COUNTS. Prove the row's statement (the work); the ties are given (YtmedbnjhgkcndaaDoorTie.lean); close each card by the builder's one call (the guide's Derived/Test/ToyasCard.lean, 'card_holds'). Laid BY PROGRAM, IN A SANDBOX (cutbox-door.mjs). By AI agents, Wed Nov 11 2026. No macro, syntax, notation, axiom, sorry.
-/
import Derived.Test.YtmedbnjhgkcndaaDoorRows
import GoSem.ClaimSeven
namespace Go.Proofs.YtmedbnjhgkcndaaDoor
namespace Rows

/-- THE TIED CARD OF 'raddlelaw37.PieceNear'. -/
def pieceNearCard : Claim7 := { stood := { row := pieceNearRow, standIns := [], harness := (true, "307e61196d3f4886c0049f613c394b681f3254770779ea132fb8ea05f59173ca"), looks := false }, kinds := [], alts := [], laidByText := true, laidKinds := [.data, .data, .data], laidTests := true, laidLooks := .later }
def PieceNearCardSaid : Prop := Claim7.holds Tryd.pinned (.plain (OpenSpec.ofChange pieceNearSpec)) pieceNearCard

/-- THE TIED CARD OF 'raddlelaw37.PieceBack'. -/
def pieceBackCard : Claim7 := { stood := { row := pieceBackRow, standIns := [], harness := (true, "307e61196d3f4886c0049f613c394b681f3254770779ea132fb8ea05f59173ca"), looks := false }, kinds := [], alts := [], laidByText := true, laidKinds := [.data, .data, .data], laidTests := true, laidLooks := .later }
def PieceBackCardSaid : Prop := Claim7.holds Tryd.pinned (.plain (OpenSpec.ofChange pieceBackSpec)) pieceBackCard

/-- THE TIED CARD OF 'raddlelaw37.PieceWidths'. -/
def pieceWidthsCard : Claim7 := { stood := { row := pieceWidthsRow, standIns := [], harness := (true, "307e61196d3f4886c0049f613c394b681f3254770779ea132fb8ea05f59173ca"), looks := false }, kinds := [], alts := [], laidByText := true, laidKinds := [.data, .data, .data], laidTests := true, laidLooks := .later }
def PieceWidthsCardSaid : Prop := Claim7.holds Tryd.pinned (.plain (OpenSpec.ofChange pieceWidthsSpec)) pieceWidthsCard

/-- THE TIED CARD OF 'raddlelaw37.PieceMirrors'. -/
def pieceMirrorsCard : Claim7 := { stood := { row := pieceMirrorsRow, standIns := [], harness := (true, "307e61196d3f4886c0049f613c394b681f3254770779ea132fb8ea05f59173ca"), looks := false }, kinds := [], alts := [], laidByText := true, laidKinds := [.data, .data, .data], laidTests := true, laidLooks := .later }
def PieceMirrorsCardSaid : Prop := Claim7.holds Tryd.pinned (.plain (OpenSpec.ofChange pieceMirrorsSpec)) pieceMirrorsCard

/-- THE TIED CARD OF 'raddlelaw37.PieceNames'. -/
def pieceNamesCard : Claim7 := { stood := { row := pieceNamesRow, standIns := [], harness := (true, "307e61196d3f4886c0049f613c394b681f3254770779ea132fb8ea05f59173ca"), looks := false }, kinds := [], alts := [], laidByText := true, laidKinds := [.data, .data, .data], laidTests := true, laidLooks := .later }
def PieceNamesCardSaid : Prop := Claim7.holds Tryd.pinned (.plain (OpenSpec.ofChange pieceNamesSpec)) pieceNamesCard

/-- THE TIED CARD OF 'raddlelaw37.PieceGauge'. -/
def pieceGaugeCard : Claim7 := { stood := { row := pieceGaugeRow, standIns := [], harness := (true, "307e61196d3f4886c0049f613c394b681f3254770779ea132fb8ea05f59173ca"), looks := false }, kinds := [], alts := [], laidByText := true, laidKinds := [.data, .data, .data], laidTests := true, laidLooks := .later }
def PieceGaugeCardSaid : Prop := Claim7.holds Tryd.pinned (.plain (OpenSpec.ofChange pieceGaugeSpec)) pieceGaugeCard

/-- THE SECOND FORM's CARD OF 'raddlelaw37.PieceNear'. -/
def pieceNearUptoCard : Claim7 := { stood := { row := pieceNearUptoRow, standIns := [], harness := (true, "307e61196d3f4886c0049f613c394b681f3254770779ea132fb8ea05f59173ca"), looks := false }, kinds := [], alts := [], laidByText := true, laidKinds := [.data, .data, .data], laidTests := true, laidLooks := .later }
def PieceNearUptoCardSaid : Prop := Claim7.holds Tryd.pinned (.plain (OpenSpec.upto pieceNearSpec)) pieceNearUptoCard

/-- THE SECOND FORM's CARD OF 'raddlelaw37.PieceBack'. -/
def pieceBackUptoCard : Claim7 := { stood := { row := pieceBackUptoRow, standIns := [], harness := (true, "307e61196d3f4886c0049f613c394b681f3254770779ea132fb8ea05f59173ca"), looks := false }, kinds := [], alts := [], laidByText := true, laidKinds := [.data, .data, .data], laidTests := true, laidLooks := .later }
def PieceBackUptoCardSaid : Prop := Claim7.holds Tryd.pinned (.plain (OpenSpec.upto pieceBackSpec)) pieceBackUptoCard

/-- THE SECOND FORM's CARD OF 'raddlelaw37.PieceWidths'. -/
def pieceWidthsUptoCard : Claim7 := { stood := { row := pieceWidthsUptoRow, standIns := [], harness := (true, "307e61196d3f4886c0049f613c394b681f3254770779ea132fb8ea05f59173ca"), looks := false }, kinds := [], alts := [], laidByText := true, laidKinds := [.data, .data, .data], laidTests := true, laidLooks := .later }
def PieceWidthsUptoCardSaid : Prop := Claim7.holds Tryd.pinned (.plain (OpenSpec.upto pieceWidthsSpec)) pieceWidthsUptoCard

/-- THE SECOND FORM's CARD OF 'raddlelaw37.PieceMirrors'. -/
def pieceMirrorsUptoCard : Claim7 := { stood := { row := pieceMirrorsUptoRow, standIns := [], harness := (true, "307e61196d3f4886c0049f613c394b681f3254770779ea132fb8ea05f59173ca"), looks := false }, kinds := [], alts := [], laidByText := true, laidKinds := [.data, .data, .data], laidTests := true, laidLooks := .later }
def PieceMirrorsUptoCardSaid : Prop := Claim7.holds Tryd.pinned (.plain (OpenSpec.upto pieceMirrorsSpec)) pieceMirrorsUptoCard

/-- THE SECOND FORM's CARD OF 'raddlelaw37.PieceNames'. -/
def pieceNamesUptoCard : Claim7 := { stood := { row := pieceNamesUptoRow, standIns := [], harness := (true, "307e61196d3f4886c0049f613c394b681f3254770779ea132fb8ea05f59173ca"), looks := false }, kinds := [], alts := [], laidByText := true, laidKinds := [.data, .data, .data], laidTests := true, laidLooks := .later }
def PieceNamesUptoCardSaid : Prop := Claim7.holds Tryd.pinned (.plain (OpenSpec.upto pieceNamesSpec)) pieceNamesUptoCard

/-- THE SECOND FORM's CARD OF 'raddlelaw37.PieceGauge'. -/
def pieceGaugeUptoCard : Claim7 := { stood := { row := pieceGaugeUptoRow, standIns := [], harness := (true, "307e61196d3f4886c0049f613c394b681f3254770779ea132fb8ea05f59173ca"), looks := false }, kinds := [], alts := [], laidByText := true, laidKinds := [.data, .data, .data], laidTests := true, laidLooks := .later }
def PieceGaugeUptoCardSaid : Prop := Claim7.holds Tryd.pinned (.plain (OpenSpec.upto pieceGaugeSpec)) pieceGaugeUptoCard
end Rows
end Go.Proofs.YtmedbnjhgkcndaaDoor
