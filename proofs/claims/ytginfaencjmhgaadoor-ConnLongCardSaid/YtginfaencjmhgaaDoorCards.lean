/-
  DERIVED. GIVEN WITH THE SEED: THE CARDS: each row of YtginfaencjmhgaaDoorRows.lean that lists a variable, with what it lists TIED to the program's text (the seventh form; the later family's looks); each row that meets fmt, with fmt's text TOLD by the authors' own Lean function (tested against real Go, not proved from fmt's source: count such statements apart). THE CARD IS WHAT COUNTS. Prove the row's statement (the work); the ties are given (YtginfaencjmhgaaDoorTie.lean); close each card by the builder's one call (the guide's Derived/Test/ToyasCard.lean, 'card_holds'). Laid BY PROGRAM, IN A SANDBOX (cutbox-door.mjs). By AI agents, Wed Nov 11 2026. No macro, syntax, notation, axiom, sorry.
-/
import Derived.Test.YtginfaencjmhgaaDoorRows
import GoSem.ClaimSeven
namespace Go.Proofs.YtginfaencjmhgaaDoor
namespace Rows

/-- THE TIED CARD OF 'tallboylaw19.ConnPieces'. -/
def connPiecesCard : Claim7 := { stood := { row := connPiecesRow, standIns := [], harness := (true, "71aca0baf4f94e9be6be6c6f51bf1e87aae6dc3d5298b7187f2488c29657aa25"), looks := true }, kinds := [], alts := [], laidByText := true, laidKinds := [.data, .data, .data, .sentinel, .sentinel], laidTests := true, laidLooks := .later }
def ConnPiecesCardSaid : Prop := Claim7.holds Tryd.pinned (.plain (OpenSpec.ofChange connPiecesSpec)) connPiecesCard

/-- THE TIED CARD OF 'tallboylaw19.ConnSwallows'. -/
def connSwallowsCard : Claim7 := { stood := { row := connSwallowsRow, standIns := [], harness := (true, "71aca0baf4f94e9be6be6c6f51bf1e87aae6dc3d5298b7187f2488c29657aa25"), looks := true }, kinds := [], alts := [], laidByText := true, laidKinds := [.data, .data, .data, .sentinel, .sentinel], laidTests := true, laidLooks := .later }
def ConnSwallowsCardSaid : Prop := Claim7.holds Tryd.pinned (.plain (OpenSpec.ofChange connSwallowsSpec)) connSwallowsCard

/-- THE TIED CARD OF 'tallboylaw19.ConnLong'. -/
def connLongCard : Claim7 := { stood := { row := connLongRow, standIns := [], harness := (true, "71aca0baf4f94e9be6be6c6f51bf1e87aae6dc3d5298b7187f2488c29657aa25"), looks := true }, kinds := [], alts := [], laidByText := true, laidKinds := [.data, .data, .data, .sentinel, .sentinel], laidTests := true, laidLooks := .later }
def ConnLongCardSaid : Prop := Claim7.holds Tryd.pinned (.plain (OpenSpec.ofChange connLongSpec)) connLongCard

/-- THE TIED CARD OF 'tallboylaw19.ConnTotal'. -/
def connTotalCard : Claim7 := { stood := { row := connTotalRow, standIns := [], harness := (true, "71aca0baf4f94e9be6be6c6f51bf1e87aae6dc3d5298b7187f2488c29657aa25"), looks := true }, kinds := [], alts := [], laidByText := true, laidKinds := [.data, .data, .data, .sentinel, .sentinel], laidTests := true, laidLooks := .later }
def ConnTotalCardSaid : Prop := Claim7.holds Tryd.pinned (.plain (OpenSpec.ofChange connTotalSpec)) connTotalCard

/-- THE TIED CARD OF 'tallboylaw19.ConnRoom'. -/
def connRoomCard : Claim7 := { stood := { row := connRoomRow, standIns := [], harness := (true, "71aca0baf4f94e9be6be6c6f51bf1e87aae6dc3d5298b7187f2488c29657aa25"), looks := true }, kinds := [], alts := [], laidByText := true, laidKinds := [.data, .data, .data, .sentinel, .sentinel], laidTests := true, laidLooks := .later }
def ConnRoomCardSaid : Prop := Claim7.holds Tryd.pinned (.plain (OpenSpec.ofChange connRoomSpec)) connRoomCard

/-- THE SECOND FORM's CARD OF 'tallboylaw19.ConnPieces'. -/
def connPiecesUptoCard : Claim7 := { stood := { row := connPiecesUptoRow, standIns := [], harness := (true, "71aca0baf4f94e9be6be6c6f51bf1e87aae6dc3d5298b7187f2488c29657aa25"), looks := true }, kinds := [], alts := [], laidByText := true, laidKinds := [.data, .data, .data, .sentinel, .sentinel], laidTests := true, laidLooks := .later }
def ConnPiecesUptoCardSaid : Prop := Claim7.holds Tryd.pinned (.plain (OpenSpec.upto connPiecesSpec)) connPiecesUptoCard

/-- THE SECOND FORM's CARD OF 'tallboylaw19.ConnSwallows'. -/
def connSwallowsUptoCard : Claim7 := { stood := { row := connSwallowsUptoRow, standIns := [], harness := (true, "71aca0baf4f94e9be6be6c6f51bf1e87aae6dc3d5298b7187f2488c29657aa25"), looks := true }, kinds := [], alts := [], laidByText := true, laidKinds := [.data, .data, .data, .sentinel, .sentinel], laidTests := true, laidLooks := .later }
def ConnSwallowsUptoCardSaid : Prop := Claim7.holds Tryd.pinned (.plain (OpenSpec.upto connSwallowsSpec)) connSwallowsUptoCard

/-- THE SECOND FORM's CARD OF 'tallboylaw19.ConnLong'. -/
def connLongUptoCard : Claim7 := { stood := { row := connLongUptoRow, standIns := [], harness := (true, "71aca0baf4f94e9be6be6c6f51bf1e87aae6dc3d5298b7187f2488c29657aa25"), looks := true }, kinds := [], alts := [], laidByText := true, laidKinds := [.data, .data, .data, .sentinel, .sentinel], laidTests := true, laidLooks := .later }
def ConnLongUptoCardSaid : Prop := Claim7.holds Tryd.pinned (.plain (OpenSpec.upto connLongSpec)) connLongUptoCard

/-- THE SECOND FORM's CARD OF 'tallboylaw19.ConnTotal'. -/
def connTotalUptoCard : Claim7 := { stood := { row := connTotalUptoRow, standIns := [], harness := (true, "71aca0baf4f94e9be6be6c6f51bf1e87aae6dc3d5298b7187f2488c29657aa25"), looks := true }, kinds := [], alts := [], laidByText := true, laidKinds := [.data, .data, .data, .sentinel, .sentinel], laidTests := true, laidLooks := .later }
def ConnTotalUptoCardSaid : Prop := Claim7.holds Tryd.pinned (.plain (OpenSpec.upto connTotalSpec)) connTotalUptoCard

/-- THE SECOND FORM's CARD OF 'tallboylaw19.ConnRoom'. -/
def connRoomUptoCard : Claim7 := { stood := { row := connRoomUptoRow, standIns := [], harness := (true, "71aca0baf4f94e9be6be6c6f51bf1e87aae6dc3d5298b7187f2488c29657aa25"), looks := true }, kinds := [], alts := [], laidByText := true, laidKinds := [.data, .data, .data, .sentinel, .sentinel], laidTests := true, laidLooks := .later }
def ConnRoomUptoCardSaid : Prop := Claim7.holds Tryd.pinned (.plain (OpenSpec.upto connRoomSpec)) connRoomUptoCard
end Rows
end Go.Proofs.YtginfaencjmhgaaDoor
