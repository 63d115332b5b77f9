/-
  DERIVED. GIVEN WITH THE SEED: THE CARDS: each row of YtdgpagocccabdaaDoorRows.lean that lists a variable, with what it lists TIED to the program's text (the seventh form; the later family's looks); each row that meets fmt, with fmt's text TOLD by the authors' own Lean function (tested against real Go, not proved from fmt's source: count such statements apart). THE CARD IS WHAT COUNTS. Prove the row's statement (the work); the ties are given (YtdgpagocccabdaaDoorTie.lean); close each card by the builder's one call (the guide's Derived/Test/ToyasCard.lean, 'card_holds'). Laid BY PROGRAM, IN A SANDBOX (cutbox-door.mjs). By AI agents, Wed Nov 11 2026. No macro, syntax, notation, axiom, sorry.
-/
import Derived.Test.YtdgpagocccabdaaDoorRows
import GoSem.ClaimSeven
namespace Go.Proofs.YtdgpagocccabdaaDoor
namespace Rows

/-- THE TIED CARD OF 'tallboylaw18.ReplyWrites'. -/
def replyWritesCard : Claim7 := { stood := { row := replyWritesRow, standIns := [], harness := (true, "5fa3b6109ece3f531222147890c51e503d425548f995f8df631258802dd81324"), looks := true }, kinds := [], alts := [], laidByText := true, laidKinds := [.data, .data, .data], laidTests := true, laidLooks := .later }
def ReplyWritesCardSaid : Prop := Claim7.holds Tryd.pinned (.plain (OpenSpec.ofChange replyWritesSpec)) replyWritesCard

/-- THE TIED CARD OF 'tallboylaw18.ReplyReads'. -/
def replyReadsCard : Claim7 := { stood := { row := replyReadsRow, standIns := [], harness := (true, "5fa3b6109ece3f531222147890c51e503d425548f995f8df631258802dd81324"), looks := true }, kinds := [], alts := [], laidByText := true, laidKinds := [.data, .data, .data, .data, .sentinel, .sentinel, .pinned], laidTests := true, laidLooks := .later }
def ReplyReadsCardSaid : Prop := Claim7.holds Tryd.pinned (.plain (OpenSpec.ofChange replyReadsSpec)) replyReadsCard

/-- THE TIED CARD OF 'tallboylaw18.ReplyBack'. -/
def replyBackCard : Claim7 := { stood := { row := replyBackRow, standIns := [], harness := (true, "5fa3b6109ece3f531222147890c51e503d425548f995f8df631258802dd81324"), looks := true }, kinds := [], alts := [], laidByText := true, laidKinds := [.data, .data, .data, .data, .sentinel, .sentinel, .pinned], laidTests := true, laidLooks := .later }
def ReplyBackCardSaid : Prop := Claim7.holds Tryd.pinned (.plain (OpenSpec.ofChange replyBackSpec)) replyBackCard

/-- THE TIED CARD OF 'tallboylaw18.ReplyApart'. -/
def replyApartCard : Claim7 := { stood := { row := replyApartRow, standIns := [], harness := (true, "5fa3b6109ece3f531222147890c51e503d425548f995f8df631258802dd81324"), looks := true }, kinds := [], alts := [], laidByText := true, laidKinds := [.data, .data, .data, .data, .sentinel, .sentinel, .pinned], laidTests := true, laidLooks := .later }
def ReplyApartCardSaid : Prop := Claim7.holds Tryd.pinned (.plain (OpenSpec.ofChange replyApartSpec)) replyApartCard

/-- THE TIED CARD OF 'tallboylaw18.ReplyRow'. -/
def replyRowCard : Claim7 := { stood := { row := replyRowRow, standIns := [], harness := (true, "5fa3b6109ece3f531222147890c51e503d425548f995f8df631258802dd81324"), looks := true }, kinds := [], alts := [], laidByText := true, laidKinds := [.data, .data, .data, .data, .sentinel, .sentinel, .pinned], laidTests := true, laidLooks := .later }
def ReplyRowCardSaid : Prop := Claim7.holds Tryd.pinned (.plain (OpenSpec.ofChange replyRowSpec)) replyRowCard

/-- THE SECOND FORM's CARD OF 'tallboylaw18.ReplyWrites'. -/
def replyWritesUptoCard : Claim7 := { stood := { row := replyWritesUptoRow, standIns := [], harness := (true, "5fa3b6109ece3f531222147890c51e503d425548f995f8df631258802dd81324"), looks := true }, kinds := [], alts := [], laidByText := true, laidKinds := [.data, .data, .data], laidTests := true, laidLooks := .later }
def ReplyWritesUptoCardSaid : Prop := Claim7.holds Tryd.pinned (.plain (OpenSpec.upto replyWritesSpec)) replyWritesUptoCard

/-- THE SECOND FORM's CARD OF 'tallboylaw18.ReplyReads'. -/
def replyReadsUptoCard : Claim7 := { stood := { row := replyReadsUptoRow, standIns := [], harness := (true, "5fa3b6109ece3f531222147890c51e503d425548f995f8df631258802dd81324"), looks := true }, kinds := [], alts := [], laidByText := true, laidKinds := [.data, .data, .data, .data, .sentinel, .sentinel, .pinned], laidTests := true, laidLooks := .later }
def ReplyReadsUptoCardSaid : Prop := Claim7.holds Tryd.pinned (.plain (OpenSpec.upto replyReadsSpec)) replyReadsUptoCard

/-- THE SECOND FORM's CARD OF 'tallboylaw18.ReplyBack'. -/
def replyBackUptoCard : Claim7 := { stood := { row := replyBackUptoRow, standIns := [], harness := (true, "5fa3b6109ece3f531222147890c51e503d425548f995f8df631258802dd81324"), looks := true }, kinds := [], alts := [], laidByText := true, laidKinds := [.data, .data, .data, .data, .sentinel, .sentinel, .pinned], laidTests := true, laidLooks := .later }
def ReplyBackUptoCardSaid : Prop := Claim7.holds Tryd.pinned (.plain (OpenSpec.upto replyBackSpec)) replyBackUptoCard

/-- THE SECOND FORM's CARD OF 'tallboylaw18.ReplyApart'. -/
def replyApartUptoCard : Claim7 := { stood := { row := replyApartUptoRow, standIns := [], harness := (true, "5fa3b6109ece3f531222147890c51e503d425548f995f8df631258802dd81324"), looks := true }, kinds := [], alts := [], laidByText := true, laidKinds := [.data, .data, .data, .data, .sentinel, .sentinel, .pinned], laidTests := true, laidLooks := .later }
def ReplyApartUptoCardSaid : Prop := Claim7.holds Tryd.pinned (.plain (OpenSpec.upto replyApartSpec)) replyApartUptoCard

/-- THE SECOND FORM's CARD OF 'tallboylaw18.ReplyRow'. -/
def replyRowUptoCard : Claim7 := { stood := { row := replyRowUptoRow, standIns := [], harness := (true, "5fa3b6109ece3f531222147890c51e503d425548f995f8df631258802dd81324"), looks := true }, kinds := [], alts := [], laidByText := true, laidKinds := [.data, .data, .data, .data, .sentinel, .sentinel, .pinned], laidTests := true, laidLooks := .later }
def ReplyRowUptoCardSaid : Prop := Claim7.holds Tryd.pinned (.plain (OpenSpec.upto replyRowSpec)) replyRowUptoCard
end Rows
end Go.Proofs.YtdgpagocccabdaaDoor
