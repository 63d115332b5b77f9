/-
  DERIVED. GIVEN WITH THE SEED: THE CARDS: each row of YtbaegkghngbecaaDoorRows.lean that lists a variable, with what it lists TIED to the program's text (the seventh form; the later family's looks); each row that meets fmt, with fmt's text TOLD by the authors' own Lean function (tested against real Go, not proved from fmt's source: count such statements apart). THE CARD IS WHAT COUNTS. Prove the row's statement (the work); the ties are given (YtbaegkghngbecaaDoorTie.lean); close each card by the builder's one call (the guide's Derived/Test/ToyasCard.lean, 'card_holds'). Laid BY PROGRAM, IN A SANDBOX (cutbox-door.mjs). By AI agents, Wed Nov 11 2026. No macro, syntax, notation, axiom, sorry.
-/
import Derived.Test.YtbaegkghngbecaaDoorRows
import GoSem.ClaimSeven
namespace Go.Proofs.YtbaegkghngbecaaDoor
namespace Rows

/-- THE TIED CARD OF 'tallboylaw02.DigitsWrites'. -/
def digitsWritesCard : Claim7 := { stood := { row := digitsWritesRow, standIns := [], harness := (true, "fa738737a238ef4fedd06e2672386f25971070a88e82ce31b9e1679fd49c0b9f"), looks := true }, kinds := [], alts := [], laidByText := true, laidKinds := [.data, .data, .data], laidTests := true, laidLooks := .later }
def DigitsWritesCardSaid : Prop := Claim7.holds Tryd.pinned (.plain (OpenSpec.ofChange digitsWritesSpec)) digitsWritesCard

/-- THE TIED CARD OF 'tallboylaw02.DigitsReads'. -/
def digitsReadsCard : Claim7 := { stood := { row := digitsReadsRow, standIns := [], harness := (true, "fa738737a238ef4fedd06e2672386f25971070a88e82ce31b9e1679fd49c0b9f"), looks := true }, kinds := [], alts := [], laidByText := true, laidKinds := [.data, .data, .data, .sentinel, .sentinel], laidTests := true, laidLooks := .later }
def DigitsReadsCardSaid : Prop := Claim7.holds Tryd.pinned (.plain (OpenSpec.ofChange digitsReadsSpec)) digitsReadsCard

/-- THE TIED CARD OF 'tallboylaw02.DigitsBack'. -/
def digitsBackCard : Claim7 := { stood := { row := digitsBackRow, standIns := [], harness := (true, "fa738737a238ef4fedd06e2672386f25971070a88e82ce31b9e1679fd49c0b9f"), looks := true }, kinds := [], alts := [], laidByText := true, laidKinds := [.data, .data, .data, .sentinel, .sentinel], laidTests := true, laidLooks := .later }
def DigitsBackCardSaid : Prop := Claim7.holds Tryd.pinned (.plain (OpenSpec.ofChange digitsBackSpec)) digitsBackCard

/-- THE TIED CARD OF 'tallboylaw02.DigitsRise'. -/
def digitsRiseCard : Claim7 := { stood := { row := digitsRiseRow, standIns := [], harness := (true, "fa738737a238ef4fedd06e2672386f25971070a88e82ce31b9e1679fd49c0b9f"), looks := true }, kinds := [], alts := [], laidByText := true, laidKinds := [.data, .data, .data, .sentinel, .sentinel], laidTests := true, laidLooks := .later }
def DigitsRiseCardSaid : Prop := Claim7.holds Tryd.pinned (.plain (OpenSpec.ofChange digitsRiseSpec)) digitsRiseCard

/-- THE TIED CARD OF 'tallboylaw02.DigitsTens'. -/
def digitsTensCard : Claim7 := { stood := { row := digitsTensRow, standIns := [], harness := (true, "fa738737a238ef4fedd06e2672386f25971070a88e82ce31b9e1679fd49c0b9f"), looks := true }, kinds := [], alts := [], laidByText := true, laidKinds := [.data, .data, .data, .sentinel, .sentinel], laidTests := true, laidLooks := .later }
def DigitsTensCardSaid : Prop := Claim7.holds Tryd.pinned (.plain (OpenSpec.ofChange digitsTensSpec)) digitsTensCard

/-- THE TIED CARD OF 'tallboylaw02.DigitsSigns'. -/
def digitsSignsCard : Claim7 := { stood := { row := digitsSignsRow, standIns := [], harness := (true, "fa738737a238ef4fedd06e2672386f25971070a88e82ce31b9e1679fd49c0b9f"), looks := true }, kinds := [], alts := [], laidByText := true, laidKinds := [.data, .data, .data, .sentinel, .sentinel], laidTests := true, laidLooks := .later }
def DigitsSignsCardSaid : Prop := Claim7.holds Tryd.pinned (.plain (OpenSpec.ofChange digitsSignsSpec)) digitsSignsCard

/-- THE TIED CARD OF 'tallboylaw02.DigitsBad'. -/
def digitsBadCard : Claim7 := { stood := { row := digitsBadRow, standIns := [], harness := (true, "fa738737a238ef4fedd06e2672386f25971070a88e82ce31b9e1679fd49c0b9f"), looks := true }, kinds := [], alts := [], laidByText := true, laidKinds := [.data, .data, .data, .sentinel, .sentinel], laidTests := true, laidLooks := .later }
def DigitsBadCardSaid : Prop := Claim7.holds Tryd.pinned (.plain (OpenSpec.ofChange digitsBadSpec)) digitsBadCard

/-- THE SECOND FORM's CARD OF 'tallboylaw02.DigitsWrites'. -/
def digitsWritesUptoCard : Claim7 := { stood := { row := digitsWritesUptoRow, standIns := [], harness := (true, "fa738737a238ef4fedd06e2672386f25971070a88e82ce31b9e1679fd49c0b9f"), looks := true }, kinds := [], alts := [], laidByText := true, laidKinds := [.data, .data, .data], laidTests := true, laidLooks := .later }
def DigitsWritesUptoCardSaid : Prop := Claim7.holds Tryd.pinned (.plain (OpenSpec.upto digitsWritesSpec)) digitsWritesUptoCard

/-- THE SECOND FORM's CARD OF 'tallboylaw02.DigitsReads'. -/
def digitsReadsUptoCard : Claim7 := { stood := { row := digitsReadsUptoRow, standIns := [], harness := (true, "fa738737a238ef4fedd06e2672386f25971070a88e82ce31b9e1679fd49c0b9f"), looks := true }, kinds := [], alts := [], laidByText := true, laidKinds := [.data, .data, .data, .sentinel, .sentinel], laidTests := true, laidLooks := .later }
def DigitsReadsUptoCardSaid : Prop := Claim7.holds Tryd.pinned (.plain (OpenSpec.upto digitsReadsSpec)) digitsReadsUptoCard

/-- THE SECOND FORM's CARD OF 'tallboylaw02.DigitsBack'. -/
def digitsBackUptoCard : Claim7 := { stood := { row := digitsBackUptoRow, standIns := [], harness := (true, "fa738737a238ef4fedd06e2672386f25971070a88e82ce31b9e1679fd49c0b9f"), looks := true }, kinds := [], alts := [], laidByText := true, laidKinds := [.data, .data, .data, .sentinel, .sentinel], laidTests := true, laidLooks := .later }
def DigitsBackUptoCardSaid : Prop := Claim7.holds Tryd.pinned (.plain (OpenSpec.upto digitsBackSpec)) digitsBackUptoCard

/-- THE SECOND FORM's CARD OF 'tallboylaw02.DigitsRise'. -/
def digitsRiseUptoCard : Claim7 := { stood := { row := digitsRiseUptoRow, standIns := [], harness := (true, "fa738737a238ef4fedd06e2672386f25971070a88e82ce31b9e1679fd49c0b9f"), looks := true }, kinds := [], alts := [], laidByText := true, laidKinds := [.data, .data, .data, .sentinel, .sentinel], laidTests := true, laidLooks := .later }
def DigitsRiseUptoCardSaid : Prop := Claim7.holds Tryd.pinned (.plain (OpenSpec.upto digitsRiseSpec)) digitsRiseUptoCard

/-- THE SECOND FORM's CARD OF 'tallboylaw02.DigitsTens'. -/
def digitsTensUptoCard : Claim7 := { stood := { row := digitsTensUptoRow, standIns := [], harness := (true, "fa738737a238ef4fedd06e2672386f25971070a88e82ce31b9e1679fd49c0b9f"), looks := true }, kinds := [], alts := [], laidByText := true, laidKinds := [.data, .data, .data, .sentinel, .sentinel], laidTests := true, laidLooks := .later }
def DigitsTensUptoCardSaid : Prop := Claim7.holds Tryd.pinned (.plain (OpenSpec.upto digitsTensSpec)) digitsTensUptoCard

/-- THE SECOND FORM's CARD OF 'tallboylaw02.DigitsSigns'. -/
def digitsSignsUptoCard : Claim7 := { stood := { row := digitsSignsUptoRow, standIns := [], harness := (true, "fa738737a238ef4fedd06e2672386f25971070a88e82ce31b9e1679fd49c0b9f"), looks := true }, kinds := [], alts := [], laidByText := true, laidKinds := [.data, .data, .data, .sentinel, .sentinel], laidTests := true, laidLooks := .later }
def DigitsSignsUptoCardSaid : Prop := Claim7.holds Tryd.pinned (.plain (OpenSpec.upto digitsSignsSpec)) digitsSignsUptoCard

/-- THE SECOND FORM's CARD OF 'tallboylaw02.DigitsBad'. -/
def digitsBadUptoCard : Claim7 := { stood := { row := digitsBadUptoRow, standIns := [], harness := (true, "fa738737a238ef4fedd06e2672386f25971070a88e82ce31b9e1679fd49c0b9f"), looks := true }, kinds := [], alts := [], laidByText := true, laidKinds := [.data, .data, .data, .sentinel, .sentinel], laidTests := true, laidLooks := .later }
def DigitsBadUptoCardSaid : Prop := Claim7.holds Tryd.pinned (.plain (OpenSpec.upto digitsBadSpec)) digitsBadUptoCard
end Rows
end Go.Proofs.YtbaegkghngbecaaDoor
