/- Numbers in writing: the program's Text, TextSigned, Parse and Signed and the document's are the same plain functions. Conditions: numbers of 64 bits; texts of at most 140737488351232 bytes. -/
import Derived.Test.YtbaegkghngbecaaDoorPl
import Derived.Test.YtbaegkghngbecaaDoorLmD
import Derived.Lib.ItoaLen
import Derived.Lib.ItoaMem
import Derived.Lib.ParseIntBCases
namespace Go.Proofs.YtbaegkghngbecaaDoor.Pl
set_option linter.unusedVariables false
open Go Go.RowKit Go.Proofs.YtbaegkghngbecaaDoor.P Go.Proofs.YtbaegkghngbecaaDoor.Lim Go.Proofs.YtbaegkghngbecaaDoorW.PrintWords

def textV (u : Nat) : ByteArray := ⟨(Lib.decDigits u).toArray⟩
theorem text_eq (u : Nat) (h : u < 18446744073709551616) : digits_Text.f (u : Int) = some (textV u) := by
  unfold digits_Text.f strconv_FormatUint_19.f
  rw [if_pos ⟨rfl, by omega, by omega⟩, Option.bind_some, Lib.itoa_nonneg]
  rfl
theorem text_data (u : Nat) : (textV u).data.toList = Lib.decDigits u := rfl
theorem text_size (u : Nat) : (textV u).size = Lib.nDigits u := by
  rw [← Lib.decDigits_length]
  simp [textV, ByteArray.size]
/-! ### Parse -/
theorem dg_iff (b : UInt8) : digits_Parse.dg b = (decide (48 ≤ b.toNat) && decide (b.toNat ≤ 57)) := rfl
/-! ### Signed -/
end Go.Proofs.YtbaegkghngbecaaDoor.Pl
