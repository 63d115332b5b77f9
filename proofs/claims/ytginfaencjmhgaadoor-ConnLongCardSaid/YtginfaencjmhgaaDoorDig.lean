/- Numbers in writing: the program's Text, TextSigned, Parse and Signed and the document's are the same plain functions. Conditions: numbers of 64 bits; texts of at most 140737488351232 bytes. -/
import Derived.Test.YtginfaencjmhgaaDoorPl
import Derived.Test.YtginfaencjmhgaaDoorLmD
import Derived.Test.YtginfaencjmhgaaDoorPx6
import Derived.Test.YtginfaencjmhgaaDoorPx9
import Derived.Test.YtginfaencjmhgaaDoorPx8
import Derived.Lib.ItoaLen
import Derived.Lib.ItoaMem
import Derived.Lib.ParseIntBCases
namespace Go.Proofs.YtginfaencjmhgaaDoor.Pl
set_option linter.unusedVariables false
open Go Go.RowKit Go.Proofs.YtginfaencjmhgaaDoor.P Go.Proofs.YtginfaencjmhgaaDoor.Lim Go.Proofs.YtginfaencjmhgaaDoorW.PrintWords

/-! ### Parse -/
def prsV (l : List UInt8) : Int × Int := if l.all digits_Parse.dg = true then digits_Parse.fin l else (0, 6)
theorem parse_eq (s : ByteArray) (h : s.size ≤ 281474976710656) : digits_Parse.f s = some (prsV s.data.toList) := by
  unfold digits_Parse.f prsV
  rw [if_pos h]
/-! ### Signed -/
def sgnV (l : List UInt8) : Int × Int :=
  if l.head? = some 45 then
    (if (prsV l.tail).2 = 0 then (if (prsV l.tail).1 ≤ 9223372036854775808 then (-(prsV l.tail).1, 0) else (0, 1)) else (0, (prsV l.tail).2))
  else (if (prsV l).2 = 0 then (if (prsV l).1 ≤ 9223372036854775807 then ((prsV l).1, 0) else (0, 1)) else (0, (prsV l).2))
theorem prs_rng (l : List UInt8) : 0 ≤ (prsV l).1 ∧ (prsV l).1 < 18446744073709551616 := by
  unfold prsV digits_Parse.fin
  split
  · split
    · decide
    · split
      · decide
      · cases h : Lib.parseUintB 64 l with
        | ok u =>
          have hu : u < 18446744073709551616 := by
            unfold Lib.parseUintB at h
            split at h
            · cases h
            · exact (by have := Lib.parseUintM_le _ l 0 u (Nat.zero_le _) h; omega)
          exact ⟨by show (0 : Int) ≤ (u : Int); omega, by show (u : Int) < _; omega⟩
        | «syntax» => decide
        | range => decide
  · decide
end Go.Proofs.YtginfaencjmhgaaDoor.Pl
