/- Numbers in writing: the program's Text, TextSigned, Parse and Signed and the document's are the same plain functions. Conditions: numbers of 64 bits; texts of at most 140737488351232 bytes. -/
import Derived.Test.YtbfgopinbpbddaaDoorPl
import Derived.Test.YtbfgopinbpbddaaDoorLmD
import Derived.Test.YtbfgopinbpbddaaDoorPx11
import Derived.Test.YtbfgopinbpbddaaDoorPx9
import Derived.Test.YtbfgopinbpbddaaDoorPx24
import Derived.Test.YtbfgopinbpbddaaDoorPx27
import Derived.Test.YtbfgopinbpbddaaDoorPx26
import Derived.Lib.ItoaLen
import Derived.Lib.ItoaMem
import Derived.Lib.ParseIntBCases
namespace Go.Proofs.YtbfgopinbpbddaaDoor.Pl
set_option linter.unusedVariables false
open Go Go.RowKit Go.Proofs.YtbfgopinbpbddaaDoor.P Go.Proofs.YtbfgopinbpbddaaDoor.Lim Go.Proofs.YtbfgopinbpbddaaDoorW.PrintWords

def textV (u : Nat) : ByteArray := ⟨(Lib.decDigits u).toArray⟩
def stextV (v : Int) : ByteArray := ⟨(Lib.itoa v).toArray⟩
theorem text_eq (u : Nat) (h : u < 18446744073709551616) : digits_Text.f (u : Int) = some (textV u) := by
  unfold digits_Text.f strconv_FormatUint_61.f
  rw [if_pos ⟨rfl, by omega, by omega⟩, Option.bind_some, Lib.itoa_nonneg]
  rfl
theorem stext_eq (v : Int) (h0 : -9223372036854775808 ≤ v) (h1 : v ≤ 9223372036854775807) : digits_TextSigned.f v = some (stextV v) := by
  unfold digits_TextSigned.f strconv_FormatInt_60.f
  rw [if_pos ⟨rfl, h0, h1⟩, Option.bind_some]
  rfl
theorem text_size (u : Nat) : (textV u).size = Lib.nDigits u := by
  rw [← Lib.decDigits_length]
  simp [textV, ByteArray.size]
theorem stext_neg (v : Int) (h1 : v < 0) : stextV v = (⟨#[45]⟩ : ByteArray) ++ textV (-v).toNat := by
  obtain ⟨u, hu⟩ : ∃ u : Nat, v = -(u : Int) := ⟨(-v).toNat, by omega⟩
  subst hu
  apply ByteArray.ext
  apply Array.toList_inj.1
  unfold stextV textV
  rw [Lib.itoa_neg u (by omega), show (-(-(u : Int))).toNat = u by omega]
  simp
theorem stext_pos (v : Int) (h1 : 0 ≤ v) : stextV v = textV v.toNat := by
  obtain ⟨u, rfl⟩ := Int.eq_ofNat_of_zero_le h1
  unfold stextV textV
  rw [Lib.itoa_nonneg, Int.toNat_natCast]
/-! ### Parse -/
def prsV (l : List UInt8) : Int × Int := if l.all digits_Parse.dg = true then digits_Parse.fin l else (0, 6)
theorem parse_eq (s : ByteArray) (h : s.size ≤ 281474976710656) : digits_Parse.f s = some (prsV s.data.toList) := by
  unfold digits_Parse.f prsV
  rw [if_pos h]
theorem dg_iff (b : UInt8) : digits_Parse.dg b = (decide (48 ≤ b.toNat) && decide (b.toNat ≤ 57)) := rfl
/-! ### Signed -/
def sgnV (l : List UInt8) : Int × Int :=
  if l.head? = some 45 then
    (if (prsV l.tail).2 = 0 then (if (prsV l.tail).1 ≤ 9223372036854775808 then (-(prsV l.tail).1, 0) else (0, 1)) else (0, (prsV l.tail).2))
  else (if (prsV l).2 = 0 then (if (prsV l).1 ≤ 9223372036854775807 then ((prsV l).1, 0) else (0, 1)) else (0, (prsV l).2))
theorem prs_rng (l : List UInt8) : 0 ≤ (prsV l).1 ∧ (prsV l).1 < 18446744073709551616 := by
  unfold prsV digits_Parse.fin
  split
  · split
    · decide
    · split
      · decide
      · cases h : Lib.parseUintB 64 l with
        | ok u =>
          have hu : u < 18446744073709551616 := by
            unfold Lib.parseUintB at h
            split at h
            · cases h
            · exact (by have := Lib.parseUintM_le _ l 0 u (Nat.zero_le _) h; omega)
          exact ⟨by show (0 : Int) ≤ (u : Int); omega, by show (u : Int) < _; omega⟩
        | «syntax» => decide
        | range => decide
  · decide
end Go.Proofs.YtbfgopinbpbddaaDoor.Pl
