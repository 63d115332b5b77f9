/- Numbers in writing: the program's Text and Parse and the document's are the same plain functions (written by mk/reply_dig.py out of Dig). Conditions: numbers of 64 bits; texts of at most 140737488351232 bytes. -/
import Derived.Test.YtdgpagocccabdaaDoorLim
import Derived.Laws.Strings
import Derived.Test.YtdgpagocccabdaaDoorWAll
import Derived.Test.YtdgpagocccabdaaDoorPx10
import Derived.Test.YtdgpagocccabdaaDoorPx25
import Derived.Test.YtdgpagocccabdaaDoorLaws
import Derived.Test.YtdgpagocccabdaaDoorPx17
import Derived.Lib.ItoaLen
import Derived.Lib.ItoaMem
import Derived.Lib.ParseIntBCases
section
namespace Go.Proofs.YtdgpagocccabdaaDoor.Pl
open Go Go.RowKit Go.Proofs.YtdgpagocccabdaaDoorW.PrintWords

theorem toList_data (s : ByteArray) : s.toList = s.data.toList := ByteArray.toList_eq s
theorem ba_ext {a b : ByteArray} (h : a.data.toList = b.data.toList) : a = b := by
  cases a with
  | mk x =>
    cases b with
    | mk y =>
      congr 1
      exact Array.toList_inj.1 h
theorem toList_inj (a b : ByteArray) : a.toList = b.toList ↔ a = b := by
  rw [toList_data, toList_data]
  exact ⟨ba_ext, fun h => by rw [h]⟩
theorem toList_nil (a : ByteArray) : a.toList = ([] : List UInt8) ↔ a.size = 0 := by
  rw [toList_data]
  constructor
  · intro h
    have := congrArg List.length h
    simpa using this
  · intro h
    exact List.eq_nil_of_length_eq_zero (by simpa using h)
theorem size_eq (s : ByteArray) : s.data.toList.length = s.size := by simp
theorem w64 {i : Int} (h0 : -9223372036854775808 ≤ i) (h1 : i ≤ 9223372036854775807) : wrap64 i = i := by
  unfold wrap64
  omega
theorem bt_get (s : ByteArray) (i : Nat) (h : i < s.data.toList.length) : bt s (i : Int) = ((s.data.toList[i]'h).toNat : Int) := by
  unfold bt
  rw [dif_pos (by rw [Int.toNat_natCast]; simpa using h)]
  simp only [Int.toNat_natCast]
  rfl
theorem drop_bytes (s : ByteArray) (i : Nat) (h : i < s.data.toList.length) : s.data.toList.drop i = s.data.toList[i] :: s.data.toList.drop (i + 1) := List.drop_eq_getElem_cons h
end Go.Proofs.YtdgpagocccabdaaDoor.Pl
end
section
namespace Go.Proofs.YtdgpagocccabdaaDoor.Pl
set_option linter.unusedVariables false
open Go Go.RowKit Go.Proofs.YtdgpagocccabdaaDoor.P Go.Proofs.YtdgpagocccabdaaDoor.Lim Go.Proofs.YtdgpagocccabdaaDoorW.PrintWords

def textV (u : Nat) : ByteArray := ⟨(Lib.decDigits u).toArray⟩
theorem text_eq (u : Nat) (h : u < 18446744073709551616) : digits_Text.f (u : Int) = some (textV u) := by
  unfold digits_Text.f strconv_FormatUint_36.f
  rw [if_pos ⟨rfl, by omega, by omega⟩, Option.bind_some, Lib.itoa_nonneg]
  rfl
theorem text_data (u : Nat) : (textV u).data.toList = Lib.decDigits u := rfl
theorem text_size (u : Nat) : (textV u).size = Lib.nDigits u := by
  rw [← Lib.decDigits_length]
  simp [textV, ByteArray.size]
def prsV (l : List UInt8) : Int × Int := if l.all digits_Parse.dg = true then digits_Parse.fin l else (0, 6)
theorem parse_eq (s : ByteArray) (h : s.size ≤ 281474976710656) : digits_Parse.f s = some (prsV s.data.toList) := by
  unfold digits_Parse.f prsV
  rw [if_pos h]
theorem dg_iff (b : UInt8) : digits_Parse.dg b = (decide (48 ≤ b.toNat) && decide (b.toNat ≤ 57)) := rfl
/-! ### Signed -/
theorem prs_rng (l : List UInt8) : 0 ≤ (prsV l).1 ∧ (prsV l).1 < 18446744073709551616 := by
  unfold prsV digits_Parse.fin
  split
  · split
    · decide
    · split
      · decide
      · cases h : Lib.parseUintB 64 l with
        | ok u =>
          have hu : u < 18446744073709551616 := by
            unfold Lib.parseUintB at h
            split at h
            · cases h
            · exact (by have := Lib.parseUintM_le _ l 0 u (Nat.zero_le _) h; omega)
          exact ⟨by show (0 : Int) ≤ (u : Int); omega, by show (u : Int) < _; omega⟩
        | «syntax» => decide
        | range => decide
  · decide
end Go.Proofs.YtdgpagocccabdaaDoor.Pl
end
