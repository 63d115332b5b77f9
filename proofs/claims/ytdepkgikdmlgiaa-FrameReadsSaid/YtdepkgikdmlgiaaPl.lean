/- Plain lemmas on texts, their bytes and whole numbers. No condition. -/
import Derived.Test.YtdepkgikdmlgiaaLim
import Derived.Laws.Strings
import Derived.Test.YtdepkgikdmlgiaaWAll
namespace Go.Proofs.Ytdepkgikdmlgiaa.Pl
open Go Go.RowKit Go.Proofs.YtdepkgikdmlgiaaW.PrintWords

theorem toList_data (s : ByteArray) : s.toList = s.data.toList := ByteArray.toList_eq s
theorem toList_nil (a : ByteArray) : a.toList = ([] : List UInt8) ↔ a.size = 0 := by
  rw [toList_data]
  constructor
  · intro h
    have := congrArg List.length h
    simpa using this
  · intro h
    exact List.eq_nil_of_length_eq_zero (by simpa using h)
theorem size_eq (s : ByteArray) : s.data.toList.length = s.size := by simp
theorem w64 {i : Int} (h0 : -9223372036854775808 ≤ i) (h1 : i ≤ 9223372036854775807) : wrap64 i = i := by
  unfold wrap64
  omega
theorem bt_get (s : ByteArray) (i : Nat) (h : i < s.data.toList.length) : bt s (i : Int) = ((s.data.toList[i]'h).toNat : Int) := by
  unfold bt
  rw [dif_pos (by rw [Int.toNat_natCast]; simpa using h)]
  simp only [Int.toNat_natCast]
  rfl
theorem drop_bytes (s : ByteArray) (i : Nat) (h : i < s.data.toList.length) : s.data.toList.drop i = s.data.toList[i] :: s.data.toList.drop (i + 1) := List.drop_eq_getElem_cons h
end Go.Proofs.Ytdepkgikdmlgiaa.Pl
