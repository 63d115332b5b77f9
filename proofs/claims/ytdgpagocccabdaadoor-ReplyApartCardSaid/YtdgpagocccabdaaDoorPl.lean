/- Plain lemmas on texts, their bytes and whole numbers. No condition. -/
import Derived.Test.YtdgpagocccabdaaDoorLim
import Derived.Laws.Strings
import Derived.Test.YtdgpagocccabdaaDoorWAll
namespace Go.Proofs.YtdgpagocccabdaaDoor.Pl
open Go Go.RowKit Go.Proofs.YtdgpagocccabdaaDoorW.PrintWords

theorem toList_data (s : ByteArray) : s.toList = s.data.toList := ByteArray.toList_eq s
theorem ba_ext {a b : ByteArray} (h : a.data.toList = b.data.toList) : a = b := by
  cases a with
  | mk x =>
    cases b with
    | mk y =>
      congr 1
      exact Array.toList_inj.1 h
theorem toList_inj (a b : ByteArray) : a.toList = b.toList ↔ a = b := by
  rw [toList_data, toList_data]
  exact ⟨ba_ext, fun h => by rw [h]⟩
theorem w64 {i : Int} (h0 : -9223372036854775808 ≤ i) (h1 : i ≤ 9223372036854775807) : wrap64 i = i := by
  unfold wrap64
  omega
end Go.Proofs.YtdgpagocccabdaaDoor.Pl
