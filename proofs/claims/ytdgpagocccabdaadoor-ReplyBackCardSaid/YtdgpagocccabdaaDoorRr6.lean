/- A hit at the front of bytes: the document's is the program's. Plain Lean; conditions: texts of at most 1000000 bytes. -/
import Derived.Test.YtdgpagocccabdaaDoorRr4
section
namespace Go.Proofs.YtdgpagocccabdaaDoor.Pl
set_option linter.unusedVariables false
set_option linter.unusedSimpArgs false
open Go Go.RowKit Go.Proofs.YtdgpagocccabdaaDoor.P Go.Proofs.YtdgpagocccabdaaDoor.Lim Go.Proofs.YtdgpagocccabdaaDoorW.PrintWords
def zr : ByteArray × Int × ByteArray × Int × Int × Bool := (⟨#[]⟩, 0, ⟨#[]⟩, 0, 0, false)
theorem pre_len (l : List UInt8) (h : Lib.hasPrefix l [13, 10] = true) : 2 ≤ l.length := by
  unfold Lib.hasPrefix at h
  have := (List.isPrefixOf_iff_prefix.1 h).length_le
  exact this
end Go.Proofs.YtdgpagocccabdaaDoor.Pl
end
section
namespace Go.Proofs.YtdgpagocccabdaaDoor.Pl
set_option linter.unusedVariables false
set_option linter.unusedSimpArgs false
open Go Go.RowKit Go.Proofs.YtdgpagocccabdaaDoor.P Go.Proofs.YtdgpagocccabdaaDoor.Lim Go.Proofs.YtdgpagocccabdaaDoorW.PrintWords
theorem behind_data (s : ByteArray) : (behind s).data.toList = s.data.toList.drop ((ixE s).toNat + 2) := by
  unfold behind
  exact Lib.extract_to_end s _
theorem behind_size (s : ByteArray) : (behind s).size = s.size - ((ixE s).toNat + 2) := by
  rw [← size_eq, behind_data, List.length_drop, size_eq]
theorem restV_data (s : ByteArray) (w : List ByteArray) : (restV w (behind s)).data.toList = s.data.toList.drop ((ixE s).toNat + 2 + (numV (rdOf ByteArray.empty w 3) 2000).1.toNat) := by
  unfold restV
  rw [Lib.extract_to_end, behind_data, List.drop_drop]
/-- What the document says of a hit, by what the program says. -/
def rhitW (s : ByteArray) (w : List ByteArray) : ByteArray × Int × ByteArray × Int × Int × Bool :=
  if (hitW w (behind s)).2.2.2.2.2 = true then ((hitW w (behind s)).1, (hitW w (behind s)).2.1, (hitW w (behind s)).2.2.1, (hitW w (behind s)).2.2.2.1, (((ixE s).toNat + 2 + (numV (rdOf ByteArray.empty w 3) 2000).1.toNat + 2 : Nat) : Int), true) else zr
end Go.Proofs.YtdgpagocccabdaaDoor.Pl
end
