/- A packed frame's bytes, with anything behind, are unpacked as that frame; a byte that begins no frame is none. Plain Lean; no condition. -/
import Derived.Test.YtdepkgikdmlgiaaFr5
import Derived.Test.YtdepkgikdmlgiaaUnp
import Derived.Test.YtdepkgikdmlgiaaBck
namespace Go.Proofs.Ytdepkgikdmlgiaa.Pl
set_option linter.unusedVariables false
open Go Go.RowKit Go.Proofs.Ytdepkgikdmlgiaa.P Go.Proofs.Ytdepkgikdmlgiaa.Lim Go.Proofs.YtdepkgikdmlgiaaW.PrintWords
/-- A text's bytes as numbers. -/
def bytesL (s : ByteArray) : List Int := s.data.toList.map fun b => (b.toNat : Int)
theorem bytesL_len (s : ByteArray) : (bytesL s).length = s.size := by
  unfold bytesL
  rw [List.length_map, size_eq]
theorem bytesL_str (s : ByteArray) : strOfNums (bytesL s) = s := by
  apply ba_ext
  unfold bytesL strOfNums
  simp only [List.map_map]
  refine (List.map_congr_left (g := id) fun b _ => ?_).trans (by simp)
  simp
end Go.Proofs.Ytdepkgikdmlgiaa.Pl
