/- What the rows' listed variables give the calls (the table, the two sentinel errors), and that the door's own run meets the list. Condition: the list. -/
import Derived.Test.YtdgpagocccabdaaDoorRows
import Derived.Test.YtdgpagocccabdaaDoorLd
import Derived.LaidMore
import Derived.Lib.LaidTab
import Derived.Stop.LaidErr
import Derived.MakeChecks
import Derived.LaidOnce
namespace Go.Proofs.YtdgpagocccabdaaDoor.P
open Go Go.RowKit
theorem gP10 : Tryd.prog.globalNamed "internal/strconv.uint64pow10" = some 1 := by kernel_rfl
theorem tP10 : (Tryd.prog.globals[1]?).map (·.type) = some 107 := by kernel_rfl
theorem cP10 : Tryd.prog.cellsOf 107 = 20 := by kernel_rfl
theorem c64 : Tryd.prog.cellsOf 23 = 1 := by kernel_rfl
theorem ldT_head {r : List (String × DataW Unit)} {W : World} (h : laidMet Tryd.prog (("internal/strconv.uint64pow10", Rows.laid_internal_strconv_uint64pow10) :: r) W) : LdT W :=
  Lib.tabIs_of_head (k := .u64) (zs := Lib.pow10Tab) gP10 tP10 Tryd.underlying107 Tryd.underlying23 c64 cP10 h
def laidT : List (String × DataW Unit) := [("math/bits.deBruijn32tab", Rows.laid_math_bits_deBruijn32tab), ("math/bits.deBruijn64tab", Rows.laid_math_bits_deBruijn64tab), ("internal/strconv.uint64pow10", Rows.laid_internal_strconv_uint64pow10)]
theorem ldT_of {W : World} (h : laidMetH Tryd.prog laidT W) : LdT W := by
  rw [MakeChecks.laidMetH_plain _ _ _ (by kernel_rfl)] at h
  exact ldT_head h.tail.tail
theorem door_T (os : Os) (args : Array Value) : laidMetH Tryd.prog laidT ((World.doorLaid Tryd.prog 62 os).forCall (fun _ _ => 0) ⟨#[], args, []⟩).memory :=
  laidMetH_of_parts3 (fuel := 8) (laidMet_of_run' 8 (by kernel_rfl) (by kernel_rfl)) (by kernel_rfl) (by kernel_rfl)
end Go.Proofs.YtdgpagocccabdaaDoor.P
