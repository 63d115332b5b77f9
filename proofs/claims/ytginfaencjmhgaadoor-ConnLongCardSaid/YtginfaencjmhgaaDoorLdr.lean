/- What the rows' listed variables give the calls (the table, the two sentinel errors), and that the door's own run meets the list. Condition: the list. -/
import Derived.Test.YtginfaencjmhgaaDoorRows
import Derived.Test.YtginfaencjmhgaaDoorLd
import Derived.LaidMore
import Derived.Lib.LaidTab
import Derived.Stop.LaidErr
import Derived.MakeChecks
import Derived.LaidOnce
namespace Go.Proofs.YtginfaencjmhgaaDoor.P
open Go Go.RowKit
theorem gP10 : Tryd.prog.globalNamed "internal/strconv.uint64pow10" = some 3 := by kernel_rfl
theorem tP10 : (Tryd.prog.globals[3]?).map (·.type) = some 119 := by kernel_rfl
theorem cP10 : Tryd.prog.cellsOf 119 = 20 := by kernel_rfl
theorem c64 : Tryd.prog.cellsOf 31 = 1 := by kernel_rfl
theorem gES : Tryd.prog.globalNamed "strconv.ErrSyntax" = some 1 := by kernel_rfl
theorem tES : (Tryd.prog.globals[1]?).map (·.type) = some 93 := by kernel_rfl
theorem gER : Tryd.prog.globalNamed "strconv.ErrRange" = some 2 := by kernel_rfl
theorem tER : (Tryd.prog.globals[2]?).map (·.type) = some 93 := by kernel_rfl
theorem cES : Tryd.prog.cellsOf 111 = 1 := by kernel_rfl
theorem cStr : Tryd.prog.cellsOf 9 = 1 := by kernel_rfl
theorem starE : "*" ++ "errors.errorString" = "*errors.errorString" := by decide
theorem rowE (u : TypeId) (h : Tryd.prog.typeName? 3 u = some "*errors.errorString") : u = 109  :=
  typeName_ptr_named (nm := "errors.errorString") (by rw [starE]; kernel_rfl) (by kernel_rfl) (by decide) u (by rw [starE]; exact h)
theorem ldT_head {r : List (String × DataW Unit)} {W : World} (h : laidMet Tryd.prog (("internal/strconv.uint64pow10", Rows.laid_internal_strconv_uint64pow10) :: r) W) : LdT W :=
  Lib.tabIs_of_head (k := .u64) (zs := Lib.pow10Tab) gP10 tP10 Tryd.underlying119 Tryd.underlying31 c64 cP10 h
theorem ldR_head {r : List (String × DataW Unit)} {W : World} (h : laidMet Tryd.prog (("strconv.ErrRange", Rows.laid_strconv_ErrRange) :: r) W) : LdV W "strconv.ErrRange" := by
  obtain ⟨a, s, hv, -, -, -⟩ := laid_sentinel h gER tER Tryd.underlying93 rowE Tryd.underlying109 Tryd.underlying111 rfl rfl Tryd.underlying9 cES cStr
  exact ⟨_, _, hv⟩
theorem ldS_head {r : List (String × DataW Unit)} {W : World} (h : laidMet Tryd.prog (("strconv.ErrSyntax", Rows.laid_strconv_ErrSyntax) :: r) W) : LdV W "strconv.ErrSyntax" := by
  obtain ⟨a, s, hv, -, -, -⟩ := laid_sentinel h gES tES Tryd.underlying93 rowE Tryd.underlying109 Tryd.underlying111 rfl rfl Tryd.underlying9 cES cStr
  exact ⟨_, _, hv⟩
def laidS : List (String × DataW Unit) := [("math/bits.deBruijn32tab", Rows.laid_math_bits_deBruijn32tab), ("math/bits.deBruijn64tab", Rows.laid_math_bits_deBruijn64tab), ("internal/strconv.uint64pow10", Rows.laid_internal_strconv_uint64pow10), ("strconv.ErrRange", Rows.laid_strconv_ErrRange), ("strconv.ErrSyntax", Rows.laid_strconv_ErrSyntax)]
theorem ldS_of {W : World} (h : laidMetH Tryd.prog laidS W) : LdS W := by
  rw [MakeChecks.laidMetH_plain _ _ _ (by kernel_rfl)] at h
  exact ⟨ldT_head h.tail.tail, ldS_head h.tail.tail.tail.tail, ldR_head h.tail.tail.tail⟩
theorem door_S (os : Os) (args : Array Value) : laidMetH Tryd.prog laidS ((World.doorLaid Tryd.prog 62 os).forCall (fun _ _ => 0) ⟨#[], args, []⟩).memory :=
  laidMetH_of_parts3 (fuel := 8) (laidMet_of_run' 8 (by kernel_rfl) (by kernel_rfl)) (by kernel_rfl) (by kernel_rfl)
end Go.Proofs.YtginfaencjmhgaaDoor.P
