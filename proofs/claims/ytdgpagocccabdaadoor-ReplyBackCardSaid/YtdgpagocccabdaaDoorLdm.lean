/- What a row gives the calls that look for texts in texts: the table, the two sentinels, and that a variable of the library's own (internal/bytealg.MaxLen) holds some number; it goes along whatever a call lays for itself. -/
import Derived.Test.YtdgpagocccabdaaDoorRows
import Derived.Test.YtdgpagocccabdaaDoorLd
import Derived.LaidMore
import Derived.Lib.LaidTab
import Derived.Stop.LaidErr
import Derived.MakeChecks
import Derived.LaidOnce
import Derived.Shelf.Vars
section
namespace Go.Proofs.YtdgpagocccabdaaDoor.P
open Go Go.RowKit
theorem gP10 : Tryd.prog.globalNamed "internal/strconv.uint64pow10" = some 1 := by kernel_rfl
theorem tP10 : (Tryd.prog.globals[1]?).map (·.type) = some 107 := by kernel_rfl
theorem cP10 : Tryd.prog.cellsOf 107 = 20 := by kernel_rfl
theorem c64 : Tryd.prog.cellsOf 23 = 1 := by kernel_rfl
theorem gES : Tryd.prog.globalNamed "strconv.ErrSyntax" = some 2 := by kernel_rfl
theorem tES : (Tryd.prog.globals[2]?).map (·.type) = some 63 := by kernel_rfl
theorem gER : Tryd.prog.globalNamed "strconv.ErrRange" = some 3 := by kernel_rfl
theorem tER : (Tryd.prog.globals[3]?).map (·.type) = some 63 := by kernel_rfl
theorem cES : Tryd.prog.cellsOf 129 = 1 := by kernel_rfl
theorem cStr : Tryd.prog.cellsOf 9 = 1 := by kernel_rfl
theorem starE : "*" ++ "errors.errorString" = "*errors.errorString" := by decide
theorem rowE (u : TypeId) (h : Tryd.prog.typeName? 3 u = some "*errors.errorString") : u = 127  :=
  typeName_ptr_named (nm := "errors.errorString") (by rw [starE]; kernel_rfl) (by kernel_rfl) (by decide) u (by rw [starE]; exact h)
theorem ldT_head {r : List (String × DataW Unit)} {W : World} (h : laidMet Tryd.prog (("internal/strconv.uint64pow10", Rows.laid_internal_strconv_uint64pow10) :: r) W) : LdT W :=
  Lib.tabIs_of_head (k := .u64) (zs := Lib.pow10Tab) gP10 tP10 Tryd.underlying107 Tryd.underlying23 c64 cP10 h
theorem ldR_head {r : List (String × DataW Unit)} {W : World} (h : laidMet Tryd.prog (("strconv.ErrRange", Rows.laid_strconv_ErrRange) :: r) W) : LdV W "strconv.ErrRange" := by
  obtain ⟨a, s, hv, -, -, -⟩ := laid_sentinel h gER tER Tryd.underlying63 rowE Tryd.underlying127 Tryd.underlying129 rfl rfl Tryd.underlying9 cES cStr
  exact ⟨_, _, hv⟩
theorem ldS_head {r : List (String × DataW Unit)} {W : World} (h : laidMet Tryd.prog (("strconv.ErrSyntax", Rows.laid_strconv_ErrSyntax) :: r) W) : LdV W "strconv.ErrSyntax" := by
  obtain ⟨a, s, hv, -, -, -⟩ := laid_sentinel h gES tES Tryd.underlying63 rowE Tryd.underlying127 Tryd.underlying129 rfl rfl Tryd.underlying9 cES cStr
  exact ⟨_, _, hv⟩
end Go.Proofs.YtdgpagocccabdaaDoor.P
end
section
namespace Go.Proofs.YtdgpagocccabdaaDoor.P
open Go Go.RowKit
def LdM (w : World) : Prop := ∃ m, w.cell? ⟨0, 0, none⟩ = some (.int .i64 m)
def LdU (w : World) : Prop := LdS w ∧ LdM w
theorem LdM.on {w W : World} (h : LdM w) (hb : Below w.heap.size w W) : LdM W := by
  obtain ⟨m, h⟩ := h
  exact ⟨m, (hb.cell (World.block_lt_of_cell? w _ h)).trans h⟩
theorem LdU.on {w W : World} (h : LdU w) (hb : Below w.heap.size w W) : LdU W := ⟨h.1.on hb, h.2.on hb⟩
theorem LdU.s {w : World} (h : LdU w) : LdS w := h.1
end Go.Proofs.YtdgpagocccabdaaDoor.P
end
