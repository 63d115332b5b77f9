/- What a row gives the calls that look for texts in texts: the table, the two sentinels, and that a variable of the library's own (internal/bytealg.MaxLen) holds some number; it goes along whatever a call lays for itself. -/
import Derived.Test.YtdgpagocccabdaaDoorLd
import Derived.Shelf.Vars
namespace Go.Proofs.YtdgpagocccabdaaDoor.P
open Go Go.RowKit
def LdM (w : World) : Prop := ∃ m, w.cell? ⟨0, 0, none⟩ = some (.int .i64 m)
def LdU (w : World) : Prop := LdS w ∧ LdM w
theorem LdM.on {w W : World} (h : LdM w) (hb : Below w.heap.size w W) : LdM W := by
  obtain ⟨m, h⟩ := h
  exact ⟨m, (hb.cell (World.block_lt_of_cell? w _ h)).trans h⟩
theorem LdU.on {w W : World} (h : LdU w) (hb : Below w.heap.size w W) : LdU W := ⟨h.1.on hb, h.2.on hb⟩
theorem LdU.s {w : World} (h : LdU w) : LdS w := h.1
end Go.Proofs.YtdgpagocccabdaaDoor.P
