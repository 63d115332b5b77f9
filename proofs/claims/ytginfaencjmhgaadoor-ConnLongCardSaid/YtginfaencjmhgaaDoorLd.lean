/- What a row's listed variables give the calls: a table of the library's and two sentinel errors; it goes along whatever a call lays for itself. -/
import Derived.Lib.AppendIntMem
import Derived.Test.YtginfaencjmhgaaDoorProg
namespace Go.Proofs.YtginfaencjmhgaaDoor.P
open Go.RowKit
def LdT (w : World) : Prop := Lib.TabIs Tryd.prog w "internal/strconv.uint64pow10" .u64 Lib.pow10Tab
def LdV (w : World) (name : String) : Prop := ∃ tp p, w.var? Tryd.prog name = some #[.iface tp p]
def LdS (w : World) : Prop := LdT w ∧ LdV w "strconv.ErrSyntax" ∧ LdV w "strconv.ErrRange"
theorem LdT.on {w W : World} (h : LdT w) (hb : Below w.heap.size w W) : LdT W := Lib.tabBelow_of_tabIs h W hb
theorem LdV.on {w W : World} {name : String} (h : LdV w name) (hb : Below w.heap.size w W) : LdV W name := by
  obtain ⟨tp, p, h⟩ := h
  refine ⟨tp, p, ?_⟩
  unfold World.var? at *
  cases hg : Tryd.prog.globalNamed name with
  | none => simp [hg] at h
  | some g =>
    simp only [hg, Option.bind_some] at h ⊢
    have hlt : g < w.heap.size := by
      rcases Nat.lt_or_ge g w.heap.size with h' | h'
      · exact h'
      · rw [Array.getElem?_eq_none h'] at h; simp at h
    rw [hb.block g hlt]
    exact h
theorem LdS.on {w W : World} (h : LdS w) (hb : Below w.heap.size w W) : LdS W := ⟨h.1.on hb, h.2.1.on hb, h.2.2.on hb⟩
theorem LdS.t {w : World} (h : LdS w) : LdT w := h.1
end Go.Proofs.YtginfaencjmhgaaDoor.P
