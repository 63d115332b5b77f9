/- Whatever the row reads as data of a type is, in the print's own words, a value of that type's kind. No condition but the types' own rows. -/
import Derived.Test.YtdgpagocccabdaaDoorWAll
import Derived.Deep.Slices
import Derived.SizedLaws
namespace Go.Proofs.YtdgpagocccabdaaDoor.Open
open Go.RowKit Go.Proofs.YtdgpagocccabdaaDoorW.PrintWords Go.Deep

/-- Whatever reads as type t is of kind d; W holds of it. -/
def Opens (P : Program) (t : TypeId) {α : Type} (d : Kd α) (W : α → Prop) : Prop :=
  ∀ (H : Type) (enc : TypeId × Value → H) (w : World) (fuel : Nat) (cs : List Value) (x : DataW H × List MemPlace),
    DataW.trod enc P w 0 (fun _ => true) true fuel t cs = some x → (∀ n ∈ x.1.weights P t, n ≤ reachBytes) → ∃ a : α, W a ∧ d.K w a cs

/-- The same of one value. -/
theorem Opens.value {P : Program} {t : TypeId} {α : Type} {d : Kd α} {W : α → Prop} (h : Opens P t d W) {H : Type} {enc : TypeId × Value → H} {w : World} {v : Value} {x : DataW H} {p : List MemPlace}
    (hv : DataW.Trod enc P w 0 (fun _ => true) true t v x p) (hz : ∀ n ∈ x.weights P t, n ≤ reachBytes) : ∃ a : α, W a ∧ d.K w a v.cells.toList := by
  obtain ⟨fuel, hf⟩ := hv
  exact h H enc w fuel _ _ hf hz

/-! ### Structs: fields, one behind another -/
end Go.Proofs.YtdgpagocccabdaaDoor.Open
