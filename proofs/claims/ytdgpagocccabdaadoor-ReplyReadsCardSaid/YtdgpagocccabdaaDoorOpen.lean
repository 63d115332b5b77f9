/- Whatever the row reads as data of a type is, in the print's own words, a value of that type's kind. No condition but the types' own rows. -/
import Derived.Test.YtdgpagocccabdaaDoorWAll
import Derived.Deep.Slices
import Derived.SizedLaws
namespace Go.Proofs.YtdgpagocccabdaaDoor.Open
open Go.RowKit Go.Proofs.YtdgpagocccabdaaDoorW.PrintWords Go.Deep

/-- Whatever reads as type t is of kind d; W holds of it. -/
def Opens (P : Program) (t : TypeId) {α : Type} (d : Kd α) (W : α → Prop) : Prop :=
  ∀ (H : Type) (enc : TypeId × Value → H) (w : World) (fuel : Nat) (cs : List Value) (x : DataW H × List MemPlace),
    DataW.trod enc P w 0 (fun _ => true) true fuel t cs = some x → (∀ n ∈ x.1.weights P t, n ≤ reachBytes) → ∃ a : α, W a ∧ d.K w a cs

/-- The same of one value. -/
theorem Opens.value {P : Program} {t : TypeId} {α : Type} {d : Kd α} {W : α → Prop} (h : Opens P t d W) {H : Type} {enc : TypeId × Value → H} {w : World} {v : Value} {x : DataW H} {p : List MemPlace}
    (hv : DataW.Trod enc P w 0 (fun _ => true) true t v x p) (hz : ∀ n ∈ x.weights P t, n ≤ reachBytes) : ∃ a : α, W a ∧ d.K w a v.cells.toList := by
  obtain ⟨fuel, hf⟩ := hv
  exact h H enc w fuel _ _ hf hz

/-- What is read of a parameter is within the form's reach. -/
theorem sized_at {H : Type} {P : Program} {ts : List TypeId} {ds : List (DataW H)} (h : (DataW.weightsEach P ts ds).all (· ≤ reachBytes) = true) {j : Nat} {t : TypeId} {d : DataW H} (ht : ts[j]? = some t) (hd : ds[j]? = some d) :
    ∀ n ∈ d.weights P t, n ≤ reachBytes := by
  intro n hn
  have := List.all_eq_true.1 h _ (DataW.weights_mem_each ht hd n hn)
  simpa using this

theorem opens_string {P : Program} {t : TypeId} (ht : P.underlying t = some .string) : Opens P t Kd.string (fun s => s.size ≤ 140737488351232) := by
  intro H enc w fuel cs x hx hz
  obtain ⟨s, rfl, rfl, hs⟩ := DataW.trod_string ht hx
  have h1 := hz s.data.toList.length (by simp [DataW.weights])
  exact ⟨s, by simpa [reachBytes] using h1, rfl⟩

/-! ### Structs: fields, one behind another -/
end Go.Proofs.YtdgpagocccabdaaDoor.Open
