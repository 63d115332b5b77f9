/- What functions with a number of rounds come to: their limit, and how it is reckoned. Plain Lean; no condition. -/
import Derived.Test.YtdgpagocccabdaaDoorWAll
namespace Go.Proofs.YtdgpagocccabdaaDoor.Lim
open Go.Proofs.YtdgpagocccabdaaDoorW.PrintWords

/-- g comes to v: to some r from some number of rounds on, and never to anything else. -/
def Lm {α : Type} (g : Nat → Option α) (v : Option α) : Prop := (∀ r, v = some r → Ev g r) ∧ (∀ k r, g k = some r → v = some r)

theorem Lm.bind {α β : Type} {g : Nat → Option α} {v : Option α} {h : Nat → α → Option β} {w : α → Option β} (hg : Lm g v) (hh : ∀ a, Lm (fun k => h k a) (w a)) : Lm (fun k => (g k).bind (h k)) (v.bind w) := by
  refine ⟨fun r hr => ?_, fun k r hr => ?_⟩
  · obtain ⟨a, ha, hr⟩ := Option.bind_eq_some_iff.1 hr
    exact Ev.bind (hg.1 a ha) ((hh a).1 r hr)
  · obtain ⟨a, ha, hr⟩ := Option.bind_eq_some_iff.1 hr
    exact Option.bind_eq_some_iff.2 ⟨a, hg.2 k a ha, (hh a).2 k r hr⟩

theorem Lm.step {α : Type} {g f : Nat → Option α} {v : Option α} (h0 : g 0 = none) (h : ∀ k, g (k + 1) = f k) (hf : Lm f v) : Lm g v := by
  refine ⟨fun r hr => Ev.step h (hf.1 r hr), fun k r hk => ?_⟩
  cases k with
  | zero => rw [h0] at hk; cases hk
  | succ k => rw [h] at hk; exact hf.2 k r hk

theorem Lm.rounds {α : Type} {g : Nat → Option α} {v : Option α} {r : α} (h : Lm g v) (hv : v = some r) : ∃ k, g k = some r := (h.1 r hv).rounds
end Go.Proofs.YtdgpagocccabdaaDoor.Lim
