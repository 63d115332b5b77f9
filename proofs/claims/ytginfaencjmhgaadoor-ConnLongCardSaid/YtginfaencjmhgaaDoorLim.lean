/- What functions with a number of rounds come to: their limit, and how it is reckoned. Plain Lean; no condition. -/
import Derived.Test.YtginfaencjmhgaaDoorWAll
namespace Go.Proofs.YtginfaencjmhgaaDoor.Lim
open Go.Proofs.YtginfaencjmhgaaDoorW.PrintWords

/-- g comes to v: to some r from some number of rounds on, and never to anything else. -/
def Lm {α : Type} (g : Nat → Option α) (v : Option α) : Prop := (∀ r, v = some r → Ev g r) ∧ (∀ k r, g k = some r → v = some r)

open Classical in
noncomputable def lim {α : Type} (g : Nat → Option α) : Option α := if h : ∃ r, Ev g r then some (Classical.choose h) else none

theorem ev_same {α : Type} {g : Nat → Option α} {r s : α} (h : Ev g r) (h' : Ev g s) : r = s := by
  obtain ⟨K, h⟩ := h
  obtain ⟨K', h'⟩ := h'
  have h1 := h (max K K') (by omega)
  have h2 := h' (max K K') (by omega)
  rw [h1] at h2
  exact Option.some.inj h2

theorem Lm.unique {α : Type} {g : Nat → Option α} {v w : Option α} (h : Lm g v) (h' : Lm g w) : v = w := by
  cases v with
  | some r =>
    obtain ⟨K, e⟩ := h.1 r rfl
    exact (h'.2 K r (e K (Nat.le_refl _))).symm
  | none =>
    cases w with
    | none => rfl
    | some s =>
      obtain ⟨K, e⟩ := h'.1 s rfl
      exact h.2 K s (e K (Nat.le_refl _))

theorem lim_spec {α : Type} {g : Nat → Option α} (hg : ∀ k, LeO (g k) (g (k + 1))) : Lm g (lim g) := by
  unfold lim
  by_cases h : ∃ r, Ev g r
  · rw [dif_pos h]
    refine ⟨fun r hr => by rw [← Option.some.inj hr]; exact Classical.choose_spec h, fun k r hk => ?_⟩
    rw [ev_same (Classical.choose_spec h) (Ev.of hg hk)]
  · rw [dif_neg h]
    exact ⟨fun r hr => (by cases hr), fun k r hk => absurd (Exists.intro r (Ev.of hg hk)) h⟩

theorem Lm.const {α : Type} (v : Option α) : Lm (fun _ => v) v := ⟨fun _ hr => ⟨0, fun _ _ => hr⟩, fun _ _ h => h⟩

theorem Lm.bind {α β : Type} {g : Nat → Option α} {v : Option α} {h : Nat → α → Option β} {w : α → Option β} (hg : Lm g v) (hh : ∀ a, Lm (fun k => h k a) (w a)) : Lm (fun k => (g k).bind (h k)) (v.bind w) := by
  refine ⟨fun r hr => ?_, fun k r hr => ?_⟩
  · obtain ⟨a, ha, hr⟩ := Option.bind_eq_some_iff.1 hr
    exact Ev.bind (hg.1 a ha) ((hh a).1 r hr)
  · obtain ⟨a, ha, hr⟩ := Option.bind_eq_some_iff.1 hr
    exact Option.bind_eq_some_iff.2 ⟨a, hg.2 k a ha, (hh a).2 k r hr⟩

theorem Lm.ite {α : Type} {c : Prop} [Decidable c] {g h : Nat → Option α} {v w : Option α} (hg : Lm g v) (hh : Lm h w) : Lm (fun k => if c then g k else h k) (if c then v else w) := by
  by_cases hc : c
  · simp only [if_pos hc]
    exact hg
  · simp only [if_neg hc]
    exact hh

theorem Lm.step {α : Type} {g f : Nat → Option α} {v : Option α} (h0 : g 0 = none) (h : ∀ k, g (k + 1) = f k) (hf : Lm f v) : Lm g v := by
  refine ⟨fun r hr => Ev.step h (hf.1 r hr), fun k r hk => ?_⟩
  cases k with
  | zero => rw [h0] at hk; cases hk
  | succ k => rw [h] at hk; exact hf.2 k r hk

theorem Lm.rounds {α : Type} {g : Nat → Option α} {v : Option α} {r : α} (h : Lm g v) (hv : v = some r) : ∃ k, g k = some r := (h.1 r hv).rounds
end Go.Proofs.YtginfaencjmhgaaDoor.Lim
