/- Lean functions for the Go functions that the laws of this seat use, and the proofs that the Go code computes them; conditions: the readings that each theorem names. Written by a program. -/
import Derived.Test.YtbfgopinbpbddaaDoorPx0
import Derived.Test.YtbfgopinbpbddaaDoorPx1
import Derived.Test.YtbfgopinbpbddaaDoorPx5
import Derived.Test.YtbfgopinbpbddaaDoorShort
namespace Go.Proofs.YtbfgopinbpbddaaDoor.P
open Go.RowKit Go.Proofs.YtbfgopinbpbddaaDoorW.PrintWords Go.Proofs.YtbfgopinbpbddaaDoorW.PrintLast Go.Proofs.YtbfgopinbpbddaaDoorW.PrintMore
set_option linter.unusedVariables false
set_option linter.unusedSimpArgs false

-- HAND
-- FN tallboy/verb.Name
-- ROUNDS 0
-- MAKING 1
/-! ### verb.Name -/
def verb_Name.f (a0 : Int) : Option (ByteArray) := if 1 ≤ a0 ∧ a0 ≤ 15 then some (rdOf ByteArray.empty verb_names.l a0) else some ⟨#[]⟩
set_option maxHeartbeats 8000000 in
set_option maxRecDepth 100000 in
theorem verb_Name.calls (a0 : Int) (r : ByteArray) (w : World) (h : verb_Name.f a0 = some r) :
  Calls Tryd.prog 24 #[.int .i64 a0] w fun e w' => e = .returned (.string r) ∧ Below w.heap.size w w' := by
 unfold verb_Name.f at h
 by_cases hr : 1 ≤ a0 ∧ a0 ≤ 15
 ·rw [if_pos hr] at h; obtain rfl := Option.some.inj h; clear h
  have hk : verb_kind.f a0 = some true := by
   unfold verb_kind.f; rw [if_pos hr.1, decide_eq_true hr.2]
  have HK := Aside0.mk hk; clear hk; have hI := verb_names.index a0 (by omega) (by omega); go_enter Tryd.func24, Tryd.ntmps24
  go_wp2_with (first | (go_at_call 52; (with_reducible refine (verb_kind.calls a0 true _ HK.out).mono ?_); rintro e w' ⟨rfl, ⟨nd, rfl⟩⟩) | (go_at_call 59; (with_reducible refine (verb_names.calls _).mono ?_); rintro e w1 ⟨rfl, hb⟩; have HB := Aside0.mk hb; clear hb))
  go_ret
  exact ⟨rfl, below_then (eN (Below.refl _ _) nd) (Nat.le_refl _) HB.out⟩
 ·rw [if_neg hr] at h; obtain rfl := Option.some.inj h; clear h
  have hk : verb_kind.f a0 = some false := by
   unfold verb_kind.f
   by_cases h1 : a0 ≥ 1
   ·rw [if_pos h1, decide_eq_false (by omega)]
   ·rw [if_neg h1]
  have HK := Aside0.mk hk; clear hk; go_enter Tryd.func24, Tryd.ntmps24
  go_wp2_with (first | (go_at_call 52; (with_reducible refine (verb_kind.calls a0 false _ HK.out).mono ?_); rintro e w' ⟨rfl, ⟨nd, rfl⟩⟩))
  go_ret
  exact ⟨rfl, eN (Below.refl _ _) nd⟩

end Go.Proofs.YtbfgopinbpbddaaDoor.P
