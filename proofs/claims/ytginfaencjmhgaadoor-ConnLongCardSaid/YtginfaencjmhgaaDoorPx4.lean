/- Lean functions for the Go functions that the laws of this seat use, and the proofs that the Go code computes them; conditions: the readings that each theorem names. Written by a program. -/
import Derived.Test.YtginfaencjmhgaaDoorPx0
import Derived.Test.YtginfaencjmhgaaDoorPx3
import Derived.Test.YtginfaencjmhgaaDoorShort
namespace Go.Proofs.YtginfaencjmhgaaDoor.P
open Go.RowKit Go.Proofs.YtginfaencjmhgaaDoorW.PrintWords Go.Proofs.YtginfaencjmhgaaDoorW.PrintLast Go.Proofs.YtginfaencjmhgaaDoorW.PrintMore
attribute [local go_sem] min2_int min_two
set_option linter.unusedVariables false
set_option linter.unusedSimpArgs false

-- HAND
-- FN tallboy/verb.Kind
-- ROUNDS 0
-- MAKING 1
/-! ### verb.Kind -/
def verb_Kind.v (a : ByteArray) : Nat → Nat → Int
 | 0, _ => 0
 | m + 1, k => if (rdOf ByteArray.empty verb_names.l k).toList = a.toList then (k : Int) else verb_Kind.v a m (k + 1)
def verb_Kind.f (a0 : ByteArray) : Option (Int) := some (verb_Kind.v a0 16 0)
set_option maxHeartbeats 8000000 in
set_option maxRecDepth 100000 in
theorem verb_Kind.calls (a0 : ByteArray) (r : Int) (w : World) (h : verb_Kind.f a0 = some r) :
  Calls Tryd.prog 30 #[.string a0] w fun e w' => e = .returned (.int .i64 r) ∧ Below w.heap.size w w' := by
 have HV := Aside0.mk (Option.some.inj h); clear h; go_enter Tryd.func30, Tryd.ntmps30
 go_wp2_with (first | (go_at_call 42; (with_reducible refine (verb_names.calls _).mono ?_); rintro e w1 ⟨rfl, hb⟩; have HB := Aside0.mk hb; clear hb))
 go_loop [6] (fun i => ∃ k : Nat, k ≤ 16 ∧ i = .int .i64 k ∧ Aside0 (verb_Kind.v a0 (16 - k) k = r)) (fun i => 16 - (intOf i).toNat)
 case atStart => exact ⟨0, Nat.zero_le _, rfl, HV⟩
 case round =>
  obtain ⟨k, hk, rfl, HR⟩ := hrel
  by_cases hlt : k < 16
  ·have hI := verb_names.index k (by omega) (by omega); obtain ⟨m, hm⟩ : ∃ m, 16 - k = m + 1 := ⟨15 - k, by omega⟩; have HM := Aside0.mk hm; clear hm; have h1 := HR.out; rw [HM.out] at h1; simp only [verb_Kind.v] at h1; generalize hnk : rdOf ByteArray.empty verb_names.l (k : Int) = nk at h1 hI; clear hnk
   by_cases he : nk.toList = a0.toList
   ·rw [if_pos he] at h1; have heb : (nk.toList == a0.toList) = true := beq_iff_eq.2 he; clear he; have HE := Aside0.mk h1; clear h1; go_wp2; go_ret
    exact ⟨by rw [HE.out]; rfl, HB.out⟩
   ·rw [if_neg he] at h1; have heb : (nk.toList == a0.toList) = false := beq_eq_false_iff_ne.2 he; clear he; have HE := Aside0.mk h1; clear h1; go_wp2
    go_round
    case rel => exact ⟨k + 1, by omega, by go_num, ⟨by rw [show 16 - (k + 1) = m by have := HM.out; omega]; exact HE.out⟩⟩
    case measure => simp [intOf]; omega
  ·have h1 := HR.out; rw [show 16 - k = 0 by omega] at h1; simp only [verb_Kind.v] at h1; have HE := Aside0.mk h1; clear h1; go_wp2; go_ret
   exact ⟨by rw [HE.out]; rfl, HB.out⟩

end Go.Proofs.YtginfaencjmhgaaDoor.P
