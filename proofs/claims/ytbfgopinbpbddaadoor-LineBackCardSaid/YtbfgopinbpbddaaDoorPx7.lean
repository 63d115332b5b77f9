/- Lean functions for the Go functions that the laws of this seat use, and the proofs that the Go code computes them; conditions: the readings that each theorem names. Written by a program. -/
import Derived.Test.YtbfgopinbpbddaaDoorPx0
import Derived.Test.YtbfgopinbpbddaaDoorPx1
import Derived.Test.YtbfgopinbpbddaaDoorPx5
import Derived.Test.YtbfgopinbpbddaaDoorShort
section
namespace Go.Proofs.YtbfgopinbpbddaaDoor.P
open Go.RowKit Go.Proofs.YtbfgopinbpbddaaDoorW.PrintWords Go.Proofs.YtbfgopinbpbddaaDoorW.PrintLast Go.Proofs.YtbfgopinbpbddaaDoorW.PrintMore
set_option linter.unusedVariables false
set_option linter.unusedSimpArgs false

-- HAND
-- FN tallboy/verb.Name
-- ROUNDS 0
-- MAKING 1
/-! ### verb.Name -/
def verb_Name.f (a0 : Int) : Option (ByteArray) := if 1 ≤ a0 ∧ a0 ≤ 15 then some (rdOf ByteArray.empty verb_names.l a0) else some ⟨#[]⟩
set_option maxHeartbeats 8000000 in
set_option maxRecDepth 100000 in
theorem verb_Name.calls (a0 : Int) (r : ByteArray) (w : World) (h : verb_Name.f a0 = some r) :
  Calls Tryd.prog 24 #[.int .i64 a0] w fun e w' => e = .returned (.string r) ∧ Below w.heap.size w w' := by
 unfold verb_Name.f at h
 by_cases hr : 1 ≤ a0 ∧ a0 ≤ 15
 ·rw [if_pos hr] at h; obtain rfl := Option.some.inj h; clear h
  have hk : verb_kind.f a0 = some true := by
   unfold verb_kind.f; rw [if_pos hr.1, decide_eq_true hr.2]
  have HK := Aside0.mk hk; clear hk; have hI := verb_names.index a0 (by omega) (by omega); go_enter Tryd.func24, Tryd.ntmps24
  go_wp2_with (first | (go_at_call 52; (with_reducible refine (verb_kind.calls a0 true _ HK.out).mono ?_); rintro e w' ⟨rfl, ⟨nd, rfl⟩⟩) | (go_at_call 59; (with_reducible refine (verb_names.calls _).mono ?_); rintro e w1 ⟨rfl, hb⟩; have HB := Aside0.mk hb; clear hb))
  go_ret
  exact ⟨rfl, below_then (eN (Below.refl _ _) nd) (Nat.le_refl _) HB.out⟩
 ·rw [if_neg hr] at h; obtain rfl := Option.some.inj h; clear h
  have hk : verb_kind.f a0 = some false := by
   unfold verb_kind.f
   by_cases h1 : a0 ≥ 1
   ·rw [if_pos h1, decide_eq_false (by omega)]
   ·rw [if_neg h1]
  have HK := Aside0.mk hk; clear hk; go_enter Tryd.func24, Tryd.ntmps24
  go_wp2_with (first | (go_at_call 52; (with_reducible refine (verb_kind.calls a0 false _ HK.out).mono ?_); rintro e w' ⟨rfl, ⟨nd, rfl⟩⟩))
  go_ret
  exact ⟨rfl, eN (Below.refl _ _) nd⟩

end Go.Proofs.YtbfgopinbpbddaaDoor.P
end
section
namespace Go.Proofs.YtbfgopinbpbddaaDoor.P
open Go.RowKit Go.Proofs.YtbfgopinbpbddaaDoorW.PrintWords Go.Proofs.YtbfgopinbpbddaaDoorW.PrintLast Go.Proofs.YtbfgopinbpbddaaDoorW.PrintMore
set_option linter.unusedVariables false
set_option linter.unusedSimpArgs false

/-! ### line_timed: function 25 -/
def line_timed.f (a0 : Int) : Option (Bool) := if a0 = 3 then (some true) else (some (a0 == 4))
set_option maxHeartbeats 8000000 in
set_option maxRecDepth 100000 in
theorem line_timed.calls (a0 : Int) (r : Bool) (w : World) (h : line_timed.f a0 = some r) :
  Calls Tryd.prog 25 #[.int .i64 a0] w fun e w' => e = .returned (.bool r) ∧ Drawn0 w w' := by
 have H : (if a0 = 3 then (some true) else (some (a0 == 4))) = some r := h; clear h
 by_cases c2 : a0 = 3
 ·rw [if_pos c2] at H; have c2b0 : (a0 == 3) = true := beq_iff_eq.mpr c2; have c2b1 : (a0 != 3) = false := bne_eq_false_iff_eq.mpr c2; clear c2; obtain rfl := Option.some.inj H; go_enter Tryd.func25, Tryd.ntmps25; go_wp2; go_ret
  exact ⟨by first | rfl | (simp; done) | (simp [*]; done), by repeat (first | exact Drawn0.refl _ | apply Drawn0.step)⟩
 ·rw [if_neg c2] at H; have c2b0 : (a0 == 3) = false := beq_eq_false_iff_ne.mpr c2; have c2b1 : (a0 != 3) = true := bne_iff_ne.mpr c2; obtain rfl := Option.some.inj H; go_enter Tryd.func25, Tryd.ntmps25; go_wp2; go_ret
  exact ⟨by first | rfl | (simp; done) | (simp [*]; done), by repeat (first | exact Drawn0.refl _ | apply Drawn0.step)⟩

-- NOT PRINTED: function 77 (strconv_small)

-- NOT PRINTED: function 87 (strconv_log10Pow2)

-- NOT PRINTED: function 88 (bits_Len64)

-- NOT PRINTED: function 89 (strconv_bool2_int)

-- NOT PRINTED: function 78 (strconv_numDigits)

-- NOT PRINTED: function 79 (strconv_formatBase10)

-- NOT PRINTED: function 90 (strconv_isPowerOfTwo)

-- NOT PRINTED: function 100 (bits_TrailingZeros32)

-- NOT PRINTED: function 101 (bits_TrailingZeros64)

-- NOT PRINTED: function 91 (bits_TrailingZeros)

-- NOT PRINTED: function 80 (strconv_formatBits)

-- NOT PRINTED: function 70 (strconv_FormatInt_70)

end Go.Proofs.YtbfgopinbpbddaaDoor.P
end
