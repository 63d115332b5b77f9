/- Lean functions for the Go functions that the laws of this seat use, and the proofs that the Go code computes them; conditions: the readings that each theorem names. Written by a program. -/
import Derived.Test.YtginfaencjmhgaaDoorPx0
import Derived.Test.YtginfaencjmhgaaDoorShort
namespace Go.Proofs.YtginfaencjmhgaaDoor.P
open Go.RowKit Go.Proofs.YtginfaencjmhgaaDoorW.PrintWords Go.Proofs.YtginfaencjmhgaaDoorW.PrintLast Go.Proofs.YtginfaencjmhgaaDoorW.PrintMore
attribute [local go_sem] min2_int min_two
set_option linter.unusedVariables false
set_option linter.unusedSimpArgs false

-- HAND
-- FN tallboy/line.words
-- ROUNDS 0
-- MAKING 0
/-! ### line.words -/
def line_words.v (k : Int) : Int := if k = 10 then 6 else if 5 ≤ k ∧ k ≤ 9 then 5 else if 12 ≤ k ∧ k ≤ 14 then 3 else if k = 11 then 2 else 1
def line_words.f (a0 : Int) : Option (Int) := some (line_words.v a0)
set_option maxHeartbeats 1000000 in
theorem line_words.calls (a0 : Int) (r : Int) (w : World) (h : line_words.f a0 = some r) :
  Calls Tryd.prog 32 #[.int .i64 a0] w fun e w' => e = .returned (.int .i64 r) ∧ Drawn0 w w' := by
 have h := Option.some.inj h
 by_cases hk : 5 ≤ a0 ∧ a0 ≤ 14
 ·obtain ⟨n, rfl⟩ := Int.eq_ofNat_of_zero_le (show 0 ≤ a0 by omega); have h1 : 5 ≤ n := by omega
  have h2 : n ≤ 14 := by omega
  clear hk
  match n, h1, h2 with
  | 5, _, _ | 6, _, _ | 7, _, _ | 8, _, _ | 9, _, _ | 10, _, _ | 11, _, _ | 12, _, _ | 13, _, _ | 14, _, _ =>
   subst h; go_enter Tryd.func32, Tryd.ntmps32; go_wp2; go_ret
   exact ⟨by rfl, Drawn0.refl _⟩
 ·have hr : r = 1 := by
   rw [← h]; unfold line_words.v; rw [if_neg (by omega), if_neg (by omega), if_neg (by omega), if_neg (by omega)]
  subst hr; have b5 : (a0 == 5) = false := beq_eq_false_iff_ne.2 (by omega); have b6 : (a0 == 6) = false := beq_eq_false_iff_ne.2 (by omega); have b7 : (a0 == 7) = false := beq_eq_false_iff_ne.2 (by omega); have b8 : (a0 == 8) = false := beq_eq_false_iff_ne.2 (by omega); have b9 : (a0 == 9) = false := beq_eq_false_iff_ne.2 (by omega); have b10 : (a0 == 10) = false := beq_eq_false_iff_ne.2 (by omega); have b11 : (a0 == 11) = false := beq_eq_false_iff_ne.2 (by omega); have b12 : (a0 == 12) = false := beq_eq_false_iff_ne.2 (by omega); have b13 : (a0 == 13) = false := beq_eq_false_iff_ne.2 (by omega); have b14 : (a0 == 14) = false := beq_eq_false_iff_ne.2 (by omega); clear hk h; go_enter Tryd.func32, Tryd.ntmps32; go_wp2; go_ret
  exact ⟨rfl, Drawn0.refl _⟩

end Go.Proofs.YtginfaencjmhgaaDoor.P
