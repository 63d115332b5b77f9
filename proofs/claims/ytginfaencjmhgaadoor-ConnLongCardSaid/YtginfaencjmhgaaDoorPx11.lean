/- Lean functions for the Go functions that the laws of this seat use, and the proofs that the Go code computes them; conditions: the readings that each theorem names. Written by a program. -/
import Derived.Test.YtginfaencjmhgaaDoorPx0
import Derived.Test.YtginfaencjmhgaaDoorShort
namespace Go.Proofs.YtginfaencjmhgaaDoor.P
open Go.RowKit Go.Proofs.YtginfaencjmhgaaDoorW.PrintWords Go.Proofs.YtginfaencjmhgaaDoorW.PrintLast Go.Proofs.YtginfaencjmhgaaDoorW.PrintMore
attribute [local go_sem] min2_int min_two
set_option linter.unusedVariables false
set_option linter.unusedSimpArgs false

/-! ### verb_Stores: function 33 -/
def verb_Stores.f (a0 : Int) : Option (Bool) := if a0 ≥ 5 then (some (decide (a0 ≤ 10))) else (some false)
set_option maxHeartbeats 8000000 in
set_option maxRecDepth 100000 in
theorem verb_Stores.calls (a0 : Int) (r : Bool) (w : World) (h : verb_Stores.f a0 = some r) :
  Calls Tryd.prog 33 #[.int .i64 a0] w fun e w' => e = .returned (.bool r) ∧ Drawn0 w w' := by
 have H : (if a0 ≥ 5 then (some (decide (a0 ≤ 10))) else (some false)) = some r := h; clear h
 by_cases c2 : a0 ≥ 5
 ·rw [if_pos c2] at H; have c2b0 : decide (5 ≤ a0) = true := decide_eq_true c2; clear c2; obtain rfl := Option.some.inj H; go_enter Tryd.func33, Tryd.ntmps33; go_wp2; go_ret
  exact ⟨by first | rfl | (simp; done) | (simp [*]; done), by repeat (first | exact Drawn0.refl _ | apply Drawn0.step)⟩
 ·rw [if_neg c2] at H; have c2b0 : decide (5 ≤ a0) = false := decide_eq_false c2; clear c2; obtain rfl := Option.some.inj H; go_enter Tryd.func33, Tryd.ntmps33; go_wp2; go_ret
  exact ⟨by first | rfl | (simp; done) | (simp [*]; done), by repeat (first | exact Drawn0.refl _ | apply Drawn0.step)⟩

-- NOT PRINTED: function 37 (line_reader_number)

-- NOT PRINTED: function 34 (line_stores)

end Go.Proofs.YtginfaencjmhgaaDoor.P
