/- Lean functions for the Go functions that the laws of this seat use, and the proofs that the Go code computes them; conditions: the readings that each theorem names. Written by a program. -/
import Derived.Test.YtdepkgikdmlgiaaPx0
import Derived.Test.YtdepkgikdmlgiaaShort
namespace Go.Proofs.Ytdepkgikdmlgiaa.P
open Go.RowKit Go.Proofs.YtdepkgikdmlgiaaW.PrintWords Go.Proofs.YtdepkgikdmlgiaaW.PrintLast Go.Proofs.YtdepkgikdmlgiaaW.PrintMore
set_option linter.unusedVariables false
set_option linter.unusedSimpArgs false

/-! ### tallboylaw29_Great: function 11 -/
/-! ### frame_fits: function 37 -/
def frame_fits.f (a0 : Int) (a1 : Int) (a2 : Int) : Option (Bool) := if a0 ≤ 250 then (if a1 ≤ 20 then (some (decide (a2 ≤ 1048576))) else (some false)) else (some false)
set_option maxHeartbeats 8000000 in
set_option maxRecDepth 100000 in
theorem frame_fits.calls (a0 : Int) (a1 : Int) (a2 : Int) (r : Bool) (w : World) (h : frame_fits.f a0 a1 a2 = some r) :
  Calls Try.prog 37 #[.int .i64 a0, .int .i64 a1, .int .i64 a2] w fun e w' => e = .returned (.bool r) ∧ Drawn0 w w' := by
 have H : (if a0 ≤ 250 then (if a1 ≤ 20 then (some (decide (a2 ≤ 1048576))) else (some false)) else (some false)) = some r := h; clear h
 by_cases c4 : a0 ≤ 250
 ·rw [if_pos c4] at H; have c4b0 : decide (a0 ≤ 250) = true := decide_eq_true c4; clear c4
  by_cases c5 : a1 ≤ 20
  ·rw [if_pos c5] at H; have c5b0 : decide (a1 ≤ 20) = true := decide_eq_true c5; clear c5; obtain rfl := Option.some.inj H; go_enter Try.func37, Try.ntmps37; go_wp2; go_ret
   exact ⟨by first | rfl | (simp; done) | (simp [*]; done), by repeat (first | exact Drawn0.refl _ | apply Drawn0.step)⟩
  ·rw [if_neg c5] at H; have c5b0 : decide (a1 ≤ 20) = false := decide_eq_false c5; clear c5; obtain rfl := Option.some.inj H; go_enter Try.func37, Try.ntmps37; go_wp2; go_ret
   exact ⟨by first | rfl | (simp; done) | (simp [*]; done), by repeat (first | exact Drawn0.refl _ | apply Drawn0.step)⟩
 ·rw [if_neg c4] at H; have c4b0 : decide (a0 ≤ 250) = false := decide_eq_false c4; clear c4; obtain rfl := Option.some.inj H; go_enter Try.func37, Try.ntmps37; go_wp2; go_ret
  exact ⟨by first | rfl | (simp; done) | (simp [*]; done), by repeat (first | exact Drawn0.refl _ | apply Drawn0.step)⟩

/-! ### frame_put: function 38 -/
end Go.Proofs.Ytdepkgikdmlgiaa.P
