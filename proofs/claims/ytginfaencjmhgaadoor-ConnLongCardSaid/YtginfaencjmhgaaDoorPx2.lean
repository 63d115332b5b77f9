/- Lean functions for the Go functions that the laws of this seat use, and the proofs that the Go code computes them; conditions: the readings that each theorem names. Written by a program. -/
import Derived.Test.YtginfaencjmhgaaDoorPx0
import Derived.Test.YtginfaencjmhgaaDoorShort
import Derived.Test.YtginfaencjmhgaaDoorShelf
import Derived.Test.YtginfaencjmhgaaDoorWAll
namespace Go.Proofs.YtginfaencjmhgaaDoor.P
open Go.RowKit Go.Proofs.YtginfaencjmhgaaDoorW.PrintWords Go.Proofs.YtginfaencjmhgaaDoorW.PrintLast Go.Proofs.YtginfaencjmhgaaDoorW.PrintMore
attribute [local go_sem] min2_int min_two
set_option linter.unusedVariables false
set_option linter.unusedSimpArgs false

-- HAND
-- FN tallboy/line.Words
-- ROUNDS 0
-- MAKING 1
-- IMPORT Derived.Test.YtginfaencjmhgaaDoorShelf
-- IMPORT Derived.Test.YtginfaencjmhgaaDoorWMore
/-! ### line.Words, by the shelf's contract of strings.FieldsFunc -/
def blankP (x : Nat) : Bool := x == 32
def line_Words.f (a0 : ByteArray) : Option (List ByteArray) := if a0.size ≤ 1000000 then some (Lib.goFieldsP blankP a0) else none
set_option maxHeartbeats 1000000 in
theorem line_Words.clo (x : Nat) (hx : x ≤ 1114111) (W : World) : Calls Tryd.prog 41 #[encR x] W fun e w' => e = .returned (.bool (blankP x)) ∧ w' = W := by
 by_cases h : x = 32
 ·subst h; go_enter Tryd.func41, Tryd.ntmps41; go_wp2; go_ret
  exact ⟨rfl, rfl⟩
 ·have hb : ((x : Int) == 32) = false := beq_eq_false_iff_ne.2 (by omega); have hb2 : blankP x = false := beq_eq_false_iff_ne.2 h; rw [hb2]; unfold encR; clear hb2; go_enter Tryd.func41, Tryd.ntmps41; go_wp2; go_ret
  exact ⟨rfl, rfl⟩
set_option maxHeartbeats 1000000 in
set_option maxRecDepth 100000 in
theorem line_Words.calls (a0 : ByteArray) (r : List ByteArray) (w : World) (h : line_Words.f a0 = some r) :
  Calls Tryd.prog 29 #[.string a0] w fun e w' => ∃ v0_ : Value, e = .returned (v0_) ∧ Kd.R Kd.string 9 w' w.heap.size (fun _ => True) v0_ r ∧ Below w.heap.size w w' := by
 unfold line_Words.f at h
 split at h
 ·rename_i hs
  obtain rfl := Option.some.inj h; have hp : PredAtRunes Tryd.prog 41 #[] blankP w := fun W x hx _ => (line_Words.clo x hx W).mono fun e w' ⟨he, hw⟩ => ⟨he, 0, hw⟩
  have HP := Aside0.mk hp; have HS : Aside0 (a0.size ≤ 4294967296) := ⟨by omega⟩; clear hp h hs; go_enter Tryd.func29, Tryd.ntmps29
  go_wp2_with (first | (go_at_call 40; (with_reducible refine (Tryd.strings_FieldsFunc_runes 41 #[] (fun args w => enters_ Tryd.func41 (by kernel_rfl) rfl args w) blankP a0 w HS.out HP.out).mono ?_); rintro e w' ⟨A, rfl, hA, hown, hb⟩))
  go_ret
  exact ⟨_, rfl, Kd.R_of_own hown (fun _ _ => trivial), hb⟩
 ·cases h

end Go.Proofs.YtginfaencjmhgaaDoor.P
