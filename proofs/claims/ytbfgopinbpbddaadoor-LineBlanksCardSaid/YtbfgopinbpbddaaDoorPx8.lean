/- Lean functions for the Go functions that the laws of this seat use, and the proofs that the Go code computes them; conditions: the readings that each theorem names. Written by a program. -/
import Derived.Test.YtbfgopinbpbddaaDoorPx0
import Derived.Test.YtbfgopinbpbddaaDoorShort
import Derived.Test.YtbfgopinbpbddaaDoorLd
import Derived.Test.YtbfgopinbpbddaaDoorShelf
import Derived.Lib.Walk
import Derived.Lib.ItoaMem
import Derived.BigCall
import Derived.BigGuard
import Derived.WalkKit
import Derived.Test.YtbfgopinbpbddaaDoorWAll
namespace Go.Proofs.YtbfgopinbpbddaaDoor.P
open Go.RowKit Go.Proofs.YtbfgopinbpbddaaDoorW.PrintWords Go.Proofs.YtbfgopinbpbddaaDoorW.PrintLast Go.Proofs.YtbfgopinbpbddaaDoorW.PrintMore
set_option linter.unusedVariables false
set_option linter.unusedSimpArgs false

-- HAND
-- FN strconv.FormatInt
-- ROUNDS 0
-- MAKING 1
-- LAID T
-- IMPORT Derived.Test.YtbfgopinbpbddaaDoorLd
-- IMPORT Derived.Test.YtbfgopinbpbddaaDoorShelf
-- IMPORT Derived.Lib.Walk
-- IMPORT Derived.Lib.ItoaMem
-- IMPORT Derived.BigCall
-- IMPORT Derived.BigGuard
-- IMPORT Derived.WalkKit
-- IMPORT Derived.Test.YtbfgopinbpbddaaDoorWWords
/-! ### strconv.FormatInt at base 10 -/
def strconv_FormatInt_60.f (a0 a1 : Int) : Option (ByteArray) := if a1 = 10 ∧ -9223372036854775808 ≤ a0 ∧ a0 ≤ 9223372036854775807 then some ⟨(Lib.itoa a0).toArray⟩ else none
theorem strconv_FormatInt_60.calls (a0 a1 : Int) (r : ByteArray) (w : World) (h : strconv_FormatInt_60.f a0 a1 = some r) (hL : LdT w) :
  Calls Tryd.prog 60 #[.int .i64 a0, .int .i64 a1] w fun e w' => e = .returned (.string r) ∧ Below w.heap.size w w' := by
 unfold strconv_FormatInt_60.f at h
 by_cases h1 : a1 = 10 ∧ -9223372036854775808 ≤ a0 ∧ a0 ≤ 9223372036854775807
 ·rw [if_pos h1] at h; obtain ⟨rfl, g0, g1⟩ := h1; obtain rfl := Option.some.inj h; refine (Tryd.strconv_FormatInt_10 a0 g0 g1 w hL).mono ?_
  rintro e w' ⟨rfl, k, os, rfl⟩
  exact ⟨rfl, Lib.below_grow w.heap.size w (Nat.le_refl _) k os⟩
 ·rw [if_neg h1] at h; cases h

end Go.Proofs.YtbfgopinbpbddaaDoor.P
