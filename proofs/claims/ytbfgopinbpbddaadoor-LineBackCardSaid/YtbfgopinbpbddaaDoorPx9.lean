/- Lean functions for the Go functions that the laws of this seat use, and the proofs that the Go code computes them; conditions: the readings that each theorem names. Written by a program. -/
import Derived.Test.YtbfgopinbpbddaaDoorPx0
import Derived.Test.YtbfgopinbpbddaaDoorShort
import Derived.Test.YtbfgopinbpbddaaDoorLdr
import Derived.Test.YtbfgopinbpbddaaDoorShelf
import Derived.Lib.Walk
import Derived.Lib.ItoaMem
import Derived.BigCall
import Derived.BigGuard
import Derived.WalkKit
import Derived.Test.YtbfgopinbpbddaaDoorWAll
section
namespace Go.Proofs.YtbfgopinbpbddaaDoor.P
open Go.RowKit Go.Proofs.YtbfgopinbpbddaaDoorW.PrintWords Go.Proofs.YtbfgopinbpbddaaDoorW.PrintLast Go.Proofs.YtbfgopinbpbddaaDoorW.PrintMore
set_option linter.unusedVariables false
set_option linter.unusedSimpArgs false

-- HAND
-- FN strconv.FormatInt
-- ROUNDS 0
-- MAKING 1
-- LAID T
-- IMPORT Derived.Test.YtbfgopinbpbddaaDoorLd
-- IMPORT Derived.Test.YtbfgopinbpbddaaDoorShelf
-- IMPORT Derived.Lib.Walk
-- IMPORT Derived.Lib.ItoaMem
-- IMPORT Derived.BigCall
-- IMPORT Derived.BigGuard
-- IMPORT Derived.WalkKit
-- IMPORT Derived.Test.YtbfgopinbpbddaaDoorWWords
/-! ### strconv.FormatInt at base 10 -/
def strconv_FormatInt_60.f (a0 a1 : Int) : Option (ByteArray) := if a1 = 10 ∧ -9223372036854775808 ≤ a0 ∧ a0 ≤ 9223372036854775807 then some ⟨(Lib.itoa a0).toArray⟩ else none
theorem strconv_FormatInt_60.calls (a0 a1 : Int) (r : ByteArray) (w : World) (h : strconv_FormatInt_60.f a0 a1 = some r) (hL : LdT w) :
  Calls Tryd.prog 60 #[.int .i64 a0, .int .i64 a1] w fun e w' => e = .returned (.string r) ∧ Below w.heap.size w w' := by
 unfold strconv_FormatInt_60.f at h
 by_cases h1 : a1 = 10 ∧ -9223372036854775808 ≤ a0 ∧ a0 ≤ 9223372036854775807
 ·rw [if_pos h1] at h; obtain ⟨rfl, g0, g1⟩ := h1; obtain rfl := Option.some.inj h; refine (Tryd.strconv_FormatInt_10 a0 g0 g1 w hL).mono ?_
  rintro e w' ⟨rfl, k, os, rfl⟩
  exact ⟨rfl, Lib.below_grow w.heap.size w (Nat.le_refl _) k os⟩
 ·rw [if_neg h1] at h; cases h

end Go.Proofs.YtbfgopinbpbddaaDoor.P
end
section
namespace Go.Proofs.YtbfgopinbpbddaaDoor.P
open Go.RowKit Go.Proofs.YtbfgopinbpbddaaDoorW.PrintWords Go.Proofs.YtbfgopinbpbddaaDoorW.PrintLast Go.Proofs.YtbfgopinbpbddaaDoorW.PrintMore
set_option linter.unusedVariables false
set_option linter.unusedSimpArgs false

/-! ### digits_TextSigned: function 26 -/
def digits_TextSigned.f (a0 : Int) : Option (ByteArray) := (strconv_FormatInt_60.f a0 10).bind fun t115 => (some t115)
set_option maxHeartbeats 8000000 in
set_option maxRecDepth 100000 in
theorem digits_TextSigned.calls (a0 : Int) (r : ByteArray) (w : World) (h : digits_TextSigned.f a0 = some r) (hL : LdT w) :
  Calls Tryd.prog 26 #[.int .i64 a0] w fun e w' => e = .returned (.string r) ∧ Below w.heap.size w w' := by
 have HL := Aside0.mk hL; clear hL; have HB := Aside0.mk (Below.refl w.heap.size w); have H : ((strconv_FormatInt_60.f a0 10).bind fun t115 => (some t115)) = some r := h; clear h; replace H := Option.bind_eq_some_iff.mp H; obtain ⟨t115, A20, H⟩ := H; (try dsimp only at H); have A2 := Aside0.mk A20; clear A20; obtain rfl := Option.some.inj H; go_enter Tryd.func26, Tryd.ntmps26
 go_wp2_with (first | ((with_reducible refine gate_callee (f := 60) rfl ?_); refine goesL_ (some 4) rfl rfl Tryd.func60 (by kernel_rfl) rfl #[.int .i64 a0, .int .i64 10] rfl (by (try simp only [List.map_toArray, List.map_cons, List.map_nil]); first | done | rfl | (simp only [List.length_drop, List.length_take]; rfl)) ?_; (with_reducible refine (strconv_FormatInt_60.calls a0 10 t115 _ A2.out (by first | exact HL.out | exact LdT.on HL.out (bH HB.out))).mono ?_); rintro e w3 ⟨rfl, hb⟩; refine ⟨_, rfl, ?_⟩; replace HB := rS HB hb; (try clear hb); ))
 go_ret
 exact ⟨xR, bH HB.out⟩

-- NOT PRINTED: function 71 (strconv_FormatUint_71)

end Go.Proofs.YtbfgopinbpbddaaDoor.P
end
