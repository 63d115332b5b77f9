/- Lean functions for the Go functions that the laws of this seat use, and the proofs that the Go code computes them; conditions: the readings that each theorem names. Written by a program. -/
import Derived.Test.YtdgpagocccabdaaDoorPx0
import Derived.Test.YtdgpagocccabdaaDoorShort
import Derived.Test.YtdgpagocccabdaaDoorLd
import Derived.Test.YtdgpagocccabdaaDoorShelf
import Derived.Lib.Walk
import Derived.Lib.ItoaMem
import Derived.BigCall
import Derived.BigGuard
import Derived.WalkKit
import Derived.Test.YtdgpagocccabdaaDoorWAll
namespace Go.Proofs.YtdgpagocccabdaaDoor.P
open Go.RowKit Go.Proofs.YtdgpagocccabdaaDoorW.PrintWords Go.Proofs.YtdgpagocccabdaaDoorW.PrintLast Go.Proofs.YtdgpagocccabdaaDoorW.PrintMore
set_option linter.unusedVariables false
set_option linter.unusedSimpArgs false

-- HAND
-- FN strconv.FormatUint
-- ROUNDS 0
-- MAKING 1
-- LAID T
-- IMPORT Derived.Test.YtdgpagocccabdaaDoorLd
-- IMPORT Derived.Test.YtdgpagocccabdaaDoorShelf
-- IMPORT Derived.Lib.Walk
-- IMPORT Derived.Lib.ItoaMem
-- IMPORT Derived.BigCall
-- IMPORT Derived.BigGuard
-- IMPORT Derived.WalkKit
-- IMPORT Derived.Test.YtdgpagocccabdaaDoorWWords
/-! ### strconv.FormatUint at base 10 -/
def strconv_FormatUint_36.f (a0 a1 : Int) : Option (ByteArray) := if a1 = 10 ∧ 0 ≤ a0 ∧ a0 < 18446744073709551616 then some ⟨(Lib.itoa a0).toArray⟩ else none
open Go.Shelf Go.Sort Go.Lib in
set_option maxHeartbeats 6400000 in
set_option maxRecDepth 100000 in
theorem strconv_FormatUint_36.inner (u : Nat) (hu64 : u < 18446744073709551616) (w : World) (htab : Lib.TabIs Tryd.prog w "internal/strconv.uint64pow10" .u64 Lib.pow10Tab) :
  Calls Tryd.prog 46 #[.int .u64 (u : Int), .int .i64 10] w fun e w' => e = .returned (.string ⟨(Lib.decDigits u).toArray⟩) ∧ ∃ k os, w' = grow (w.drewN k) os := by
 by_cases hi : u < 100
 ·go_enter Tryd.func46, Tryd.ntmps46
  go_wp2_with (go_at_call 54; refine (Tryd.internal_strconv_small u hi _).mono ?_; rintro e w' ⟨rfl, rfl⟩)
  go_ret
  exact ⟨rfl, 0, #[], by simp [World.drewN_zero]⟩
 ·have hu1 : 1 ≤ u := by omega
  have hnd20 : Lib.nDigits u ≤ 20 := by have := Lib.numDigits_eq u hu1 hu64; split at this <;> omega
  have hb3 : Lib.nDigits u ≤ 24 := by omega
  have hal : Tryd.prog.arrayLen 96 = 24 := by kernel_rfl
  have hsl1 : ∀ W, (Instr.sliceAt 96 (.pointer (some ⟨w.heap.size, 0, none⟩)) none (some (.int .i64 (Lib.nDigits u : Int))) none).run Tryd.prog W = .ok (.slice (some ⟨w.heap.size, 0, none⟩) (Lib.nDigits u) 24) W := fun W => by
   rw [run_sliceAt_array_h W 96 ⟨w.heap.size, 0, none⟩ (by simp [Program.arrayLen, Program.elem, Tryd.underlying96]) .i64 (Lib.nDigits u : Int) (by omega) (by rw [hal]; omega)]
   go_simp
  have hH0 := Lib.holds_zero0 w 96 (Lib.nDigits u) hb3; have hfmt := Tryd.internal_strconv_formatBase10 w.heap.size 0 24 u (Array.replicate (Lib.nDigits u) 0) (w.alloc (.cells Lib.zeros24 96)) hH0 (by rw [Array.size_replicate]; exact Lib.lt_pow_nDigits u) hu64 (by rw [Array.size_replicate]; omega); rw [Array.size_replicate] at hfmt; have HH0 := Lib.hid hH0; clear hH0 hal; go_enter Tryd.func46, Tryd.ntmps46
  go_wp2_with (first
   | (go_at_call 55; refine (Tryd.internal_strconv_numDigits u hu1 hu64 _ (Lib.tabIs_alloc htab _)).mono ?_; rintro e w' ⟨rfl, rfl⟩))
  go_at_call 56
  refine hfmt.mono ?_
  rintro e w' ⟨rfl, k, v', dk, rfl, hF⟩
  have hcv : (convert 57 9 (.slice (some ⟨w.heap.size, 0, none⟩) (Lib.nDigits u) 24)).run Tryd.prog ((putRow (fun (b : UInt8) => Value.int .u8 (b.toNat : Int)) (w.alloc (.cells Lib.zeros24 96)) w.heap.size 0 dk).drewN k) = .ok (.string ⟨(Lib.decDigits u).toArray⟩) ((putRow (fun (b : UInt8) => Value.int .u8 (b.toNat : Int)) (w.alloc (.cells Lib.zeros24 96)) w.heap.size 0 dk).drewN k) := by
   have h := run_convert_bytes_back (P := Tryd.prog) ((putRow (fun (b : UInt8) => Value.int .u8 (b.toNat : Int)) (w.alloc (.cells Lib.zeros24 96)) w.heap.size 0 dk).drewN k) 57 9 5 ⟨w.heap.size, 0, none⟩ 24 (Lib.decDigits u) Tryd.underlying57 Tryd.underlying5 Tryd.underlying9 (fun j hj => by
    rw [Lib.row_is_numeral hF j hj, Lib.add_plain, World.cell?_drewN]; exact cell?_putRow (fun (b : UInt8) => Value.int .u8 (b.toNat : Int)) _ w.heap.size 0 _ dk HH0.out (by rw [hF.size, Array.size_replicate]) j (by rw [hF.size]; rw [Lib.decDigits_length] at hj; exact hj))
   rw [Lib.decDigits_length] at h; exact h
  go_wp2; go_ret
  obtain ⟨os', _, eo⟩ := putRow_grow_new (fun (b : UInt8) => Value.int .u8 (b.toNat : Int)) w #[.cells Lib.zeros24 96] w.heap.size 0 dk (Nat.le_refl _); refine ⟨rfl, k, os', ?_⟩
  rw [alloc_eq_grow, eo]
  rfl
theorem strconv_FormatUint_36.calls (a0 a1 : Int) (r : ByteArray) (w : World) (h : strconv_FormatUint_36.f a0 a1 = some r) (hL : LdT w) :
  Calls Tryd.prog 36 #[.int .u64 a0, .int .i64 a1] w fun e w' => e = .returned (.string r) ∧ Below w.heap.size w w' := by
 unfold strconv_FormatUint_36.f at h
 by_cases h1 : a1 = 10 ∧ 0 ≤ a0 ∧ a0 < 18446744073709551616
 ·rw [if_pos h1] at h; obtain ⟨rfl, g0, g1⟩ := h1; obtain rfl := Option.some.inj h; obtain ⟨u, rfl⟩ := Int.eq_ofNat_of_zero_le g0; go_enter Tryd.func36, Tryd.ntmps36
  go_wp2_with (go_at_call 46; refine (strconv_FormatUint_36.inner u (by omega) _ hL).mono ?_; rintro e w' ⟨rfl, k, os, rfl⟩)
  go_ret
  refine ⟨?_, Lib.below_grow w.heap.size w (Nat.le_refl _) k os⟩
  rw [Lib.itoa_nonneg]
  rfl
 ·rw [if_neg h1] at h; cases h

end Go.Proofs.YtdgpagocccabdaaDoor.P
