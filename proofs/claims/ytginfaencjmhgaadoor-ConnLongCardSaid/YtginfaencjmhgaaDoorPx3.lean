/- Lean functions for the Go functions that the laws of this seat use, and the proofs that the Go code computes them; conditions: the readings that each theorem names. Written by a program. -/
import Derived.Test.YtginfaencjmhgaaDoorPx0
import Derived.Test.YtginfaencjmhgaaDoorShort
import Derived.Test.YtginfaencjmhgaaDoorLaws
namespace Go.Proofs.YtginfaencjmhgaaDoor.P
open Go.RowKit Go.Proofs.YtginfaencjmhgaaDoorW.PrintWords Go.Proofs.YtginfaencjmhgaaDoorW.PrintLast Go.Proofs.YtginfaencjmhgaaDoorW.PrintMore
attribute [local go_sem] min2_int min_two
set_option linter.unusedVariables false
set_option linter.unusedSimpArgs false

-- HAND
-- FN tallboy/verb.names
-- BARE 1
-- IMPORT Derived.Test.YtginfaencjmhgaaDoorLaws
/-! ### verb.names: an array of texts -/
def verb_names.l : List ByteArray := [⟨#[]⟩, ⟨#[103, 101, 116]⟩, ⟨#[103, 101, 116, 115]⟩, ⟨#[103, 97, 116]⟩, ⟨#[103, 97, 116, 115]⟩, ⟨#[115, 101, 116]⟩, ⟨#[97, 100, 100]⟩, ⟨#[114, 101, 112, 108, 97, 99, 101]⟩, ⟨#[97, 112, 112, 101, 110, 100]⟩, ⟨#[112, 114, 101, 112, 101, 110, 100]⟩, ⟨#[99, 97, 115]⟩, ⟨#[100, 101, 108, 101, 116, 101]⟩, ⟨#[105, 110, 99, 114]⟩, ⟨#[100, 101, 99, 114]⟩, ⟨#[116, 111, 117, 99, 104]⟩, ⟨#[102, 108, 117, 115, 104, 95, 97, 108, 108]⟩]
def verb_names.v : Array Value := #[.string ⟨#[]⟩, .string ⟨#[103, 101, 116]⟩, .string ⟨#[103, 101, 116, 115]⟩, .string ⟨#[103, 97, 116]⟩, .string ⟨#[103, 97, 116, 115]⟩, .string ⟨#[115, 101, 116]⟩, .string ⟨#[97, 100, 100]⟩, .string ⟨#[114, 101, 112, 108, 97, 99, 101]⟩, .string ⟨#[97, 112, 112, 101, 110, 100]⟩, .string ⟨#[112, 114, 101, 112, 101, 110, 100]⟩, .string ⟨#[99, 97, 115]⟩, .string ⟨#[100, 101, 108, 101, 116, 101]⟩, .string ⟨#[105, 110, 99, 114]⟩, .string ⟨#[100, 101, 99, 114]⟩, .string ⟨#[116, 111, 117, 99, 104]⟩, .string ⟨#[102, 108, 117, 115, 104, 95, 97, 108, 108]⟩]
theorem verb_names.at_ (i : Int) (h0 : 0 ≤ i) (h1 : i < 16) : verb_names.v[i.toNat]? = some (.string (rdOf ByteArray.empty verb_names.l i)) := by
 obtain ⟨n, rfl⟩ := Int.eq_ofNat_of_zero_le h0; rw [Int.toNat_natCast]; have hn : n < 16 := by omega
 unfold rdOf; rw [Int.toNat_natCast]
 match n, hn with
 | 0, _ => rfl
 | 1, _ => rfl
 | 2, _ => rfl
 | 3, _ => rfl
 | 4, _ => rfl
 | 5, _ => rfl
 | 6, _ => rfl
 | 7, _ => rfl
 | 8, _ => rfl
 | 9, _ => rfl
 | 10, _ => rfl
 | 11, _ => rfl
 | 12, _ => rfl
 | 13, _ => rfl
 | 14, _ => rfl
 | 15, _ => rfl
set_option maxRecDepth 100000 in
theorem verb_names.calls (w : World) : Calls Tryd.prog 42 #[] w fun e w' => e = .returned (.agg verb_names.v) ∧ Below w.heap.size w w' := by
 go_enter Tryd.func42, Tryd.ntmps42; go_wp2; exact bodyPost_ret (v := .agg verb_names.v) (by simp [results, Tryd.results42, go_sem, verb_names.v]) rfl ⟨rfl, (Below.refl _ _).alloc (Nat.le_refl _) _⟩
theorem verb_names.info : (Tryd.prog.info? 9).map (fun i => i.size) = some 1 := by kernel_rfl
theorem verb_names.index (i : Int) (h0 : 0 ≤ i) (h1 : i < 16) (w : World) : (Instr.index 79 (.agg verb_names.v) (.int .i64 i)).run Tryd.prog w = .ok (.string (rdOf ByteArray.empty verb_names.l i)) w := by
 obtain ⟨inf, hi, hs⟩ := Option.map_eq_some_iff.1 verb_names.info; exact Laws.run_index_strings 79 9 16 verb_names.v .i64 i _ Tryd.underlying79 Tryd.underlying9 hi hs h0 h1 (verb_names.at_ i h0 h1) w

end Go.Proofs.YtginfaencjmhgaaDoor.P
