/- Numbers in writing: the program's Text and Parse and the document's are the same plain functions (written by mk/reply_dig.py out of Dig). Conditions: numbers of 64 bits; texts of at most 140737488351232 bytes. -/
import Derived.Test.YtdgpagocccabdaaDoorPl
import Derived.Test.YtdgpagocccabdaaDoorLmD
import Derived.Test.YtdgpagocccabdaaDoorPx4
import Derived.Test.YtdgpagocccabdaaDoorPx14
import Derived.Lib.ItoaLen
import Derived.Lib.ItoaMem
import Derived.Lib.ParseIntBCases
namespace Go.Proofs.YtdgpagocccabdaaDoor.Pl
set_option linter.unusedVariables false
open Go Go.RowKit Go.Proofs.YtdgpagocccabdaaDoor.P Go.Proofs.YtdgpagocccabdaaDoor.Lim Go.Proofs.YtdgpagocccabdaaDoorW.PrintWords

def textV (u : Nat) : ByteArray := ⟨(Lib.decDigits u).toArray⟩
def digB (u : Nat) : ByteArray := ⟨#[UInt8.ofNat (48 + u)]⟩
theorem text_eq (u : Nat) (h : u < 18446744073709551616) : digits_Text.f (u : Int) = some (textV u) := by
  unfold digits_Text.f strconv_FormatUint_36.f
  rw [if_pos ⟨rfl, by omega, by omega⟩, Option.bind_some, Lib.itoa_nonneg]
  rfl
theorem text_small (u : Nat) (h : u < 10) : textV u = digB u := by
  unfold textV digB
  rw [Lib.decDigits_one h]
theorem text_big (u : Nat) (h : ¬ u < 10) : textV u = textV (u / 10) ++ digB (u % 10) := by
  apply ByteArray.ext
  apply Array.toList_inj.1
  unfold textV digB
  rw [Lib.decDigits, dif_neg h]
  simp
theorem text_size (u : Nat) : (textV u).size = Lib.nDigits u := by
  rw [← Lib.decDigits_length]
  simp [textV, ByteArray.size]
theorem dig_of (u : Nat) : (strOfNums [(IntKind.u64.wrap (48 + (Int.tmod (u : Int) 10))) % 256]) = digB (u % 10) := by
  have e : (IntKind.u64.wrap (48 + (Int.tmod (u : Int) 10))) % 256 = ((48 + u % 10 : Nat) : Int) := by
    rw [Int.tmod_eq_emod_of_nonneg (by omega), IntKind.wrap_u64]
    omega
  rw [e]
  rfl
theorem tdiv10 (u : Nat) (h : u < 18446744073709551616) : IntKind.u64.wrap (Int.tdiv (u : Int) 10) = ((u / 10 : Nat) : Int) := by
  rw [Int.tdiv_eq_ediv_of_nonneg (by omega), IntKind.wrap_u64]
  omega
theorem text_loop (n : Nat) : ∀ (u : Nat) (acc : ByteArray), u ≤ n → u < 18446744073709551616 → acc.size + Lib.nDigits u ≤ 1000 → tallboyref02_Text.l0L (u : Int) acc = some (if u = 0 then acc else textV u ++ acc) := by
  induction n with
  | zero =>
    intro u acc hu _ _
    obtain rfl : u = 0 := by omega
    rw [tallboyref02_Text.l0L_eq, if_neg (by decide), if_pos rfl]
  | succ n ih =>
    intro u acc hu h64 hs
    rw [tallboyref02_Text.l0L_eq]
    by_cases h0 : u = 0
    · rw [if_neg (by omega), if_pos h0]
    · have hz : (digB (u % 10)).size = 1 := rfl
      have hp := Lib.nDigits_pos u
      rw [if_pos (by omega), Option.bind_some, dig_of, if_pos (by omega), tdiv10 u h64, if_neg h0]
      by_cases h10 : u < 10
      · have e : u / 10 = 0 := by omega
        rw [e, tallboyref02_Text.l0L_eq, if_neg (by decide), text_small u h10, show u % 10 = u by omega]
      · rw [ih (u / 10) _ (by omega) (by omega) (by rw [ByteArray.size_append, hz]; rw [Lib.nDigits_big h10] at hs; omega), if_neg (by omega), text_big u h10, ByteArray.append_assoc]
theorem rtext_eq (u : Nat) (h : u < 18446744073709551616) : tallboyref02_Text.L (u : Int) = some (textV u) := by
  have hl := Lib.nDigits_le20 u h
  have hz : (digB (u % 10)).size = 1 := rfl
  rw [tallboyref02_Text.L_eq, tdiv10 u h, dig_of]
  by_cases h10 : u < 10
  · have e : u / 10 = 0 := by omega
    rw [e, text_loop 0 0 _ (by omega) (by omega) (by rw [hz, Lib.nDigits_small (by decide)]; omega), if_pos rfl, text_small u h10, show u % 10 = u by omega]
  · rw [Lib.nDigits_big h10] at hl
    rw [text_loop u (u / 10) _ (by omega) (by omega) (by rw [hz]; omega), if_neg (by omega), text_big u h10]
/-! ### Signed -/
end Go.Proofs.YtdgpagocccabdaaDoor.Pl
