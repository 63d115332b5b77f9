/- Numbers in writing: the program's Text and Parse and the document's are the same plain functions (written by mk/reply_dig.py out of Dig). Conditions: numbers of 64 bits; texts of at most 140737488351232 bytes. -/
import Derived.Test.YtdgpagocccabdaaDoorPl
import Derived.Test.YtdgpagocccabdaaDoorLmD
import Derived.Test.YtdgpagocccabdaaDoorPx5
import Derived.Test.YtdgpagocccabdaaDoorPx17
import Derived.Lib.ItoaLen
import Derived.Lib.ItoaMem
import Derived.Lib.ParseIntBCases
namespace Go.Proofs.YtdgpagocccabdaaDoor.Pl
set_option linter.unusedVariables false
open Go Go.RowKit Go.Proofs.YtdgpagocccabdaaDoor.P Go.Proofs.YtdgpagocccabdaaDoor.Lim Go.Proofs.YtdgpagocccabdaaDoorW.PrintWords

def textV (u : Nat) : ByteArray := ⟨(Lib.decDigits u).toArray⟩
def digB (u : Nat) : ByteArray := ⟨#[UInt8.ofNat (48 + u)]⟩
theorem text_eq (u : Nat) (h : u < 18446744073709551616) : digits_Text.f (u : Int) = some (textV u) := by
  unfold digits_Text.f strconv_FormatUint_36.f
  rw [if_pos ⟨rfl, by omega, by omega⟩, Option.bind_some, Lib.itoa_nonneg]
  rfl
theorem text_small (u : Nat) (h : u < 10) : textV u = digB u := by
  unfold textV digB
  rw [Lib.decDigits_one h]
theorem text_big (u : Nat) (h : ¬ u < 10) : textV u = textV (u / 10) ++ digB (u % 10) := by
  apply ByteArray.ext
  apply Array.toList_inj.1
  unfold textV digB
  rw [Lib.decDigits, dif_neg h]
  simp
theorem dig_of (u : Nat) : (strOfNums [(IntKind.u64.wrap (48 + (Int.tmod (u : Int) 10))) % 256]) = digB (u % 10) := by
  have e : (IntKind.u64.wrap (48 + (Int.tmod (u : Int) 10))) % 256 = ((48 + u % 10 : Nat) : Int) := by
    rw [Int.tmod_eq_emod_of_nonneg (by omega), IntKind.wrap_u64]
    omega
  rw [e]
  rfl
theorem tdiv10 (u : Nat) (h : u < 18446744073709551616) : IntKind.u64.wrap (Int.tdiv (u : Int) 10) = ((u / 10 : Nat) : Int) := by
  rw [Int.tdiv_eq_ediv_of_nonneg (by omega), IntKind.wrap_u64]
  omega
theorem text_loop (n : Nat) : ∀ (u : Nat) (acc : ByteArray), u ≤ n → u < 18446744073709551616 → acc.size + Lib.nDigits u ≤ 1000 → tallboyref02_Text.l0L (u : Int) acc = some (if u = 0 then acc else textV u ++ acc) := by
  induction n with
  | zero =>
    intro u acc hu _ _
    obtain rfl : u = 0 := by omega
    rw [tallboyref02_Text.l0L_eq, if_neg (by decide), if_pos rfl]
  | succ n ih =>
    intro u acc hu h64 hs
    rw [tallboyref02_Text.l0L_eq]
    by_cases h0 : u = 0
    · rw [if_neg (by omega), if_pos h0]
    · have hz : (digB (u % 10)).size = 1 := rfl
      have hp := Lib.nDigits_pos u
      rw [if_pos (by omega), Option.bind_some, dig_of, if_pos (by omega), tdiv10 u h64, if_neg h0]
      by_cases h10 : u < 10
      · have e : u / 10 = 0 := by omega
        rw [e, tallboyref02_Text.l0L_eq, if_neg (by decide), text_small u h10, show u % 10 = u by omega]
      · rw [ih (u / 10) _ (by omega) (by omega) (by rw [ByteArray.size_append, hz]; rw [Lib.nDigits_big h10] at hs; omega), if_neg (by omega), text_big u h10, ByteArray.append_assoc]
theorem rtext_eq (u : Nat) (h : u < 18446744073709551616) : tallboyref02_Text.L (u : Int) = some (textV u) := by
  have hl := Lib.nDigits_le20 u h
  have hz : (digB (u % 10)).size = 1 := rfl
  rw [tallboyref02_Text.L_eq, tdiv10 u h, dig_of]
  by_cases h10 : u < 10
  · have e : u / 10 = 0 := by omega
    rw [e, text_loop 0 0 _ (by omega) (by omega) (by rw [hz, Lib.nDigits_small (by decide)]; omega), if_pos rfl, text_small u h10, show u % 10 = u by omega]
  · rw [Lib.nDigits_big h10] at hl
    rw [text_loop u (u / 10) _ (by omega) (by omega) (by rw [hz]; omega), if_neg (by omega), text_big u h10]
def prsV (l : List UInt8) : Int × Int := if l.all digits_Parse.dg = true then digits_Parse.fin l else (0, 6)
theorem parse_eq (s : ByteArray) (h : s.size ≤ 281474976710656) : digits_Parse.f s = some (prsV s.data.toList) := by
  unfold digits_Parse.f prsV
  rw [if_pos h]
theorem dg_iff (b : UInt8) : digits_Parse.dg b = (decide (48 ≤ b.toNat) && decide (b.toNat ≤ 57)) := rfl
theorem rl1_eq (s : ByteArray) (hs : s.size ≤ 1000000) (d : Nat) : ∀ (i a : Nat), i + d = s.size → a < 18446744073709551616 → (s.data.toList.drop i).all digits_Parse.dg = true →
    tallboyref02_Parse.l1L s (a : Int) (i : Int) = some (match Lib.parseUintM 18446744073709551615 a (s.data.toList.drop i) with | .ok u => ((u : Int), 0) | _ => (0, 1)) := by
  induction d with
  | zero =>
    intro i a hi ha _
    rw [tallboyref02_Parse.l1L_eq, if_neg (by omega), List.drop_eq_nil_of_le (by rw [size_eq]; omega)]
    rfl
  | succ d ih =>
    intro i a hi ha hall
    have hl : i < s.data.toList.length := by rw [size_eq]; omega
    rw [drop_bytes s i hl, List.all_cons, Bool.and_eq_true, dg_iff, Bool.and_eq_true, decide_eq_true_eq, decide_eq_true_eq] at hall
    rw [tallboyref02_Parse.l1L_eq, if_pos (by omega), if_pos (by omega), bt_get s i hl, drop_bytes s i hl, Lib.parseUintM, if_pos hall.1]
    obtain ⟨⟨g1, g2⟩, g3⟩ := hall
    generalize hb : s.data.toList[i].toNat = b at g1 g2 ⊢
    have e1 : ((b : Int) - 48) % 256 = ((b - 48 : Nat) : Int) := by omega
    rw [e1]
    by_cases h1 : 1844674407370955162 ≤ a
    · rw [if_pos (show (a : Int) > (18446744073709551615 - ((b - 48 : Nat) : Int)) / 10 by omega), if_pos h1]
    · rw [if_neg h1]
      by_cases h2 : 18446744073709551615 < a * 10 + (b - 48)
      · rw [if_pos (show (a : Int) > (18446744073709551615 - ((b - 48 : Nat) : Int)) / 10 by omega), if_pos h2]
      · have e2 : IntKind.u64.wrap ((IntKind.u64.wrap (10 * (a : Int))) + ((b - 48 : Nat) : Int)) = ((a * 10 + (b - 48) : Nat) : Int) := by
          rw [IntKind.wrap_u64, IntKind.wrap_u64]
          omega
        rw [if_neg (show ¬ (a : Int) > (18446744073709551615 - ((b - 48 : Nat) : Int)) / 10 by omega), if_neg h2, e2, w64 (by omega) (by omega), show ((i : Int) + 1) = ((i + 1 : Nat) : Int) by omega]
        exact ih (i + 1) _ (by omega) (by omega) g3
theorem rl0_no (s : ByteArray) (i : Nat) : tallboyref02_Parse.l0L s false (i : Int) = tallboyref02_Parse.j1L s false := by
  rw [tallboyref02_Parse.l0L_eq]
  split
  · rw [if_neg (by decide)]
  · rfl
theorem rl0_eq (s : ByteArray) (hs : s.size ≤ 1000000) (d : Nat) : ∀ (i : Nat), i + d = s.size → tallboyref02_Parse.l0L s true (i : Int) = tallboyref02_Parse.j1L s ((s.data.toList.drop i).all digits_Parse.dg) := by
  induction d with
  | zero =>
    intro i hi
    rw [tallboyref02_Parse.l0L_eq, if_neg (by omega), List.drop_eq_nil_of_le (by rw [size_eq]; omega)]
    rfl
  | succ d ih =>
    intro i hi
    have hl : i < s.data.toList.length := by rw [size_eq]; omega
    have nx := ih (i + 1) (by omega)
    have no := rl0_no s (i + 1)
    rw [tallboyref02_Parse.l0L_eq, if_pos (by omega), if_pos rfl, if_pos (by omega), bt_get s i hl, drop_bytes s i hl, List.all_cons, dg_iff, w64 (by omega) (by omega), show ((i : Int) + 1) = ((i + 1 : Nat) : Int) by omega]
    generalize s.data.toList[i].toNat = b
    by_cases h1 : 48 ≤ b
    · rw [if_pos (show (b : Int) ≥ 48 by omega), decide_eq_true h1]
      by_cases h2 : b ≤ 57
      · rw [decide_eq_true h2, decide_eq_true (show (b : Int) ≤ 57 by omega), nx]
        rfl
      · rw [decide_eq_false h2, decide_eq_false (show ¬ (b : Int) ≤ 57 by omega), no]
        rfl
    · rw [if_neg (show ¬ (b : Int) ≥ 48 by omega), decide_eq_false h1, no]
      rfl
theorem rparse_eq (s : ByteArray) (hs : s.size ≤ 1000000) : tallboyref02_Parse.L s = some (prsV s.data.toList) := by
  have hlen := size_eq s
  rw [tallboyref02_Parse.L_eq]
  unfold prsV digits_Parse.fin
  by_cases h0 : s.size = 0
  · have e : s.data.toList = [] := List.length_eq_zero_iff.1 (by omega)
    rw [decide_eq_false (by omega), show (0 : Int) = ((0 : Nat) : Int) from rfl, rl0_no, tallboyref02_Parse.j1L_eq, if_neg (by decide), e]
    rfl
  · have e : s.data.toList ≠ [] := fun h => h0 (by rw [← hlen, h]; rfl)
    rw [decide_eq_true (by omega), show (0 : Int) = ((0 : Nat) : Int) from rfl, rl0_eq s hs s.size 0 (by omega), List.drop_zero, tallboyref02_Parse.j1L_eq]
    by_cases ha : s.data.toList.all digits_Parse.dg = true
    · rw [if_pos ha, if_pos ha, if_neg e]
      by_cases h20 : 20 < s.data.toList.length
      · rw [if_pos (show (s.size : Int) > 20 by omega), if_pos h20]
        rfl
      · rw [if_neg (show ¬ (s.size : Int) > 20 by omega), if_neg h20, show (0 : Int) = ((0 : Nat) : Int) from rfl, rl1_eq s hs s.size 0 0 (by omega) (by decide) (by rw [List.drop_zero]; exact ha), List.drop_zero]
        unfold Lib.parseUintB
        rw [if_neg e]
        rfl
    · rw [if_neg ha, if_neg ha]
      rfl

/-! ### Signed -/
theorem prs_rng (l : List UInt8) : 0 ≤ (prsV l).1 ∧ (prsV l).1 < 18446744073709551616 := by
  unfold prsV digits_Parse.fin
  split
  · split
    · decide
    · split
      · decide
      · cases h : Lib.parseUintB 64 l with
        | ok u =>
          have hu : u < 18446744073709551616 := by
            unfold Lib.parseUintB at h
            split at h
            · cases h
            · exact (by have := Lib.parseUintM_le _ l 0 u (Nat.zero_le _) h; omega)
          exact ⟨by show (0 : Int) ≤ (u : Int); omega, by show (u : Int) < _; omega⟩
        | «syntax» => decide
        | range => decide
  · decide
end Go.Proofs.YtdgpagocccabdaaDoor.Pl
