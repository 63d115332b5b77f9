/- Numbers in writing: the program's Text, TextSigned, Parse and Signed and the document's are the same plain functions. Conditions: numbers of 64 bits; texts of at most 140737488351232 bytes. -/
import Derived.Test.YtbfgopinbpbddaaDoorPl
import Derived.Test.YtbfgopinbpbddaaDoorLmD
import Derived.Test.YtbfgopinbpbddaaDoorPx12
import Derived.Test.YtbfgopinbpbddaaDoorPx9
import Derived.Test.YtbfgopinbpbddaaDoorPx24
import Derived.Test.YtbfgopinbpbddaaDoorPx27
import Derived.Test.YtbfgopinbpbddaaDoorPx26
import Derived.Lib.ItoaLen
import Derived.Lib.ItoaMem
import Derived.Lib.ParseIntBCases
namespace Go.Proofs.YtbfgopinbpbddaaDoor.Pl
set_option linter.unusedVariables false
open Go Go.RowKit Go.Proofs.YtbfgopinbpbddaaDoor.P Go.Proofs.YtbfgopinbpbddaaDoor.Lim Go.Proofs.YtbfgopinbpbddaaDoorW.PrintWords

/-! ### Parse -/
def prsV (l : List UInt8) : Int × Int := if l.all digits_Parse.dg = true then digits_Parse.fin l else (0, 6)
theorem parse_eq (s : ByteArray) (h : s.size ≤ 281474976710656) : digits_Parse.f s = some (prsV s.data.toList) := by
  unfold digits_Parse.f prsV
  rw [if_pos h]
theorem dg_iff (b : UInt8) : digits_Parse.dg b = (decide (48 ≤ b.toNat) && decide (b.toNat ≤ 57)) := rfl
theorem rl1_eq (s : ByteArray) (hs : s.size ≤ 1000000) (d : Nat) : ∀ (i a : Nat), i + d = s.size → a < 18446744073709551616 → (s.data.toList.drop i).all digits_Parse.dg = true →
    tallboyref02_Parse.l1L s (a : Int) (i : Int) = some (match Lib.parseUintM 18446744073709551615 a (s.data.toList.drop i) with | .ok u => ((u : Int), 0) | _ => (0, 1)) := by
  induction d with
  | zero =>
    intro i a hi ha _
    rw [tallboyref02_Parse.l1L_eq, if_neg (by omega), List.drop_eq_nil_of_le (by rw [size_eq]; omega)]
    rfl
  | succ d ih =>
    intro i a hi ha hall
    have hl : i < s.data.toList.length := by rw [size_eq]; omega
    rw [drop_bytes s i hl, List.all_cons, Bool.and_eq_true, dg_iff, Bool.and_eq_true, decide_eq_true_eq, decide_eq_true_eq] at hall
    rw [tallboyref02_Parse.l1L_eq, if_pos (by omega), if_pos (by omega), bt_get s i hl, drop_bytes s i hl, Lib.parseUintM, if_pos hall.1]
    obtain ⟨⟨g1, g2⟩, g3⟩ := hall
    generalize hb : s.data.toList[i].toNat = b at g1 g2 ⊢
    have e1 : ((b : Int) - 48) % 256 = ((b - 48 : Nat) : Int) := by omega
    rw [e1]
    by_cases h1 : 1844674407370955162 ≤ a
    · rw [if_pos (show (a : Int) > (18446744073709551615 - ((b - 48 : Nat) : Int)) / 10 by omega), if_pos h1]
    · rw [if_neg h1]
      by_cases h2 : 18446744073709551615 < a * 10 + (b - 48)
      · rw [if_pos (show (a : Int) > (18446744073709551615 - ((b - 48 : Nat) : Int)) / 10 by omega), if_pos h2]
      · have e2 : IntKind.u64.wrap ((IntKind.u64.wrap (10 * (a : Int))) + ((b - 48 : Nat) : Int)) = ((a * 10 + (b - 48) : Nat) : Int) := by
          rw [IntKind.wrap_u64, IntKind.wrap_u64]
          omega
        rw [if_neg (show ¬ (a : Int) > (18446744073709551615 - ((b - 48 : Nat) : Int)) / 10 by omega), if_neg h2, e2, w64 (by omega) (by omega), show ((i : Int) + 1) = ((i + 1 : Nat) : Int) by omega]
        exact ih (i + 1) _ (by omega) (by omega) g3
theorem rl0_no (s : ByteArray) (i : Nat) : tallboyref02_Parse.l0L s false (i : Int) = tallboyref02_Parse.j1L s false := by
  rw [tallboyref02_Parse.l0L_eq]
  split
  · rw [if_neg (by decide)]
  · rfl
theorem rl0_eq (s : ByteArray) (hs : s.size ≤ 1000000) (d : Nat) : ∀ (i : Nat), i + d = s.size → tallboyref02_Parse.l0L s true (i : Int) = tallboyref02_Parse.j1L s ((s.data.toList.drop i).all digits_Parse.dg) := by
  induction d with
  | zero =>
    intro i hi
    rw [tallboyref02_Parse.l0L_eq, if_neg (by omega), List.drop_eq_nil_of_le (by rw [size_eq]; omega)]
    rfl
  | succ d ih =>
    intro i hi
    have hl : i < s.data.toList.length := by rw [size_eq]; omega
    have nx := ih (i + 1) (by omega)
    have no := rl0_no s (i + 1)
    rw [tallboyref02_Parse.l0L_eq, if_pos (by omega), if_pos rfl, if_pos (by omega), bt_get s i hl, drop_bytes s i hl, List.all_cons, dg_iff, w64 (by omega) (by omega), show ((i : Int) + 1) = ((i + 1 : Nat) : Int) by omega]
    generalize s.data.toList[i].toNat = b
    by_cases h1 : 48 ≤ b
    · rw [if_pos (show (b : Int) ≥ 48 by omega), decide_eq_true h1]
      by_cases h2 : b ≤ 57
      · rw [decide_eq_true h2, decide_eq_true (show (b : Int) ≤ 57 by omega), nx]
        rfl
      · rw [decide_eq_false h2, decide_eq_false (show ¬ (b : Int) ≤ 57 by omega), no]
        rfl
    · rw [if_neg (show ¬ (b : Int) ≥ 48 by omega), decide_eq_false h1, no]
      rfl
theorem rparse_eq (s : ByteArray) (hs : s.size ≤ 1000000) : tallboyref02_Parse.L s = some (prsV s.data.toList) := by
  have hlen := size_eq s
  rw [tallboyref02_Parse.L_eq]
  unfold prsV digits_Parse.fin
  by_cases h0 : s.size = 0
  · have e : s.data.toList = [] := List.length_eq_zero_iff.1 (by omega)
    rw [decide_eq_false (by omega), show (0 : Int) = ((0 : Nat) : Int) from rfl, rl0_no, tallboyref02_Parse.j1L_eq, if_neg (by decide), e]
    rfl
  · have e : s.data.toList ≠ [] := fun h => h0 (by rw [← hlen, h]; rfl)
    rw [decide_eq_true (by omega), show (0 : Int) = ((0 : Nat) : Int) from rfl, rl0_eq s hs s.size 0 (by omega), List.drop_zero, tallboyref02_Parse.j1L_eq]
    by_cases ha : s.data.toList.all digits_Parse.dg = true
    · rw [if_pos ha, if_pos ha, if_neg e]
      by_cases h20 : 20 < s.data.toList.length
      · rw [if_pos (show (s.size : Int) > 20 by omega), if_pos h20]
        rfl
      · rw [if_neg (show ¬ (s.size : Int) > 20 by omega), if_neg h20, show (0 : Int) = ((0 : Nat) : Int) from rfl, rl1_eq s hs s.size 0 0 (by omega) (by decide) (by rw [List.drop_zero]; exact ha), List.drop_zero]
        unfold Lib.parseUintB
        rw [if_neg e]
        rfl
    · rw [if_neg ha, if_neg ha]
      rfl

/-! ### Signed -/
def sgnV (l : List UInt8) : Int × Int :=
  if l.head? = some 45 then
    (if (prsV l.tail).2 = 0 then (if (prsV l.tail).1 ≤ 9223372036854775808 then (-(prsV l.tail).1, 0) else (0, 1)) else (0, (prsV l.tail).2))
  else (if (prsV l).2 = 0 then (if (prsV l).1 ≤ 9223372036854775807 then ((prsV l).1, 0) else (0, 1)) else (0, (prsV l).2))
theorem prs_rng (l : List UInt8) : 0 ≤ (prsV l).1 ∧ (prsV l).1 < 18446744073709551616 := by
  unfold prsV digits_Parse.fin
  split
  · split
    · decide
    · split
      · decide
      · cases h : Lib.parseUintB 64 l with
        | ok u =>
          have hu : u < 18446744073709551616 := by
            unfold Lib.parseUintB at h
            split at h
            · cases h
            · exact (by have := Lib.parseUintM_le _ l 0 u (Nat.zero_le _) h; omega)
          exact ⟨by show (0 : Int) ≤ (u : Int); omega, by show (u : Int) < _; omega⟩
        | «syntax» => decide
        | range => decide
  · decide
end Go.Proofs.YtbfgopinbpbddaaDoor.Pl
