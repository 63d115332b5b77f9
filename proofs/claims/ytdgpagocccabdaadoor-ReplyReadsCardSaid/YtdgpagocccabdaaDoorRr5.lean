/- A hit at the front of bytes, by the document: the program's, with how many bytes it is. Plain Lean; conditions: texts of at most 1000000 bytes. -/
import Derived.Test.YtdgpagocccabdaaDoorRr4
namespace Go.Proofs.YtdgpagocccabdaaDoor.Pl
set_option linter.unusedVariables false
set_option linter.unusedSimpArgs false
open Go Go.RowKit Go.Proofs.YtdgpagocccabdaaDoor.P Go.Proofs.YtdgpagocccabdaaDoor.Lim Go.Proofs.YtdgpagocccabdaaDoorW.PrintWords
def zr : ByteArray × Int × ByteArray × Int × Int × Bool := (⟨#[]⟩, 0, ⟨#[]⟩, 0, 0, false)
theorem num_le (s : ByteArray) (m : Int) (h : (numV s m).2 = true) : (numV s m).1 ≤ m := by
  unfold numV at h ⊢
  simp only [Bool.and_eq_true, decide_eq_true_eq] at h
  exact h.2.1
theorem rj4_true (s : ByteArray) (n : Int) (w : List ByteArray) (a b c : Int) : tallboyref18_hit.j4L s n w a b c true = some zr := by
  rw [tallboyref18_hit.j4L_eq, if_pos rfl]
  rfl
/-- The two bytes at a place. -/
theorem eol_at (s : ByteArray) (p : Nat) : (s.extract p (p + 2)).toList = [13, 10] ↔ Lib.hasPrefix (s.data.toList.drop p) [13, 10] = true := by
  unfold Lib.hasPrefix
  rw [toList_data, ByteArray.data_extract, Array.toList_extract, List.isPrefixOf_iff_prefix, List.prefix_iff_eq_take]
  simp only [List.extract, Nat.add_sub_cancel_left]
  exact ⟨fun h => h.symm, fun h => h.symm⟩
theorem pre_len (l : List UInt8) (h : Lib.hasPrefix l [13, 10] = true) : 2 ≤ l.length := by
  unfold Lib.hasPrefix at h
  have := (List.isPrefixOf_iff_prefix.1 h).length_le
  exact this
theorem rj3_ok (s : ByteArray) (hs : s.size ≤ 1000000) (n z : Nat) (hn : n ≤ s.size) (hz : z ≤ 2000) (w : List ByteArray) (hw : 1 < w.length) (a c : Int) :
    tallboyref18_hit.j3L s (n : Int) w a true (z : Int) true c true = some (if Lib.hasPrefix (s.data.toList.drop (n + z)) [13, 10] = true then (rdOf ByteArray.empty w 1, a % 4294967296, s.extract n (n + z), c, ((n + z + 2 : Nat) : Int), true) else zr) := by
  have w1 : wrap64 ((s.size : Int) - (n : Int)) = (s.size : Int) - (n : Int) := w64 (by omega) (by omega)
  have w2 : wrap64 (z : Int) = (z : Int) := w64 (by omega) (by omega)
  have w3 : wrap64 ((z : Int) + 2) = (z : Int) + 2 := w64 (by omega) (by omega)
  have w4 : wrap64 ((n : Int) + (z : Int)) = ((n + z : Nat) : Int) := (w64 (i := (n : Int) + (z : Int)) (by omega) (by omega)).trans (by omega)
  have w5 : wrap64 (((n + z : Nat) : Int) + 2) = ((n + z + 2 : Nat) : Int) := (w64 (i := ((n + z : Nat) : Int) + 2) (by omega) (by omega)).trans (by omega)
  rw [tallboyref18_hit.j3L_eq, if_pos rfl, if_pos rfl, if_pos rfl, w1, w2, w3, w4, w5]
  by_cases hl : (s.size : Int) - (n : Int) < (z : Int) + 2
  · rw [if_pos hl, rj4_true, if_neg (fun h => by
      have := pre_len _ h
      rw [List.length_drop, size_eq] at this
      clear w1 w2 w3 w4 w5
      omega)]
  · have p1 : 0 ≤ ((n + z : Nat) : Int) := by clear w1 w2 w3 w4 w5; omega
    have p2 : ((n + z : Nat) : Int) ≤ ((n + z + 2 : Nat) : Int) := by clear w1 w2 w3 w4 w5; omega
    have p3 : ((n + z + 2 : Nat) : Int) ≤ (s.size : Int) := by clear w1 w2 w3 w4 w5; omega
    have p4 : 1 < (w.length : Int) := by clear w1 w2 w3 w4 w5; omega
    have p5 : 0 ≤ (n : Int) := by clear w1 w2 w3 w4 w5; omega
    have p6 : (n : Int) ≤ ((n + z : Nat) : Int) := by clear w1 w2 w3 w4 w5; omega
    have p7 : ((n + z : Nat) : Int) ≤ (s.size : Int) := by clear w1 w2 w3 w4 w5; omega
    rw [if_neg hl, if_pos p1, if_pos p2, if_pos p3, Int.toNat_natCast, Int.toNat_natCast]
    by_cases he : Lib.hasPrefix (s.data.toList.drop (n + z)) [13, 10] = true
    · rw [if_pos he, bne_eq_false_iff_eq.2 ((eol_at s (n + z)).2 he), tallboyref18_hit.j4L_eq, if_neg (by decide), if_pos p4, if_pos p5, w2, w4, w5, if_pos p6, if_pos p7, Int.toNat_natCast, Int.toNat_natCast]
    · rw [if_neg he, bne_iff_ne.2 (fun h => he ((eol_at s (n + z)).1 h)), rj4_true]
theorem rj3_no (s : ByteArray) (n : Int) (w : List ByteArray) (a b c : Int) (x y z : Bool) (h : ¬ (x = true ∧ y = true ∧ z = true)) : tallboyref18_hit.j3L s n w a x b y c z = some zr := by
  rw [tallboyref18_hit.j3L_eq]
  cases x with
  | false => rw [if_neg (by decide), rj4_true]
  | true =>
    cases y with
    | false => rw [if_pos rfl, if_neg (by decide), rj4_true]
    | true =>
      cases z with
      | false => rw [if_pos rfl, if_pos rfl, if_neg (by decide), rj4_true]
      | true => exact absurd ⟨rfl, rfl, rfl⟩ h
end Go.Proofs.YtdgpagocccabdaaDoor.Pl
