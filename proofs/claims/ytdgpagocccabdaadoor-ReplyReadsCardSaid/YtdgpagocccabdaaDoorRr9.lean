/- A result's hits, read one behind another, by the document: the program's. Plain Lean; conditions: texts of at most 1000000 bytes. -/
import Derived.Test.YtdgpagocccabdaaDoorRr8
namespace Go.Proofs.YtdgpagocccabdaaDoor.Pl
set_option linter.unusedVariables false
set_option linter.unusedSimpArgs false
open Go Go.RowKit Go.Proofs.YtdgpagocccabdaaDoor.P Go.Proofs.YtdgpagocccabdaaDoor.Lim Go.Proofs.YtdgpagocccabdaaDoorW.PrintWords
def cvB (y : S60) : S47 := ⟨y.f0, y.f1, y.f2, y.f3⟩
def cvR (r : Int × List S60 × Int × Int × Int) : Int × List S47 × Int × Int × Int := (r.1, r.2.1.map cvB, r.2.2.1, r.2.2.2.1, r.2.2.2.2)
theorem five_at (s : ByteArray) (p : Nat) : (s.extract p (p + 5)).toList = endL ↔ Lib.hasPrefix (s.data.toList.drop p) endL = true := by
  unfold Lib.hasPrefix
  rw [toList_data, ByteArray.data_extract, Array.toList_extract, List.isPrefixOf_iff_prefix, List.prefix_iff_eq_take]
  simp only [List.extract, Nat.add_sub_cancel_left]
  exact ⟨fun h => h.symm, fun h => h.symm⟩
theorem end_len (l : List UInt8) (h : Lib.hasPrefix l endL = true) : 5 ≤ l.length := by
  unfold Lib.hasPrefix at h
  exact (List.isPrefixOf_iff_prefix.1 h).length_le
theorem from_data (s : ByteArray) (p : Nat) : (s.extract p s.size).data.toList = s.data.toList.drop p := Lib.extract_to_end s p
theorem from_from (s : ByteArray) (p n : Nat) : (s.extract p s.size).extract n (s.extract p s.size).size = s.extract (p + n) s.size := by
  apply ba_ext
  rw [from_data, from_data, from_data, List.drop_drop]
theorem rhits_at (k : Int) (s : ByteArray) (hs : s.size ≤ 1000000) (d : Nat) : ∀ (p : Nat) (l : List S60), p ≤ s.size → l.length + d = 102 → l.length ≤ 101 →
    tallboyref18_Read.l1L k s (p : Int) (l.length : Int) 1 (l.map cvB) 0 = some (cvR (hitsV k s d (s.extract p s.size) l)) := by
  induction d with
  | zero => intro p l _ h1 h2; omega
  | succ d ih =>
    intro p l hp h1 h2
    unfold hitsV
    rw [tallboyref18_Read.l1L_eq]
    by_cases h3 : l.length ≤ 100
    · have c1 : (l.length : Int) ≤ 100 := by omega
      have c2 : 0 ≤ (p : Int) := by omega
      have c3 : (p : Int) ≤ (s.size : Int) := by omega
      have w1 : wrap64 ((s.size : Int) - (p : Int)) = (s.size : Int) - (p : Int) := w64 (by omega) (by omega)
      have w2 : wrap64 ((p : Int) + 5) = ((p + 5 : Nat) : Int) := (w64 (i := (p : Int) + 5) (by omega) (by omega)).trans (by omega)
      have w3 : wrap64 ((l.length : Int) + 1) = ((l.length + 1 : Nat) : Int) := (w64 (i := (l.length : Int) + 1) (by omega) (by omega)).trans (by omega)
      have c4 : (l.map cvB).length < 2932031007402 := by rw [List.length_map]; omega
      have no : Lib.hasPrefix (s.data.toList.drop p) endL = false → tallboyref18_Read.j3L k s (p : Int) (l.length : Int) false 1 (l.map cvB) 0 = some (cvR (if (hitV k (s.extract p s.size)).2.2.2.2.2 = true then hitsV k s d (hitV k (s.extract p s.size)).2.2.2.2.1 (l ++ [⟨(hitV k (s.extract p s.size)).1, (hitV k (s.extract p s.size)).2.1, (hitV k (s.extract p s.size)).2.2.1, (hitV k (s.extract p s.size)).2.2.2.1⟩]) else z6)) := by
        intro _
        have hz : (s.extract p s.size).size ≤ s.size := by rw [ByteArray.size_extract]; omega
        obtain ⟨b1, b2⟩ := hit_both k (s.extract p s.size)
        rw [tallboyref18_Read.j3L_eq, if_neg (by decide), if_pos c2, if_pos c3, Int.toNat_natCast, rhit_eq k _ (by omega), Option.bind_some, b1]
        cases hk : (hitV k (s.extract p s.size)).2.2.2.2.2 with
        | false =>
          rw [if_neg (by decide), if_neg (by decide)]
          rfl
        | true =>
          obtain ⟨q1, q2, q3, q4, n, q5, q6, q7⟩ := b2 hk
          have w4 : wrap64 ((p : Int) + (n : Int)) = ((p + n : Nat) : Int) := (w64 (i := (p : Int) + (n : Int)) (by omega) (by omega)).trans (by omega)
          rw [if_pos rfl, if_pos c4, q5, w4, w3, q1, q2, q3, q4, if_pos rfl, q7, from_from]
          have hl : (l ++ [(⟨(hitV k (s.extract p s.size)).1, (hitV k (s.extract p s.size)).2.1, (hitV k (s.extract p s.size)).2.2.1, (hitV k (s.extract p s.size)).2.2.2.1⟩ : S60)]).length = l.length + 1 := by simp
          have st := ih (p + n) (l ++ [⟨(hitV k (s.extract p s.size)).1, (hitV k (s.extract p s.size)).2.1, (hitV k (s.extract p s.size)).2.2.1, (hitV k (s.extract p s.size)).2.2.2.1⟩]) (by
            rw [ByteArray.size_extract] at q6
            clear w1 w2 w3 w4
            omega) (by rw [hl]; clear w1 w2 w3 w4; omega) (by rw [hl]; clear w1 w2 w3 w4; omega)
          rw [hl, List.map_append] at st
          exact st
      rw [if_pos c1, if_pos h3, w1, w2, from_data]
      by_cases he : Lib.hasPrefix (s.data.toList.drop p) endL = true
      · have h5 := end_len _ he
        rw [List.length_drop, size_eq] at h5
        have g1 : (s.size : Int) - (p : Int) ≥ 5 := by clear w1 w2 w3; omega
        have g2 : (p : Int) ≤ ((p + 5 : Nat) : Int) := by clear w1 w2 w3; omega
        have g3 : ((p + 5 : Nat) : Int) ≤ (s.size : Int) := by clear w1 w2 w3; omega
        have hsz : ((⟨(Lib.trimPrefix (s.data.toList.drop p) endL).toArray⟩ : ByteArray)).size = s.size - p - 5 := by
          rw [← size_eq]
          unfold Lib.trimPrefix
          rw [if_pos he]
          show ((s.data.toList.drop p).drop endL.length).length = s.size - p - 5
          rw [List.length_drop, List.length_drop, size_eq]
          rfl
        rw [if_pos g1, if_pos c2, if_pos g2, if_pos g3, Int.toNat_natCast, Int.toNat_natCast, show ((s.extract p (p + 5)).toList == [69, 78, 68, 13, 10]) = true from beq_iff_eq.2 ((five_at s p).2 he), tallboyref18_Read.j3L_eq, if_pos rfl, w2, if_pos he, hsz]
        have w5 : wrap64 ((s.size : Int) - ((s.size - p - 5 : Nat) : Int)) = ((p + 5 : Nat) : Int) := (w64 (i := (s.size : Int) - ((s.size - p - 5 : Nat) : Int)) (by clear w1 w2 w3; omega) (by clear w1 w2 w3; omega)).trans (by clear w1 w2 w3; omega)
        rw [w5]
        rfl
      · have hf : Lib.hasPrefix (s.data.toList.drop p) endL = false := by cases hq : Lib.hasPrefix (s.data.toList.drop p) endL with
          | false => rfl
          | true => exact absurd hq he
        rw [if_neg he]
        by_cases g1 : (s.size : Int) - (p : Int) ≥ 5
        · have g2 : (p : Int) ≤ ((p + 5 : Nat) : Int) := by clear w1 w2 w3; omega
          have g3 : ((p + 5 : Nat) : Int) ≤ (s.size : Int) := by clear w1 w2 w3; omega
          rw [if_pos g1, if_pos c2, if_pos g2, if_pos g3, Int.toNat_natCast, Int.toNat_natCast, show ((s.extract p (p + 5)).toList == [69, 78, 68, 13, 10]) = false from beq_eq_false_iff_ne.2 (fun h => he ((five_at s p).1 h))]
          exact no hf
        · rw [if_neg g1]
          exact no hf
    · rw [if_neg (show ¬ (l.length : Int) ≤ 100 by omega), if_neg h3]
      rfl
end Go.Proofs.YtdgpagocccabdaaDoor.Pl
