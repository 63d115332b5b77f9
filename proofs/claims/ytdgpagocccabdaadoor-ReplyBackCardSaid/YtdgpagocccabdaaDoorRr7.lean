/- A hit at the front of bytes: the document's is the program's; what is left behind it. Plain Lean; conditions: texts of at most 1000000 bytes. -/
import Derived.Test.YtdgpagocccabdaaDoorRr6
namespace Go.Proofs.YtdgpagocccabdaaDoor.Pl
set_option linter.unusedVariables false
set_option linter.unusedSimpArgs false
open Go Go.RowKit Go.Proofs.YtdgpagocccabdaaDoor.P Go.Proofs.YtdgpagocccabdaaDoor.Lim Go.Proofs.YtdgpagocccabdaaDoorW.PrintWords
def rhitV (k : Int) (s : ByteArray) : ByteArray × Int × ByteArray × Int × Int × Bool := if 0 ≤ ixE s ∧ (lineOf s).size ≤ 200 then rhitW s (w5 k (lineOf s)) else zr
theorem ix_room (s : ByteArray) (h : 0 ≤ ixE s) : (ixE s).toNat + 2 ≤ s.size := by
  have := Lib.index_room s.data.toList [13, 10] h
  rw [show ([13, 10] : List UInt8).length = 2 from rfl, size_eq] at this
  unfold ixE at h ⊢
  omega
/-- Both say the same of a hit; if there is one, what is left is what is behind its bytes. -/
theorem hit_both (k : Int) (s : ByteArray) : (rhitV k s).2.2.2.2.2 = (hitV k s).2.2.2.2.2 ∧ ((hitV k s).2.2.2.2.2 = true → (rhitV k s).1 = (hitV k s).1 ∧ (rhitV k s).2.1 = (hitV k s).2.1 ∧ (rhitV k s).2.2.1 = (hitV k s).2.2.1 ∧ (rhitV k s).2.2.2.1 = (hitV k s).2.2.2.1 ∧
    ∃ n : Nat, (rhitV k s).2.2.2.2.1 = (n : Int) ∧ n ≤ s.size ∧ (hitV k s).2.2.2.2.1 = s.extract n s.size) := by
  unfold rhitV hitV
  by_cases hc : 0 ≤ ixE s ∧ (lineOf s).size ≤ 200
  · rw [if_pos hc, if_pos hc]
    unfold rhitW
    cases hh : (hitW (w5 k (lineOf s)) (behind s)).2.2.2.2.2 with
    | false =>
      rw [if_neg (by decide)]
      exact ⟨rfl, fun h => by cases h⟩
    | true =>
      rw [if_pos rfl]
      refine ⟨rfl, fun _ => ⟨rfl, rfl, rfl, rfl, _, rfl, ?_⟩⟩
      unfold hitW at hh ⊢
      split at hh
      · rename_i ho
        rw [if_pos ho]
        dsimp only at hh ⊢
        rw [restV_data] at hh ⊢
        have hp := pre_len _ hh
        rw [List.length_drop, size_eq] at hp
        refine ⟨by omega, ?_⟩
        apply ba_ext
        unfold Lib.trimPrefix
        rw [if_pos hh, Lib.extract_to_end, List.drop_drop]
        rfl
      · cases hh
  · rw [if_neg hc, if_neg hc]
    exact ⟨rfl, fun h => by cases h⟩
end Go.Proofs.YtdgpagocccabdaaDoor.Pl
