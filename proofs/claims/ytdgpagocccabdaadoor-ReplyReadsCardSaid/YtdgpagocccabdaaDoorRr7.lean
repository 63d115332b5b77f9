/- A hit at the front of bytes: the document's is the program's; what is left behind it. Plain Lean; conditions: texts of at most 1000000 bytes. -/
import Derived.Test.YtdgpagocccabdaaDoorRr6
namespace Go.Proofs.YtdgpagocccabdaaDoor.Pl
set_option linter.unusedVariables false
set_option linter.unusedSimpArgs false
open Go Go.RowKit Go.Proofs.YtdgpagocccabdaaDoor.P Go.Proofs.YtdgpagocccabdaaDoor.Lim Go.Proofs.YtdgpagocccabdaaDoorW.PrintWords
def rhitV (k : Int) (s : ByteArray) : ByteArray × Int × ByteArray × Int × Int × Bool := if 0 ≤ ixE s ∧ (lineOf s).size ≤ 200 then rhitW s (w5 k (lineOf s)) else zr
theorem ix_room (s : ByteArray) (h : 0 ≤ ixE s) : (ixE s).toNat + 2 ≤ s.size := by
  have := Lib.index_room s.data.toList [13, 10] h
  rw [show ([13, 10] : List UInt8).length = 2 from rfl, size_eq] at this
  unfold ixE at h ⊢
  omega
theorem rdOf_app (w : List ByteArray) (x : ByteArray) (i : Nat) (h : i < w.length) : rdOf ByteArray.empty (w ++ [x]) (i : Int) = rdOf ByteArray.empty w (i : Int) := by
  unfold rdOf
  rw [Int.toNat_natCast, List.getD_eq_getElem?_getD, List.getD_eq_getElem?_getD, List.getElem?_append_left h]
theorem rdOf_end (w : List ByteArray) (x : ByteArray) : rdOf ByteArray.empty (w ++ [x]) (w.length : Int) = x := by
  unfold rdOf
  rw [Int.toNat_natCast, List.getD_eq_getElem?_getD, List.getElem?_append_right (Nat.le_refl _), Nat.sub_self]
  rfl
theorem rhit_eq (k : Int) (s : ByteArray) (hs : s.size ≤ 1000000) : tallboyref18_hit.L k s = some (rhitV k s) := by
  unfold rhitV
  have jt : ∀ (ln : ByteArray) (n : Int), tallboyref18_hit.j0L k s ln n true = some zr := by
    intro ln n
    rw [tallboyref18_hit.j0L_eq, if_pos rfl]
    rfl
  rw [tallboyref18_hit.L_eq, rline_eq s hs, Option.bind_some]
  unfold lineV
  by_cases h0 : 0 ≤ ixE s
  · have hn := ix_room s h0
    have e2 : ixE s + 2 = (((ixE s).toNat + 2 : Nat) : Int) := by omega
    rw [if_pos h0]
    dsimp only
    rw [if_pos rfl, e2]
    show tallboyref18_hit.j0L k s (lineOf s) _ (decide (((lineOf s).size : Int) > 200)) = _
    by_cases h2 : (lineOf s).size ≤ 200
    · rw [decide_eq_false (show ¬ (((lineOf s).size : Int) > 200) by omega), if_pos ⟨h0, h2⟩, tallboyref18_hit.j0L_eq, if_neg (by decide), show tallboyref18_cut.L (lineOf s) = some (wds (lineOf s)) from rcut_eq (lineOf s) (by omega), Option.bind_some, rshows_eq, Option.bind_some]
      have hb := w5_le k (lineOf s) (by omega)
      cases hk : shK k with
      | true =>
        have ew : w5 k (lineOf s) = wds (lineOf s) := by unfold w5; rw [if_pos hk]
        rw [ew] at hb ⊢
        rw [if_pos rfl]
        exact rj1_eq s hs hn _ _ 5 (.inl rfl) ⟨fun h => by omega, fun h => by omega⟩ hb (fun _ => ⟨rfl, rfl, rfl, rfl⟩) (fun _ => by rw [if_pos rfl])
      | false =>
        have ew : w5 k (lineOf s) = wds (lineOf s) ++ [⟨#[48]⟩] := by unfold w5; rw [hk, if_neg (by decide)]
        rw [ew] at hb ⊢
        rw [if_neg (by decide)]
        refine rj1_eq s hs hn _ _ 4 (.inr rfl) ⟨fun h => by rw [List.length_append, List.length_singleton]; omega, fun h => by rw [List.length_append, List.length_singleton] at h; omega⟩ hb (fun h => ?_) (fun h => ?_)
        · have h4 : (wds (lineOf s)).length = 4 := by omega
          exact ⟨(rdOf_app _ _ 0 (by omega)).symm, (rdOf_app _ _ 1 (by omega)).symm, (rdOf_app _ _ 2 (by omega)).symm, (rdOf_app _ _ 3 (by omega)).symm⟩
        · have h4 : (wds (lineOf s)).length = 4 := by omega
          rw [if_neg (by decide)]
          have := rdOf_end (wds (lineOf s)) ⟨#[48]⟩
          rw [h4] at this
          exact this
    · rw [decide_eq_true (show ((lineOf s).size : Int) > 200 by omega), if_neg (fun h => h2 h.2)]
      exact jt _ _
  · rw [if_neg h0]
    dsimp only
    rw [if_neg (show ¬ (false = true) by decide), if_neg (show ¬ (0 ≤ ixE s ∧ (lineOf s).size ≤ 200) from fun h => h0 h.1)]
    exact jt _ _
/-- Both say the same of a hit; if there is one, what is left is what is behind its bytes. -/
theorem hit_both (k : Int) (s : ByteArray) : (rhitV k s).2.2.2.2.2 = (hitV k s).2.2.2.2.2 ∧ ((hitV k s).2.2.2.2.2 = true → (rhitV k s).1 = (hitV k s).1 ∧ (rhitV k s).2.1 = (hitV k s).2.1 ∧ (rhitV k s).2.2.1 = (hitV k s).2.2.1 ∧ (rhitV k s).2.2.2.1 = (hitV k s).2.2.2.1 ∧
    ∃ n : Nat, (rhitV k s).2.2.2.2.1 = (n : Int) ∧ n ≤ s.size ∧ (hitV k s).2.2.2.2.1 = s.extract n s.size) := by
  unfold rhitV hitV
  by_cases hc : 0 ≤ ixE s ∧ (lineOf s).size ≤ 200
  · rw [if_pos hc, if_pos hc]
    unfold rhitW
    cases hh : (hitW (w5 k (lineOf s)) (behind s)).2.2.2.2.2 with
    | false =>
      rw [if_neg (by decide)]
      exact ⟨rfl, fun h => by cases h⟩
    | true =>
      rw [if_pos rfl]
      refine ⟨rfl, fun _ => ⟨rfl, rfl, rfl, rfl, _, rfl, ?_⟩⟩
      unfold hitW at hh ⊢
      split at hh
      · rename_i ho
        rw [if_pos ho]
        dsimp only at hh ⊢
        rw [restV_data] at hh ⊢
        have hp := pre_len _ hh
        rw [List.length_drop, size_eq] at hp
        refine ⟨by omega, ?_⟩
        apply ba_ext
        unfold Lib.trimPrefix
        rw [if_pos hh, Lib.extract_to_end, List.drop_drop]
        rfl
      · cases hh
  · rw [if_neg hc, if_neg hc]
    exact ⟨rfl, fun h => by cases h⟩
end Go.Proofs.YtdgpagocccabdaaDoor.Pl
