/- A result read out of bytes, by the program and by the document: the same. Plain Lean; conditions: texts of at most 1000000 bytes. -/
import Derived.Test.YtdgpagocccabdaaDoorRr8
section
namespace Go.Proofs.YtdgpagocccabdaaDoor.Pl
set_option linter.unusedVariables false
set_option linter.unusedSimpArgs false
open Go Go.RowKit Go.Proofs.YtdgpagocccabdaaDoor.P Go.Proofs.YtdgpagocccabdaaDoor.Lim Go.Proofs.YtdgpagocccabdaaDoorW.PrintWords
def cvB (y : S60) : S47 := ⟨y.f0, y.f1, y.f2, y.f3⟩
theorem from_data (s : ByteArray) (p : Nat) : (s.extract p s.size).data.toList = s.data.toList.drop p := Lib.extract_to_end s p
end Go.Proofs.YtdgpagocccabdaaDoor.Pl
end
section
namespace Go.Proofs.YtdgpagocccabdaaDoor.Pl
set_option linter.unusedVariables false
set_option linter.unusedSimpArgs false
open Go Go.RowKit Go.Proofs.YtdgpagocccabdaaDoor.P Go.Proofs.YtdgpagocccabdaaDoor.Lim Go.Proofs.YtdgpagocccabdaaDoorW.PrintWords
theorem find_two (k : Int) (ln : ByteArray) : reply_Read.find ln (reply_lines.l k) 0 13 = reply_Read.find ln (reply_lines.l k) 2 11 := by
  have e0 : (rdOf ByteArray.empty (reply_lines.l k) ((0 : Nat) : Int)).toList = [] := (toList_nil _).2 (by unfold reply_lines.l; split <;> rfl)
  have e1 : (rdOf ByteArray.empty (reply_lines.l k) ((0 + 1 : Nat) : Int)).toList = [] := (toList_nil _).2 (by unfold reply_lines.l; split <;> rfl)
  rw [reply_Read.find, if_neg (fun h => h.1 e0), reply_Read.find, if_neg (fun h => h.1 e1)]
def readV (k : Int) (s : ByteArray) : Int × List S60 × Int × Int × Int :=
  if 0 ≤ ixE s then (match reply_Read.find (lineOf s) (reply_lines.l k) 2 11 with
    | some i => ((i : Int), [], 0, ixE s + 2, 0)
    | none => if (numV (lineOf s) 18446744073709551615).2 = true then (7, [], (numV (lineOf s) 18446744073709551615).1, ixE s + 2, 0) else hitsV k s 102 s []) else z6
theorem read_at (k : Int) (s : ByteArray) (hs : s.size ≤ 1000000) : ∃ kk, reply_Read.f kk k s = some (readV k s) := by
  obtain ⟨kk, hk⟩ := hits_at k s 102 s [] hs (by decide) (by decide)
  refine ⟨kk, ?_⟩
  unfold reply_Read.f readV
  rw [cut_eq s hs, Option.bind_some]
  by_cases h0 : 0 ≤ ixE s
  · have hn := ix_room s h0
    have hz : (lineOf s).size ≤ 1000000 := by unfold lineOf; rw [ByteArray.size_extract]; omega
    rw [if_pos h0, if_pos h0]
    dsimp only
    have hsz : (s.extract ((ixE s).toNat + 2) s.size).size = s.size - ((ixE s).toNat + 2) := behind_size s
    have hw : wrap64 ((s.size : Int) - ((s.extract ((ixE s).toNat + 2) s.size).size : Int)) = ixE s + 2 := by
      rw [hsz]
      exact (w64 (i := (s.size : Int) - ((s.size - ((ixE s).toNat + 2) : Nat) : Int)) (by omega) (by omega)).trans (by omega)
    rw [if_pos rfl, hw, show s.extract 0 (ixE s).toNat = lineOf s from rfl, find_two, number_eq (lineOf s) _ hz]
    cases reply_Read.find (lineOf s) (reply_lines.l k) 2 11 with
    | some i => rfl
    | none =>
      dsimp only
      rw [Option.bind_some]
      split
      · rfl
      · exact hk
  · rw [if_neg h0, if_neg h0]
    dsimp only
    rw [if_neg (show ¬ (false = true) by decide)]
    rfl
end Go.Proofs.YtdgpagocccabdaaDoor.Pl
end
