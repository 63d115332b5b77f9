/- A result read out of bytes, by the program and by the document: the same. Plain Lean; conditions: texts of at most 1000000 bytes. -/
import Derived.Test.YtdgpagocccabdaaDoorRr9
namespace Go.Proofs.YtdgpagocccabdaaDoor.Pl
set_option linter.unusedVariables false
set_option linter.unusedSimpArgs false
open Go Go.RowKit Go.Proofs.YtdgpagocccabdaaDoor.P Go.Proofs.YtdgpagocccabdaaDoor.Lim Go.Proofs.YtdgpagocccabdaaDoorW.PrintWords
theorem plain_all (k c : Int) (h0 : 2 ≤ c) (h1 : c ≤ 12) : tallboyref18_plain.f k c = some (rdOf ByteArray.empty (reply_lines.l k) c) := by
  by_cases h7 : c = 7
  · subst h7
    unfold reply_lines.l
    split <;> rfl
  · exact (plain_at k c ⟨h0, h1, h7⟩).1
def tailV (k : Int) (s ln : ByteArray) (n : Int) : Int × List S47 × Int × Int × Int := if (numV ln 18446744073709551615).2 = true then (7, [], (numV ln 18446744073709551615).1, n, 0) else cvR (hitsV k s 102 s [])
theorem tail_eq (k : Int) (s ln : ByteArray) (n : Int) (hs : s.size ≤ 1000000) (hl : ln.size ≤ 1000000) : tallboyref18_Read.l0L k s ln n 13 = some (tailV k s ln n) := by
  have j : tallboyref18_Read.j1L k s = some (cvR (hitsV k s 102 s [])) := by
    have h := rhits_at k s hs 102 0 [] (by omega) (by decide) (by decide)
    rw [show s.extract 0 s.size = s from by apply ba_ext; rw [from_data]; rfl] at h
    rw [tallboyref18_Read.j1L_eq]
    exact h
  unfold tailV
  rw [tallboyref18_Read.l0L_eq, if_neg (by decide)]
  by_cases h20 : (ln.size : Int) ≤ 20
  · rw [if_pos h20, rnumber_eq ln _ hl, Option.bind_some]
    split
    · rfl
    · exact j
  · rw [if_neg h20, num_long ln _ (by omega), if_neg (by decide)]
    exact j
theorem codes_eq (k : Int) (s ln : ByteArray) (n : Int) (hs : s.size ≤ 1000000) (hl : ln.size ≤ 1000000) (d : Nat) : ∀ c : Nat, 2 ≤ c → c + d = 13 → tallboyref18_Read.l0L k s ln n (c : Int) = some (match reply_Read.find ln (reply_lines.l k) c d with
    | some i => ((i : Int), [], 0, n, 0)
    | none => tailV k s ln n) := by
  induction d with
  | zero =>
    intro c h2 hc
    obtain rfl : c = 13 := by omega
    exact tail_eq k s ln n hs hl
  | succ d ih =>
    intro c h2 hc
    have hw : wrap64 ((c : Int) + 1) = ((c + 1 : Nat) : Int) := (w64 (i := (c : Int) + 1) (by omega) (by omega)).trans (by omega)
    have c1 : (c : Int) ≤ 12 := by omega
    rw [tallboyref18_Read.l0L_eq, if_pos c1, plain_all k c (by omega) (by omega), Option.bind_some, hw]
    unfold reply_Read.find
    by_cases he : (rdOf ByteArray.empty (reply_lines.l k) (c : Int)).toList = []
    · rw [if_pos he, if_neg (fun h => h.1 he)]
      exact ih (c + 1) (by omega) (by omega)
    · rw [if_neg he]
      by_cases hm : (rdOf ByteArray.empty (reply_lines.l k) (c : Int)).toList = ln.toList
      · rw [if_pos hm, if_pos ⟨he, hm⟩]
      · rw [if_neg hm, if_neg (fun h => hm h.2)]
        exact ih (c + 1) (by omega) (by omega)
theorem find_two (k : Int) (ln : ByteArray) : reply_Read.find ln (reply_lines.l k) 0 13 = reply_Read.find ln (reply_lines.l k) 2 11 := by
  have e0 : (rdOf ByteArray.empty (reply_lines.l k) ((0 : Nat) : Int)).toList = [] := (toList_nil _).2 (by unfold reply_lines.l; split <;> rfl)
  have e1 : (rdOf ByteArray.empty (reply_lines.l k) ((0 + 1 : Nat) : Int)).toList = [] := (toList_nil _).2 (by unfold reply_lines.l; split <;> rfl)
  rw [reply_Read.find, if_neg (fun h => h.1 e0), reply_Read.find, if_neg (fun h => h.1 e1)]
def readV (k : Int) (s : ByteArray) : Int × List S60 × Int × Int × Int :=
  if 0 ≤ ixE s then (match reply_Read.find (lineOf s) (reply_lines.l k) 2 11 with
    | some i => ((i : Int), [], 0, ixE s + 2, 0)
    | none => if (numV (lineOf s) 18446744073709551615).2 = true then (7, [], (numV (lineOf s) 18446744073709551615).1, ixE s + 2, 0) else hitsV k s 102 s []) else z6
theorem rread_eq (k : Int) (s : ByteArray) (hs : s.size ≤ 1000000) : tallboyref18_Read.L k s = some (cvR (readV k s)) := by
  unfold readV
  rw [tallboyref18_Read.L_eq, rline_eq s hs, Option.bind_some]
  unfold lineV
  by_cases h0 : 0 ≤ ixE s
  · have hz : (lineOf s).size ≤ 1000000 := by unfold lineOf; rw [ByteArray.size_extract]; omega
    rw [if_pos h0, if_pos h0]
    dsimp only
    rw [if_pos rfl]
    have h := codes_eq k s (lineOf s) (ixE s + 2) hs hz 11 2 (by omega) (by omega)
    refine Eq.trans h (congrArg some ?_)
    cases reply_Read.find (lineOf s) (reply_lines.l k) 2 11 with
    | some i => rfl
    | none =>
      unfold tailV
      dsimp only
      split <;> rfl
  · rw [if_neg h0, if_neg h0]
    dsimp only
    rw [if_neg (show ¬ (false = true) by decide)]
    rfl
theorem read_at (k : Int) (s : ByteArray) (hs : s.size ≤ 1000000) : ∃ kk, reply_Read.f kk k s = some (readV k s) := by
  obtain ⟨kk, hk⟩ := hits_at k s 102 s [] hs (by decide) (by decide)
  refine ⟨kk, ?_⟩
  unfold reply_Read.f readV
  rw [cut_eq s hs, Option.bind_some]
  by_cases h0 : 0 ≤ ixE s
  · have hn := ix_room s h0
    have hz : (lineOf s).size ≤ 1000000 := by unfold lineOf; rw [ByteArray.size_extract]; omega
    rw [if_pos h0, if_pos h0]
    dsimp only
    have hsz : (s.extract ((ixE s).toNat + 2) s.size).size = s.size - ((ixE s).toNat + 2) := behind_size s
    have hw : wrap64 ((s.size : Int) - ((s.extract ((ixE s).toNat + 2) s.size).size : Int)) = ixE s + 2 := by
      rw [hsz]
      exact (w64 (i := (s.size : Int) - ((s.size - ((ixE s).toNat + 2) : Nat) : Int)) (by omega) (by omega)).trans (by omega)
    rw [if_pos rfl, hw, show s.extract 0 (ixE s).toNat = lineOf s from rfl, find_two, number_eq (lineOf s) _ hz]
    cases reply_Read.find (lineOf s) (reply_lines.l k) 2 11 with
    | some i => rfl
    | none =>
      dsimp only
      rw [Option.bind_some]
      split
      · rfl
      · exact hk
  · rw [if_neg h0, if_neg h0]
    dsimp only
    rw [if_neg (show ¬ (false = true) by decide)]
    rfl
end Go.Proofs.YtdgpagocccabdaaDoor.Pl
