/- Results that were read, told as the document's, and whether two are the same. Plain Lean; conditions: bounds that each theorem names. -/
import Derived.Test.YtdgpagocccabdaaDoorRwb
import Derived.Test.YtdgpagocccabdaaDoorLmReplyRow
namespace Go.Proofs.YtdgpagocccabdaaDoor.Pl
set_option linter.unusedVariables false
set_option linter.unusedSimpArgs false
open Go Go.RowKit Go.Proofs.YtdgpagocccabdaaDoor.P Go.Proofs.YtdgpagocccabdaaDoor.Lim Go.Proofs.YtdgpagocccabdaaDoorW.PrintWords
theorem rd60' (l : List S60) (i : Nat) (h : i < l.length) : rd_T60 l (i : Int) = l[i] := by
  unfold rd_T60
  rw [Int.toNat_natCast, List.getD_eq_getElem?_getD, List.getElem?_eq_getElem h]
  rfl
theorem from_loop' (l : List S60) (hl : l.length < 2932031007402) (d : Nat) : ∀ (i : Nat) (a b c n : Int), i + d = l.length → tallboylaw16_From.l0L (i : Int) a l b c ((l.take i).map cvB) n = some (c, l.map cvB, n) := by
  induction d with
  | zero =>
    intro i _ _ c n hi
    rw [tallboylaw16_From.l0L_eq, if_neg (by omega), List.take_of_length_le (by omega)]
  | succ d ih =>
    intro i a b c n hi
    have hlt : i < l.length := by omega
    rw [tallboylaw16_From.l0L_eq, if_pos (by omega), if_pos (by omega), if_pos (by rw [List.length_map, List.length_take]; omega), w64 (by omega) (by omega), show ((i : Int) + 1) = ((i + 1 : Nat) : Int) by omega]
    have e2 : (l.take i).map cvB ++ [(⟨(rd_T60 l (i : Int)).f0, (rd_T60 l (i : Int)).f1, (rd_T60 l (i : Int)).f2, (rd_T60 l (i : Int)).f3⟩ : S47)] = (l.take (i + 1)).map cvB := by
      rw [rd60' l i hlt, List.take_succ_eq_append_getElem hlt, List.map_append]
      rfl
    rw [e2, ih (i + 1) a b c n (by omega)]
theorem from_eq (c : Int) (l : List S60) (n : Int) (hl : l.length < 2932031007402) : tallboylaw16_From.L c l n = some (c, l.map cvB, n) := by
  rw [tallboylaw16_From.L_eq]
  exact from_loop' l hl l.length 0 _ _ _ _ (by omega)
theorem same_loop' (l : List S47) (hl : l.length < 1000000) (a b c e : Int) (d : Nat) : ∀ i : Nat, i + d = l.length → tallboyref15_Same.l0L (i : Int) a l b c l e = some true := by
  induction d with
  | zero =>
    intro i hi
    rw [tallboyref15_Same.l0L_eq, if_neg (by omega)]
  | succ d ih =>
    intro i hi
    have c1 : (i : Int) < (l.length : Int) := by omega
    have c2 : 0 ≤ (i : Int) := by omega
    have hw : wrap64 ((i : Int) + 1) = ((i + 1 : Nat) : Int) := (w64 (i := (i : Int) + 1) (by omega) (by omega)).trans (by omega)
    rw [tallboyref15_Same.l0L_eq, if_pos c1, if_pos c2, if_pos c1, if_neg (by simp), hw]
    exact ih (i + 1) (by omega)
theorem same_eq (c : Int) (l : List S47) (n : Int) (hl : l.length < 1000000) : tallboyref15_Same.L c l n c l n = some true := by
  rw [tallboyref15_Same.L_eq, if_pos rfl, if_pos rfl, tallboyref15_Same.j0L_eq, if_neg (by simp)]
  exact same_loop' _ hl _ _ _ _ l.length 0 (by omega)
theorem cv_back (l : List S47) : (l.map cvH).map cvB = l := by
  rw [List.map_map]
  exact List.map_id'' (fun _ => rfl) l
theorem works18 : tallboylaw18_works.L = some true := tallboylaw18_works.Llm.2 60 true (by decide +kernel)
theorem tot_app (a b : List S47) : tot (a ++ b) = tot a + tot b := by
  induction a with
  | nil => show tot b = 0 + tot b; omega
  | cons y a ih =>
    show 1 + y.f0.size + y.f2.size + tot (a ++ b) = 1 + y.f0.size + y.f2.size + tot a + tot b
    omega
theorem tot_one (y : S47) : tot [y] = 1 + y.f0.size + y.f2.size := by
  show 1 + y.f0.size + y.f2.size + 0 = _
  omega
theorem read_L (k : Int) (s : ByteArray) (h : s.size ≤ 1000000) : reply_Read.L k s = some (readV k s) := by
  obtain ⟨kk, he⟩ := read_at k s h
  exact (reply_Read.Llm k s).2 kk _ he
/-- A hit as it is kept for a kind that does not show its number. -/
def cutH (k : Int) (y : S47) : S47 := if shK k = true then y else ⟨y.f0, y.f1, y.f2, 0⟩
theorem cut_ok (k : Int) (y : S47) (h : okH y) (hk : keyP y.f0 = true) (hv : y.f2.size ≤ 2000) : okB k (cutH k y) ∧ tot [cutH k y] = 1 + y.f0.size + y.f2.size := by
  unfold cutH
  cases hs : shK k with
  | true =>
    rw [if_pos rfl]
    exact ⟨⟨h, hk, hv, fun e => by rw [hs] at e; cases e⟩, tot_one y⟩
  | false =>
    rw [if_neg (by decide)]
    exact ⟨⟨⟨h.1, ⟨Int.le_refl _, by show (0 : Int) < _; decide⟩⟩, hk, hv, fun _ => rfl⟩, tot_one _⟩
end Go.Proofs.YtdgpagocccabdaaDoor.Pl
