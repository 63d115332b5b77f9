/- ReplyReads, in plain Lean: the result that any bytes say, by the program and by the document. No condition. -/
import Derived.Test.YtdgpagocccabdaaDoorSayReplyReads
import Derived.Test.YtdgpagocccabdaaDoorRra
import Derived.DataShut
namespace Go.Proofs.YtdgpagocccabdaaDoor.Pure
open Go Go.RowKit Go.Proofs.YtdgpagocccabdaaDoor.P Go.Proofs.YtdgpagocccabdaaDoor.Lim Go.Proofs.YtdgpagocccabdaaDoor.Pl Go.Proofs.YtdgpagocccabdaaDoorW.PrintWords
theorem hits_few (k : Int) (s : ByteArray) (d : Nat) : ∀ (rest : ByteArray) (hs : List S60), hs.length ≤ 101 → (hitsV k s d rest hs).2.1.length ≤ 101 := by
  induction d with
  | zero => intro rest hs _; exact Nat.zero_le _
  | succ d ih =>
    intro rest hs h
    unfold hitsV
    split
    · split
      · exact h
      · split
        · exact ih _ _ (by rw [List.length_append, List.length_singleton]; omega)
        · exact Nat.zero_le _
    · exact Nat.zero_le _
theorem read_few (k : Int) (s : ByteArray) : (readV k s).2.1.length ≤ 101 := by
  unfold readV
  split
  · split
    · exact Nat.zero_le _
    · split
      · exact Nat.zero_le _
      · exact hits_few k s 102 s [] (Nat.zero_le _)
  · exact Nat.zero_le _
theorem rd60 (l : List S60) (i : Nat) (h : i < l.length) : rd_T60 l (i : Int) = l[i] := by
  unfold rd_T60
  rw [Int.toNat_natCast, List.getD_eq_getElem?_getD, List.getElem?_eq_getElem h]
  rfl
theorem from_loop (l : List S60) (hl : l.length < 2932031007402) (d : Nat) : ∀ (i : Nat) (a b c n : Int), i + d = l.length → tallboylaw16_From.l0L (i : Int) a l b c ((l.take i).map cvB) n = some (c, l.map cvB, n) := by
  induction d with
  | zero =>
    intro i _ _ c n hi
    rw [tallboylaw16_From.l0L_eq, if_neg (by omega), List.take_of_length_le (by omega)]
  | succ d ih =>
    intro i a b c n hi
    have hlt : i < l.length := by omega
    rw [tallboylaw16_From.l0L_eq, if_pos (by omega), if_pos (by omega), if_pos (by rw [List.length_map, List.length_take]; omega), w64 (by omega) (by omega), show ((i : Int) + 1) = ((i + 1 : Nat) : Int) by omega]
    have e2 : (l.take i).map cvB ++ [(⟨(rd_T60 l (i : Int)).f0, (rd_T60 l (i : Int)).f1, (rd_T60 l (i : Int)).f2, (rd_T60 l (i : Int)).f3⟩ : S47)] = (l.take (i + 1)).map cvB := by
      rw [rd60 l i hlt, List.take_succ_eq_append_getElem hlt, List.map_append]
      rfl
    rw [e2, ih (i + 1) a b c n (by omega)]
theorem same_loop (l : List S47) (hl : l.length < 1000000) (a b c e : Int) (d : Nat) : ∀ i : Nat, i + d = l.length → tallboyref15_Same.l0L (i : Int) a l b c l e = some true := by
  induction d with
  | zero =>
    intro i hi
    rw [tallboyref15_Same.l0L_eq, if_neg (by omega)]
  | succ d ih =>
    intro i hi
    have c1 : (i : Int) < (l.length : Int) := by omega
    have c2 : 0 ≤ (i : Int) := by omega
    have hw : wrap64 ((i : Int) + 1) = ((i + 1 : Nat) : Int) := (w64 (i := (i : Int) + 1) (by omega) (by omega)).trans (by omega)
    rw [tallboyref15_Same.l0L_eq, if_pos c1, if_pos c2, if_pos c1, if_neg (by simp), hw]
    exact ih (i + 1) (by omega)
theorem ReplyReads : replyReads.Pure := by
  intro k s hk hs
  refine (tallboylaw18_ReplyReads.Llm k s).rounds ?_
  rw [tallboylaw18_ReplyReads.L_eq]
  by_cases hz : (s.size : Int) > 20000
  · rw [if_pos hz]
  · obtain ⟨kk, he⟩ := read_at k s (by omega)
    have e1 : reply_Read.L k s = some (readV k s) := (reply_Read.Llm k s).2 kk _ he
    have hf := read_few k s
    have e2 : tallboylaw16_From.L (readV k s).1 (readV k s).2.1 (readV k s).2.2.1 = some ((readV k s).1, (readV k s).2.1.map cvB, (readV k s).2.2.1) := by
      rw [tallboylaw16_From.L_eq]
      exact from_loop (readV k s).2.1 (by omega) (readV k s).2.1.length 0 _ _ _ _ (by omega)
    have e3 : tallboyref15_Same.L (readV k s).1 ((readV k s).2.1.map cvB) (readV k s).2.2.1 (readV k s).1 ((readV k s).2.1.map cvB) (readV k s).2.2.1 = some true := by
      rw [tallboyref15_Same.L_eq, if_pos rfl, if_pos rfl, tallboyref15_Same.j0L_eq, if_neg (by simp)]
      exact same_loop _ (by rw [List.length_map]; omega) _ _ _ _ ((readV k s).2.1.map cvB).length 0 (by omega)
    rw [if_neg hz, e1, Option.bind_some, rread_eq k s (by omega), Option.bind_some]
    unfold cvR
    dsimp only
    rw [e2, Option.bind_some, e3, Option.bind_some, if_pos rfl, if_pos rfl, beq_self_eq_true]
end Go.Proofs.YtdgpagocccabdaaDoor.Pure
