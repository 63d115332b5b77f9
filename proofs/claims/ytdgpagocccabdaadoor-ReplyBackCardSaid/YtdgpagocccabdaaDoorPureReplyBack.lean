/- ReplyBack, in plain Lean: a result in bytes, with anything behind, is read as that result, and the bytes are all that was written. No condition. -/
import Derived.Test.YtdgpagocccabdaaDoorSayReplyBack
import Derived.Test.YtdgpagocccabdaaDoorRwc
import Derived.DataShut
namespace Go.Proofs.YtdgpagocccabdaaDoor.Pure
open Go Go.RowKit Go.Proofs.YtdgpagocccabdaaDoor.P Go.Proofs.YtdgpagocccabdaaDoor.Lim Go.Proofs.YtdgpagocccabdaaDoor.Pl Go.Proofs.YtdgpagocccabdaaDoorW.PrintWords
set_option linter.unusedVariables false
theorem ends_two (t : ByteArray) (h : endsL t) : ((t.extract (t.size - 2) t.size).toList != ([13, 10] : List UInt8)) = false := by
  obtain ⟨h1, _, q, hq⟩ := h
  have hz : t.size = q.length + 2 := by
    rw [← size_eq, hq, List.length_append]
    rfl
  rw [bne_eq_false_iff_eq, toList_data, from_data, hq, hz, show q.length + 2 - 2 = q.length from rfl, List.drop_left' rfl]
/-- What is left behind the loops: the text is written, and read with more behind. -/
structure Bk (k c n : Int) (l : List S47) (more : ByteArray) : Prop where
  at_ : ∃ t : ByteArray, tallboylaw18_To.L c l n = some (c, l.map cvH, n) ∧ reply_Text.f k c (l.map cvH) n = some t ∧ endsL t ∧ reply_Read.L k (t ++ more) = some (c, l.map cvH, n, (t.size : Int), 0) ∧ tallboylaw16_From.L c (l.map cvH) n = some (c, l, n) ∧ tallboyref15_Same.L c l n c l n = some true
theorem bk_of (k c n : Int) (l : List S47) (more : ByteArray) (hmore : more.size ≤ 1000) (c0 : 1 ≤ c) (c1 : c ≤ 12) (hn : 0 ≤ n) (hn2 : n < 18446744073709551616) (h7 : c ≠ 7 → n = 0) (h1 : c ≠ 1 → l = []) (ok : ∀ y ∈ l, okB k y) (hl : l.length ≤ 100) (ht : tot l < 20000) : Bk k c n l more := by
  obtain ⟨t, t1, t2, t3⟩ := read_back k c n l c0 c1 hn hn2 h7 h1 ok hl ht
  have hz := t2.2.1
  have hs : (t ++ more).size ≤ 1000000 := by rw [ByteArray.size_append]; omega
  have f := from_eq c (l.map cvH) n (by rw [List.length_map]; omega)
  rw [cv_back] at f
  exact ⟨t, to_eq c l n (by omega), t1, t2, by rw [read_L k _ hs, t3 _ more.data.toList hs (by rw [ByteArray.data_append, Array.toList_append])], f, same_eq c l n (by omega)⟩
theorem back_end (k c n : Int) (l z : List S47) (more : ByteArray) (hmore : more.size ≤ 1000) (h : Bk k c n l more) (j : Nat) (hj : l.length ≤ j) : tallboylaw18_ReplyBack.l0L k more l (j : Int) c z n = some true := by
  obtain ⟨t, h1, h2, h3, h4, h5, h6⟩ := h.at_
  have e2 := ends_two t h3
  obtain ⟨g1, g2, -⟩ := h3
  have w1 : wrap64 ((t.size : Int) - 2) = ((t.size - 2 : Nat) : Int) := (w64 (i := (t.size : Int) - 2) (by omega) (by omega)).trans (by omega)
  rw [tallboylaw18_ReplyBack.l0L_eq, if_neg (by omega), h1, Option.bind_some]
  dsimp only
  rw [h2, Option.bind_some, w1]
  clear w1
  rw [if_neg (by omega), if_pos (by omega), if_pos (by omega), Int.toNat_natCast, e2, tallboylaw18_ReplyBack.j4L_eq, if_neg (by decide), if_pos (by omega), h4, Option.bind_some]
  dsimp only
  rw [if_pos rfl, if_pos rfl, h5, Option.bind_some]
  dsimp only
  rw [h6]
  rfl
theorem back_end2 (k c n : Int) (more : ByteArray) (hmore : more.size ≤ 1000) (h : Bk k c n [] more) : tallboylaw18_ReplyBack.l1L k more [] 0 c n = some true := by
  obtain ⟨t, h1, h2, h3, h4, h5, h6⟩ := h.at_
  have e2 := ends_two t h3
  obtain ⟨g1, g2, -⟩ := h3
  have w1 : wrap64 ((t.size : Int) - 2) = ((t.size - 2 : Nat) : Int) := (w64 (i := (t.size : Int) - 2) (by omega) (by omega)).trans (by omega)
  rw [tallboylaw18_ReplyBack.l1L_eq, if_neg (by decide), h1, Option.bind_some]
  dsimp only
  rw [h2, Option.bind_some, w1]
  clear w1
  rw [if_neg (by omega), if_pos (by omega), if_pos (by omega), Int.toNat_natCast, e2, tallboylaw18_ReplyBack.j7L_eq, if_neg (by decide), if_pos (by omega), h4, Option.bind_some]
  dsimp only
  rw [if_pos rfl, if_pos rfl, h5, Option.bind_some]
  dsimp only
  rw [h6]
  rfl
theorem back_loop (k n : Int) (z : List S47) (more : ByteArray) (hmore : more.size ≤ 1000) (hb : ∀ l : List S47, (∀ y ∈ l, okB k y) → l.length ≤ 100 → tot l < 20000 → Bk k 1 n l more) (rest : List S47) : ∀ (done : List S47), (∀ y ∈ done, okB k y) → (∀ y ∈ rest, okH y) → done.length + rest.length ≤ 100 → tot done + tot rest < 20000 → tallboylaw18_ReplyBack.l0L k more (done ++ rest) (done.length : Int) 1 z n = some true := by
  induction rest with
  | nil =>
    intro done hd _ hl ht
    rw [List.append_nil]
    exact back_end k 1 n done z more hmore (hb done hd (by omega) (by omega)) _ (Nat.le_refl _)
  | cons y rest ih =>
    intro done hd ho hl ht
    rw [List.length_cons] at hl
    have ht : tot done + (1 + y.f0.size + y.f2.size + tot rest) < 20000 := ht
    have c0 : (done ++ y :: rest).length = done.length + (rest.length + 1) := by rw [List.length_append, List.length_cons]
    have c1 : (done.length : Int) < ((done ++ y :: rest).length : Int) := by omega
    have c2 : 0 ≤ (done.length : Int) := by omega
    have hg : rd_T47 (done ++ y :: rest) (done.length : Int) = y := by
      rw [rd47 _ _ (by omega)]
      simp
    have hW : wrap64 ((done.length : Int) + 1) = ((done.length + 1 : Nat) : Int) := (w64 (i := (done.length : Int) + 1) (by omega) (by omega)).trans (by omega)
    rw [tallboylaw18_ReplyBack.l0L_eq, if_pos c1, if_pos c2, hg, rkey_eq, Option.bind_some]
    cases hk : keyP y.f0 with
    | false => rw [if_neg (by decide), tallboylaw18_ReplyBack.j3L_eq, if_pos rfl]
    | true =>
      rw [if_pos rfl]
      by_cases hv : y.f2.size ≤ 2000
      · obtain ⟨o1, o2⟩ := cut_ok k y (ho y List.mem_cons_self) hk hv
        have next := ih (done ++ [cutH k y]) (fun q hq => by
          rcases List.mem_append.1 hq with h | h
          · exact hd q h
          · rw [List.mem_singleton.1 h]
            exact o1) (fun q hq => ho q (List.mem_cons_of_mem _ hq)) (by rw [List.length_append, List.length_singleton]; omega) (by rw [tot_app, o2]; omega)
        rw [List.append_assoc, List.length_append, List.length_singleton] at next
        rw [decide_eq_false (show ¬ ((y.f2.size : Int) > 2000) by omega), tallboylaw18_ReplyBack.j3L_eq, if_neg (by decide), shows_eq, Option.bind_some, hW]
        clear hW
        unfold cutH at next
        cases hs : shK k with
        | true =>
          rw [hs, if_pos rfl] at next
          rw [if_pos rfl]
          exact next
        | false =>
          rw [hs, if_neg (by decide)] at next
          rw [if_neg (by decide), if_pos c2, if_pos c1, hg, Int.toNat_natCast, List.set_append_right _ _ (Nat.le_refl _), Nat.sub_self]
          exact next
      · rw [decide_eq_true (show ((y.f2.size : Int) > 2000) by omega), tallboylaw18_ReplyBack.j3L_eq, if_pos rfl]
theorem back_stop (k : Int) (more : ByteArray) (c : Int) (l : List S47) (n : Int) : tallboylaw18_ReplyBack.j0L k more true c l n = some true := by
  rw [tallboylaw18_ReplyBack.j0L_eq, if_pos rfl]
theorem ReplyBack : replyBack.Pure := by
  intro k r more hk hr _
  obtain ⟨_, ⟨hb, _, hw⟩, hn⟩ := hr
  have hn : 0 ≤ r.f2 ∧ r.f2 ≤ 18446744073709551615 := (Lit.wf_int_iff .u64 r.f2).1 hn
  rw [replyBack.bytesOf47] at hb
  have ho : ∀ y ∈ r.f1, okH y := by
    intro y hy
    obtain ⟨_, h1, _, h3⟩ := hw y hy
    have q1 : 0 ≤ y.f1 ∧ y.f1 ≤ 4294967295 := (Lit.wf_int_iff .u32 y.f1).1 h1
    have q3 : 0 ≤ y.f3 ∧ y.f3 ≤ 18446744073709551615 := (Lit.wf_int_iff .u64 y.f3).1 h3
    exact ⟨by omega, by omega⟩
  refine (tallboylaw18_ReplyBack.Llm k r.f0 r.f1 r.f2 more).rounds ?_
  obtain ⟨g, hg, hf⟩ := great_tot r.f0 r.f1 r.f2 (by omega) (fun y hy => ⟨(hw y hy).1, (hw y hy).2.2.1⟩)
  rw [tallboylaw18_ReplyBack.L_eq, works18, Option.bind_some, if_pos rfl, hg, Option.bind_some]
  cases g with
  | true => rw [if_pos rfl]; exact back_stop ..
  | false =>
    have ht := hf rfl
    rw [if_neg (by decide)]
    by_cases a1 : r.f1.length ≤ 100
    · rw [if_neg (by omega)]
      by_cases a2 : more.size ≤ 1000
      · rw [if_neg (by omega)]
        by_cases a3 : r.f0 < 1
        · rw [if_pos a3]; exact back_stop ..
        · rw [if_neg a3]
          by_cases a4 : r.f0 > 12
          · rw [decide_eq_true a4]; exact back_stop ..
          · rw [decide_eq_false a4, tallboylaw18_ReplyBack.j0L_eq, if_neg (by decide)]
            have fine : ∀ n : Int, 0 ≤ n → n < 18446744073709551616 → (r.f0 ≠ 7 → n = 0) → tallboylaw18_ReplyBack.j1L k more r.f0 r.f1 n = some true := by
              intro n n0 n1 n7
              rw [tallboylaw18_ReplyBack.j1L_eq]
              by_cases h1 : r.f0 = 1
              · rw [if_pos h1, Option.bind_some, if_pos (by rw [List.length_nil]; omega), h1]
                exact back_loop k n r.f1 more a2 (fun l b1 b2 b3 => bk_of k 1 n l more a2 (by decide) (by decide) n0 n1 (fun h => n7 (by rw [h1]; exact h)) (fun h => absurd rfl h) b1 b2 b3) r.f1 [] (fun y hy => by cases hy) ho (by show 0 + _ ≤ _; omega) (by show 0 + _ < _; omega)
              · rw [if_neg h1]
                exact back_end2 k r.f0 n more a2 (bk_of k r.f0 n [] more a2 (by omega) (by omega) n0 n1 n7 (fun _ => rfl) (fun y hy => by cases hy) (Nat.zero_le _) (by decide))
            by_cases h7 : r.f0 = 7
            · rw [if_pos h7]
              exact fine r.f2 hn.1 (by omega) (fun h => absurd h7 h)
            · rw [if_neg h7]
              exact fine 0 (Int.le_refl _) (by decide) (fun _ => rfl)
      · rw [if_pos (by omega)]; exact back_stop ..
    · rw [if_pos (by omega)]; exact back_stop ..
end Go.Proofs.YtdgpagocccabdaaDoor.Pure
