/- What the document says of a line (tallboyref17.Parse, Words) is what line.Parse and line.Words say. Plain Lean; no condition. -/
import Derived.Test.YtbfgopinbpbddaaDoorLmLineReads
import Derived.Test.YtbfgopinbpbddaaDoorTot
import Derived.Test.YtbfgopinbpbddaaDoorWds
namespace Go.Proofs.YtbfgopinbpbddaaDoor.Pl
set_option linter.unusedVariables false
open Go Go.RowKit Go.Proofs.YtbfgopinbpbddaaDoor.P Go.Proofs.YtbfgopinbpbddaaDoor.Lim Go.Proofs.YtbfgopinbpbddaaDoorW.PrintWords
/-! the words -/
theorem rwords_loop (s : ByteArray) (hs : s.size ≤ 1000000) (d : Nat) : ∀ (i : Nat) (acc : List ByteArray), i + d = s.size + 1 → acc.length ≤ i →
    (∃ r, tallboyref17_Words.l0L s acc (-1) (i : Int) = some r ∧ r.map (·.data.toList) = acc.map (·.data.toList) ++ splitB [] (s.data.toList.drop i)) ∧
    (∀ p : Nat, p < i → i ≤ s.size → ∃ r, tallboyref17_Words.l0L s acc (p : Int) (i : Int) = some r ∧ r.map (·.data.toList) = acc.map (·.data.toList) ++ splitB ((s.data.toList.take i).drop p) (s.data.toList.drop i)) := by
  have hl : s.data.toList.length = s.size := size_eq s
  induction d with
  | zero =>
    intro i acc hi ha
    refine ⟨?_, fun p hp hi2 => by omega⟩
    rw [tallboyref17_Words.l0L_eq, if_neg (by omega)]
    refine ⟨acc, rfl, ?_⟩
    rw [List.drop_eq_nil_of_le (by omega)]
    simp [splitB]
  | succ d ih =>
    intro i acc hi ha
    have hw : wrap64 ((i : Int) + 1) = ((i + 1 : Nat) : Int) := by rw [w64 (by omega) (by omega)]; omega
    obtain ⟨h1, h2⟩ := ih (i + 1) acc (by omega) (by omega)
    have piece : ∀ p : Nat, (s.extract ((p : Int)).toNat ((i : Int)).toNat).data.toList = (s.data.toList.take i).drop p := by
      intro p
      rw [List.drop_take]
      simp
    have cur_ne : ∀ p : Nat, p < i → i ≤ s.size → (s.data.toList.take i).drop p ≠ [] := by
      intro p hp hi2 he
      have := congrArg List.length he
      rw [List.length_drop, List.length_take, List.length_nil] at this
      omega
    have h3 : ∀ p : Nat, ∃ r, tallboyref17_Words.l0L s (acc ++ [s.extract ((p : Int)).toNat ((i : Int)).toNat]) (-1) ((i + 1 : Nat) : Int) = some r ∧ r.map (·.data.toList) = acc.map (·.data.toList) ++ (s.data.toList.take i).drop p :: splitB [] (s.data.toList.drop (i + 1)) := by
      intro p
      obtain ⟨r, e1, e2⟩ := (ih (i + 1) (acc ++ [s.extract ((p : Int)).toNat ((i : Int)).toNat]) (by omega) (by rw [List.length_append]; simp; omega)).1
      refine ⟨r, e1, ?_⟩
      rw [e2, List.map_append, List.map_cons, List.map_nil, piece p, List.append_assoc]
      rfl
    rw [tallboyref17_Words.l0L_eq, if_pos (by omega)]
    by_cases hlt : i < s.size
    · rw [if_pos (by omega), if_pos (by omega)]
      have hb := bt_get s i (by omega)
      have hd := drop_bytes s i (by omega)
      generalize hbe : s.data.toList[i]'(by omega) = b at hb hd
      by_cases h32 : b = 32
      · have hq : (bt s (i : Int) != 32) = false := by rw [hb, h32]; rfl
        rw [hq, hd, h32]
        constructor
        · rw [tallboyref17_Words.j1L_eq, if_neg (by decide), if_neg (by decide), hw]
          obtain ⟨r, e1, e2⟩ := h1
          refine ⟨r, e1, ?_⟩
          rw [e2, splitB, if_pos rfl, if_pos rfl]
        · intro p hp hi2
          rw [tallboyref17_Words.l0L_eq, if_pos (by omega), if_pos (by omega), if_pos (by omega), hq, tallboyref17_Words.j1L_eq, if_neg (by decide), if_pos (by omega), if_pos (by omega), if_pos (by omega), if_pos (by omega), if_pos (by omega), hw]
          obtain ⟨r, e1, e2⟩ := h3 p
          refine ⟨r, e1, ?_⟩
          rw [e2, splitB, if_pos rfl, if_neg (cur_ne p hp hi2)]
      · have hq : (bt s (i : Int) != 32) = true := by
          rw [hb]
          refine bne_iff_ne.2 (fun h => h32 ?_)
          have h5 : b.toNat = 32 := by omega
          exact UInt8.toNat_inj.1 h5
        rw [hq, hd]
        have ht : ∀ p : Nat, p ≤ i → (s.data.toList.take (i + 1)).drop p = (s.data.toList.take i).drop p ++ [b] := by
          intro p hp
          rw [List.take_succ_eq_append_getElem (by omega : i < s.data.toList.length), hbe, List.drop_append_of_le_length (by rw [List.length_take]; omega)]
        constructor
        · rw [tallboyref17_Words.j1L_eq, if_pos rfl, if_pos (by decide), hw]
          obtain ⟨r, e1, e2⟩ := h2 i (by omega) (by omega)
          refine ⟨r, e1, ?_⟩
          rw [e2, ht i (Nat.le_refl _), splitB, if_neg h32, List.drop_eq_nil_of_le (by rw [List.length_take]; omega)]
        · intro p hp hi2
          rw [tallboyref17_Words.l0L_eq, if_pos (by omega), if_pos (by omega), if_pos (by omega), hq, tallboyref17_Words.j1L_eq, if_pos rfl, if_neg (by omega), hw]
          obtain ⟨r, e1, e2⟩ := h2 p (by omega) (by omega)
          refine ⟨r, e1, ?_⟩
          rw [e2, ht p (by omega), splitB, if_neg h32]
    · obtain rfl : i = s.size := by omega
      rw [if_neg (by omega)]
      have hz : s.data.toList.drop s.size = [] := List.drop_eq_nil_of_le (by omega)
      have hz1 : s.data.toList.drop (s.size + 1) = [] := List.drop_eq_nil_of_le (by omega)
      rw [hz1] at h1 h3
      rw [hz]
      constructor
      · rw [tallboyref17_Words.j1L_eq, if_neg (by decide), if_neg (by decide), hw]
        exact h1
      · intro p hp hi2
        rw [tallboyref17_Words.l0L_eq, if_pos (by omega), if_neg (by omega), tallboyref17_Words.j1L_eq, if_neg (by decide), if_pos (by omega), if_pos (by omega), if_pos (by omega), if_pos (by omega), if_pos (by omega), hw]
        obtain ⟨r, e1, e2⟩ := h3 p
        refine ⟨r, e1, ?_⟩
        rw [e2, splitB, splitB, if_pos rfl, if_neg (cur_ne p hp hi2)]
theorem rwords_eq (s : ByteArray) (hs : s.size ≤ 1000000) : tallboyref17_Words.L s = some (Lib.goFieldsP blankP s) := by
  obtain ⟨r, e1, e2⟩ := (rwords_loop s hs (s.size + 1) 0 [] (by omega) (Nat.le_refl _)).1
  rw [tallboyref17_Words.L_eq]
  refine e1.trans (congrArg some ?_)
  rw [List.map_nil, List.nil_append, List.drop_zero, ← words_split] at e2
  exact (List.map_inj_right (fun x y (hxy : x.data.toList = y.data.toList) => ba_ext hxy)).1 e2
/-! the same texts -/
theorem texts_loop (l : List ByteArray) (hn : l.length ≤ 1000000) (d : Nat) : ∀ i : Nat, i + d = l.length → tallboylaw16_SameTexts.l0L l l (i : Int) = some true := by
  induction d with
  | zero =>
    intro i hi
    rw [tallboylaw16_SameTexts.l0L_eq, if_neg (by omega)]
  | succ d ih =>
    intro i hi
    rw [tallboylaw16_SameTexts.l0L_eq, if_pos (by omega), if_pos (by omega), if_pos (by omega), if_pos rfl, w64 (by omega) (by omega), show ((i : Int) + 1) = ((i + 1 : Nat) : Int) by omega]
    exact ih (i + 1) (by omega)
theorem texts_refl (l : List ByteArray) (hn : l.length ≤ 1000000) : tallboylaw16_SameTexts.L l l = some true := by
  rw [tallboylaw16_SameTexts.L_eq, if_pos rfl]
  exact texts_loop l hn l.length 0 (by omega)
/-! the kinds -/
theorem rname_eq (a : Int) (h1 : 1 ≤ a) (h2 : a ≤ 15) : tallboyref15_Name.f a = some (rdOf ByteArray.empty verb_names.l a) := by
  unfold tallboyref15_Name.f
  simp only [Option.bind_some]
  rw [if_neg (by omega), if_neg (by omega), if_pos (by omega)]
  first | rfl | (rw [if_pos (by simp; omega)]; rfl) | (rw [if_pos (by omega)]; rfl)
theorem rkind_loop (a : ByteArray) (m : Nat) : ∀ j : Nat, m + j = 16 → 1 ≤ j → tallboyref15_Kind.l0L a (j : Int) = some (verb_Kind.v a m j) := by
  induction m with
  | zero =>
    intro j hj _
    rw [tallboyref15_Kind.l0L_eq, if_neg (by omega)]
    rfl
  | succ m ih =>
    intro j hj h1
    rw [tallboyref15_Kind.l0L_eq, if_pos (by omega), rname_eq _ (by omega) (by omega), Option.bind_some, verb_Kind.v]
    by_cases he : (rdOf ByteArray.empty verb_names.l (j : Int)).toList = a.toList
    · rw [if_pos he, if_pos he]
    · rw [if_neg he, if_neg he, w64 (by omega) (by omega), show ((j : Int) + 1) = ((j + 1 : Nat) : Int) by omega]
      exact ih (j + 1) (by omega) (by omega)
theorem kind_no (a : ByteArray) (he : a.toList = []) : ∀ m j : Nat, m + j = 16 → 1 ≤ j → verb_Kind.v a m j = 0 := by
  have hne : ∀ j : Nat, 1 ≤ j → j ≤ 15 → ¬ (rdOf ByteArray.empty verb_names.l (j : Int)).toList = a.toList := by
    intro j h1 h2
    rw [he, ByteArray.toList_eq]
    obtain ⟨k, rfl⟩ : ∃ k, j = k + 1 := ⟨j - 1, by omega⟩
    match k, h2 with
    | 0, _ => decide
    | 1, _ => decide
    | 2, _ => decide
    | 3, _ => decide
    | 4, _ => decide
    | 5, _ => decide
    | 6, _ => decide
    | 7, _ => decide
    | 8, _ => decide
    | 9, _ => decide
    | 10, _ => decide
    | 11, _ => decide
    | 12, _ => decide
    | 13, _ => decide
    | 14, _ => decide
  intro m
  induction m with
  | zero => intro j _ _; rfl
  | succ m ih =>
    intro j hj h1
    rw [verb_Kind.v, if_neg (hne j h1 (by omega))]
    exact ih (j + 1) (by omega) (by omega)
theorem rkind_eq (a : ByteArray) : tallboyref15_Kind.L a = some (verb_Kind.v a 16 0) := by
  rw [tallboyref15_Kind.L_eq, show (1 : Int) = ((1 : Nat) : Int) from rfl, rkind_loop a 15 1 rfl (Nat.le_refl _)]
  rw [show verb_Kind.v a 16 0 = if (rdOf ByteArray.empty verb_names.l ((0 : Nat) : Int)).toList = a.toList then ((0 : Nat) : Int) else verb_Kind.v a 15 1 from rfl]
  by_cases he : (rdOf ByteArray.empty verb_names.l ((0 : Nat) : Int)).toList = a.toList
  · rw [if_pos he, kind_no a (by rw [← he, ByteArray.toList_eq]; rfl) 15 1 rfl (Nat.le_refl _)]
    rfl
  · rw [if_neg he]
/-! the parts -/
theorem eta_eq (x : Option PT) : (x.bind fun b => some (b.1, b.2.1, b.2.2.1, b.2.2.2.1, b.2.2.2.2.1, b.2.2.2.2.2.1, b.2.2.2.2.2.2.1, b.2.2.2.2.2.2.2.1, b.2.2.2.2.2.2.2.2.1, b.2.2.2.2.2.2.2.2.2.1, b.2.2.2.2.2.2.2.2.2.2)) = x := by
  cases x <;> rfl
theorem rrd0 (x : ByteArray) (l : List ByteArray) : rdOf ByteArray.empty (x :: l) 0 = x := rfl
theorem rrd1 (x0 x : ByteArray) (l : List ByteArray) : rdOf ByteArray.empty (x0 :: x :: l) 1 = x := rfl
theorem rrd2 (x0 x1 x : ByteArray) (l : List ByteArray) : rdOf ByteArray.empty (x0 :: x1 :: x :: l) 2 = x := rfl
theorem rrd3 (x0 x1 x2 x : ByteArray) (l : List ByteArray) : rdOf ByteArray.empty (x0 :: x1 :: x2 :: x :: l) 3 = x := rfl
theorem rrd4 (x0 x1 x2 x3 x : ByteArray) (l : List ByteArray) : rdOf ByteArray.empty (x0 :: x1 :: x2 :: x3 :: x :: l) 4 = x := rfl
theorem rrd5 (x0 x1 x2 x3 x4 x : ByteArray) (l : List ByteArray) : rdOf ByteArray.empty (x0 :: x1 :: x2 :: x3 :: x4 :: x :: l) 5 = x := rfl
theorem rsg (s : ByteArray) (h : s.size ≤ 1000000) : tallboyref02_Signed.L s = some (kst s) := rsigned_eq s h
theorem rpr (s : ByteArray) (h : s.size ≤ 1000000) : tallboyref02_Parse.L s = some (kpr s) := rparse_eq s h
theorem dn_wr (e v : Int) (hv : v ≠ 0) (kd : Int) (keys : List ByteArray) (ex del : Int) (q : Bool) : dnV (wrV (e != 0) v 0) kd keys ex del q = if e = 0 then (1, kd, keys, 0, ex, ⟨#[]⟩, 0, del, q, 0, 0) else zP v := by
  by_cases he : e = 0
  · subst he
    rfl
  · rw [show (e != 0) = true from bne_iff_ne.2 he, if_neg he]
    unfold wrV
    rw [if_pos ⟨rfl, rfl⟩]
    unfold dnV
    rw [if_neg hv]
theorem dn_4 (b : Bool) (v kd : Int) (keys : List ByteArray) (ex del : Int) (q : Bool) : dnV (wrV b v 4) kd keys ex del q = zP 4 := by
  unfold wrV
  rw [if_neg (fun h => absurd h.2 (by decide))]
  rfl
theorem reads_keys (kd : Int) (ws : List ByteArray) (fr : Int) (keys : List ByteArray) (hn : keys.length ≤ 1000000) (d : Nat) : ∀ (i : Nat) (ok : Bool), i + d = keys.length →
    tallboyref17_reads.l0L kd ws fr keys ok (i : Int) = tallboyref17_reads.l0L kd ws fr keys (ok && (keys.drop i).all keyP) (keys.length : Int) := by
  induction d with
  | zero =>
    intro i ok hi
    obtain rfl : i = keys.length := by omega
    rw [List.drop_eq_nil_of_le (Nat.le_refl _), List.all_nil, Bool.and_true]
  | succ d ih =>
    intro i ok hi
    have hlt : i < keys.length := by omega
    rw [tallboyref17_reads.l0L_eq, if_pos (by omega), List.drop_eq_getElem_cons hlt, List.all_cons]
    have hw : wrap64 ((i : Int) + 1) = ((i + 1 : Nat) : Int) := by rw [w64 (by omega) (by omega)]; omega
    cases ok with
    | true =>
      rw [if_pos rfl, if_pos (by omega), rkey_eq, Option.bind_some, hw, ih (i + 1) _ (by omega), rdOf_get _ _ _ hlt, Bool.true_and]
    | false =>
      rw [if_neg (by decide), hw, ih (i + 1) _ (by omega), Bool.false_and, Bool.false_and]
theorem reads_end (kd : Int) (ws : List ByteArray) (fr : Int) (keys : List ByteArray) (ok : Bool) : tallboyref17_reads.l0L kd ws fr keys ok (keys.length : Int) =
    if ok = true then (if fr = 2 then (if 1 < (ws.length : Int) then (tallboyref02_Signed.L (rdOf ByteArray.empty ws 1)).bind fun b => (if b.2 = 0 then (some (1, kd, keys, 0, b.1, (⟨#[]⟩ : ByteArray), 0, 0, false, 0, 0)) else some (zP 7)) else none) else some (1, kd, keys, 0, 0, (⟨#[]⟩ : ByteArray), 0, 0, false, 0, 0)) else some (zP 4) := by
  rw [tallboyref17_reads.l0L_eq, if_neg (by omega)]
  rfl
theorem keys_ok (keys : List ByteArray) : kvP keys (wrV (decide (8 < keys.length)) 4 0) = if (decide ((keys.length : Int) ≤ 8) && keys.all keyP) = true then 0 else 4 := by
  unfold kvP wrV
  by_cases h : 8 < keys.length
  · have h2 : ¬ ((keys.length : Int) ≤ 8) := by omega
    simp [h, h2]
  · have h2 : (keys.length : Int) ≤ 8 := by omega
    cases keys.all keyP <;> simp [h, h2]
theorem rreads_eq (kd : Int) (w0 : ByteArray) (wt : List ByteArray) (hn : wt.length < 1000) (hw : ∀ x ∈ wt, x.size ≤ 1000000) : tallboyref17_reads.L kd (w0 :: wt) = readsO kd wt := by
  have hj : ∀ fr : Int, (fr = 1 ∨ fr = 2) → tallboyref17_reads.j1L kd (w0 :: wt) fr = if ((w0 :: wt).length : Int) ≤ fr then some (zP 3) else tallboyref17_reads.l0L kd (w0 :: wt) fr ((w0 :: wt).drop fr.toNat) (decide ((((w0 :: wt).drop fr.toNat).length : Int) ≤ 8) && (((w0 :: wt).drop fr.toNat)).all keyP) (((w0 :: wt).drop fr.toNat).length : Int) := by
    intro fr hf
    rw [tallboyref17_reads.j1L_eq]
    by_cases h : ((w0 :: wt).length : Int) ≤ fr
    · rw [if_pos h, if_pos h]
      rfl
    · rw [if_neg h, if_neg h, if_pos (by omega), if_pos (by omega), Option.bind_some, show (0 : Int) = ((0 : Nat) : Int) from rfl, reads_keys kd (w0 :: wt) fr ((w0 :: wt).drop fr.toNat) (by rw [List.length_drop, List.length_cons]; omega) ((w0 :: wt).drop fr.toNat).length 0 _ (by omega), List.drop_zero]
  have hL : tallboyref17_reads.L kd (w0 :: wt) = if kd = 3 ∨ kd = 4 then tallboyref17_reads.j1L kd (w0 :: wt) 2 else tallboyref17_reads.j1L kd (w0 :: wt) 1 := by
    rw [tallboyref17_reads.L_eq]
    by_cases h3 : kd = 3
    · rw [if_pos h3, if_pos (.inl h3), tallboyref17_reads.j0L_eq, if_pos rfl]
    · rw [if_neg h3, tallboyref17_reads.j0L_eq]
      by_cases h4 : kd = 4
      · rw [if_pos (beq_iff_eq.2 h4), if_pos (.inr h4)]
      · rw [if_neg (fun h => h4 (beq_iff_eq.1 h)), if_neg (fun h => h.elim h3 h4)]
  rw [hL]
  unfold readsO
  rw [if_pos hn]
  by_cases hk : kd = 3 ∨ kd = 4
  · rw [if_pos hk, if_pos hk, hj 2 (.inr rfl)]
    match wt, hn, hw with
    | [], _, _ => rw [if_pos (by simp)]
    | [y], _, _ => rw [if_pos (by simp)]
    | y :: x :: xs, hn, hw =>
      rw [if_neg (by simp; omega), show (w0 :: y :: x :: xs).drop ((2 : Int)).toNat = x :: xs from rfl, reads_end]
      dsimp only
      rw [show (xs.length + 1) = (x :: xs).length from rfl, keys_ok]
      generalize (decide (((x :: xs).length : Int) ≤ 8) && (x :: xs).all keyP) = ok
      cases ok with
      | true =>
        rw [if_pos rfl, if_pos rfl, if_pos (by simp; omega), rrd1, rsg y (hw y (by simp)), Option.bind_some, if_pos rfl]
        rw [dn_wr _ 7 (by decide)]
        by_cases he : (kst y).2 = 0
        · rw [if_pos he, if_pos he]
        · rw [if_neg he, if_neg he]
      | false =>
        rw [if_neg (by decide), if_neg (by decide), dn_4]
  · rw [if_neg hk, if_neg hk, hj 1 (.inl rfl)]
    match wt, hn, hw with
    | [], _, _ => rw [if_pos (by simp)]
    | x :: xs, hn, hw =>
      rw [if_neg (by simp; omega), show (w0 :: x :: xs).drop ((1 : Int)).toNat = x :: xs from rfl, reads_end]
      dsimp only
      rw [show (xs.length + 1) = (x :: xs).length from rfl, keys_ok]
      generalize (decide (((x :: xs).length : Int) ≤ 8) && (x :: xs).all keyP) = ok
      cases ok with
      | true =>
        rw [if_pos rfl, if_neg (by decide), if_pos rfl]
        rfl
      | false =>
        rw [if_neg (by decide), if_neg (by decide)]
        rfl
end Go.Proofs.YtbfgopinbpbddaaDoor.Pl
