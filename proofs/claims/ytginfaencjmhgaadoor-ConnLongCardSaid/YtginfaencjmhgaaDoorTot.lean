/- What line.Parse says comes to one of nine verdicts; and a command is the same as itself. Plain Lean; no condition. -/
import Derived.Test.YtginfaencjmhgaaDoorPar
import Derived.Test.YtginfaencjmhgaaDoorLmS
namespace Go.Proofs.YtginfaencjmhgaaDoor.Pl
set_option linter.unusedVariables false
open Go Go.RowKit Go.Proofs.YtginfaencjmhgaaDoor.P Go.Proofs.YtginfaencjmhgaaDoor.Lim Go.Proofs.YtginfaencjmhgaaDoorW.PrintWords
theorem same_loop (k : Int) (keys : List ByteArray) (fl ex : Int) (v : ByteArray) (cas del : Int) (q : Bool) (hn : keys.length ≤ 4611686018427387904) (d : Nat) : ∀ i : Nat, i + d = keys.length → tallboyref17_SameCommands.l0L (i : Int) k keys fl ex v cas del q k keys fl ex v cas del q = some true := by
  induction d with
  | zero =>
    intro i hi
    rw [tallboyref17_SameCommands.l0L_eq, if_neg (by omega)]
    simp
  | succ d ih =>
    intro i hi
    rw [tallboyref17_SameCommands.l0L_eq, if_pos (by omega), if_pos (by omega), if_pos (by omega), if_pos rfl, w64 (by omega) (by omega), show ((i : Int) + 1) = ((i + 1 : Nat) : Int) by omega]
    exact ih (i + 1) (by omega)
theorem same_refl (k : Int) (keys : List ByteArray) (fl ex : Int) (v : ByteArray) (cas del : Int) (q : Bool) (hn : keys.length ≤ 4611686018427387904) : tallboyref17_SameCommands.L k keys fl ex v cas del q k keys fl ex v cas del q = some true := by
  rw [tallboyref17_SameCommands.L_eq, if_pos rfl]
  exact same_loop k keys fl ex v cas del q hn keys.length 0 (by omega)
theorem spans_len (p : Nat → Bool) (s : ByteArray) (f : Nat) : ∀ (pos : Nat) (st : Option Nat) (acc : List (Nat × Nat)), (Lib.spansFromP p s f pos st acc).1.length + (if (Lib.spansFromP p s f pos st acc).2.isSome = true then 1 else 0) ≤ acc.length + (if st.isSome = true then 1 else 0) + f := by
  induction f with
  | zero => exact fun pos st acc => Nat.le_refl _
  | succ f ih =>
    intro pos st acc
    unfold Lib.spansFromP
    split
    · split
      · cases st with
        | some a =>
          refine Nat.le_trans (ih _ _ _) ?_
          simp
          try omega
        | none =>
          refine Nat.le_trans (ih _ _ _) ?_
          simp
      · cases st with
        | some a =>
          refine Nat.le_trans (ih _ _ _) ?_
          simp
        | none =>
          refine Nat.le_trans (ih _ _ _) ?_
          simp
          omega
    · show acc.length + (if st.isSome = true then 1 else 0) ≤ _
      omega
theorem words_len (s : ByteArray) : (Lib.goFieldsP blankP s).length ≤ s.size := by
  unfold Lib.goFieldsP Lib.spansOfP
  rw [List.length_map]
  have h := spans_len blankP s s.size 0 none []
  generalize Lib.spansFromP blankP s s.size 0 none [] = x at h
  obtain ⟨l, st⟩ := x
  unfold Lib.closeSpans
  cases st with
  | none =>
    simp at h
    exact h
  | some a =>
    simp at h ⊢
    exact h
theorem kind_rng (a : ByteArray) (m : Nat) : ∀ j : Nat, verb_Kind.v a m j = 0 ∨ ((j : Int) ≤ verb_Kind.v a m j ∧ verb_Kind.v a m j < ((j + m : Nat) : Int)) := by
  induction m with
  | zero => exact fun j => .inl rfl
  | succ m ih =>
    intro j
    unfold verb_Kind.v
    by_cases h : (rdOf ByteArray.empty verb_names.l j).toList = a.toList
    · rw [if_pos h]
      exact .inr ⟨Int.le_refl _, by omega⟩
    · rw [if_neg h]
      rcases ih (j + 1) with h | h
      · exact .inl h
      · exact .inr ⟨by omega, by omega⟩
theorem kind_le (a : ByteArray) : 0 ≤ verb_Kind.v a 16 0 ∧ verb_Kind.v a 16 0 ≤ 15 := by
  rcases kind_rng a 16 0 with h | h
  · rw [h]
    exact ⟨by decide, by decide⟩
  · exact ⟨by omega, by omega⟩
theorem wr_or (b : Bool) (v f1 : Int) : wrV b v f1 = v ∨ wrV b v f1 = f1 := by
  unfold wrV
  by_cases h : b = true ∧ f1 = 0
  · rw [if_pos h]; exact .inl rfl
  · rw [if_neg h]; exact .inr rfl
theorem wr0 {b : Bool} {v f1 : Int} (h : wrV b v f1 = 0) (hv : v ≠ 0) : b = false ∧ f1 = 0 := by
  unfold wrV at h
  by_cases hb : b = true ∧ f1 = 0
  · rw [if_pos hb] at h
    exact absurd h hv
  · rw [if_neg hb] at h
    refine ⟨?_, h⟩
    cases b with
    | false => rfl
    | true => exact absurd ⟨rfl, h⟩ hb
theorem chk_ok (k : Int) (keys : List ByteArray) (fl ex cas del : Int) (q : Bool) (h1 : 1 ≤ k) (h2 : k ≤ 15) (hw : wholeB k = true ∨ fl = 0) (hx : endsB k = true ∨ ex = 0) (hc : k = 10 ∨ cas = 0) (hd : (k = 12 ∨ k = 13) ∨ del = 0) (hq : k ≤ 4 → q = false) (hn : nOk k keys.length = true) (hk : keys.all keyP = true) : chk k keys fl ex ⟨#[]⟩ cas del q = 0 := by
  have e1 : (wholeB k || decide (fl = 0)) = true := by rcases hw with h | h <;> simp [h]
  have e2 : (storesB k || decide ((⟨#[]⟩ : ByteArray) = ByteArray.empty)) = true := by rw [decide_eq_true (p := (⟨#[]⟩ : ByteArray) = ByteArray.empty) rfl, Bool.or_true]
  have e3 : (endsB k || decide (ex = 0)) = true := by rcases hx with h | h <;> simp [h]
  have e4 : (decide (k = 10) || decide (cas = 0)) = true := by rcases hc with h | h <;> simp [h]
  have e5 : (decide (k = 12 ∨ k = 13) || decide (del = 0)) = true := by rcases hd with h | h <;> simp [h]
  have e6 : (!decide (1 ≤ k ∧ k ≤ 4) || !q) = true := by
    by_cases h4 : k ≤ 4
    · rw [hq h4]; simp
    · rw [decide_eq_false (p := 1 ≤ k ∧ k ≤ 4) (by omega)]; rfl
  have ef : fieldsB k fl ex ⟨#[]⟩ cas del q = true := by
    unfold fieldsB
    rw [e1, e2, e3, e4, e5, e6]
    rfl
  unfold chk
  rw [if_pos ⟨h1, h2⟩, ef, hn, hk]
  rfl
/-- What line.Parse may say. -/
inductive Good : PT → Prop
  | ready (kd : Int) (keys : List ByteArray) (ex del : Int) (q : Bool) : chk kd keys 0 ex ⟨#[]⟩ 0 del q = 0 → storesB kd = false → keys.length ≤ 1000 → Good (1, kd, keys, 0, ex, ⟨#[]⟩, 0, del, q, 0, 0)
  | wants (kd : Int) (a : ByteArray) (fl ex cas : Int) (q : Bool) (n : Int) : chk kd [a] fl ex ⟨#[]⟩ cas 0 q = 0 → storesB kd = true → 0 ≤ n → n ≤ 2000 → Good (2, kd, [a], fl, ex, ⟨#[]⟩, cas, 0, q, n, 0)
  | big (kd : Int) (a : ByteArray) (q : Bool) (sw : Int) : chk kd [a] 0 0 ⟨#[]⟩ 0 0 q = 0 → storesB kd = true → (sw = 0 ∨ 2002 < sw) → Good (8, kd, [a], 0, 0, ⟨#[]⟩, 0, 0, q, 0, sw)
  | bad (v sw : Int) : (v = 4 ∨ v = 7) → 0 ≤ sw → Good (v, 0, [], 0, 0, ⟨#[]⟩, 0, 0, false, 0, sw)
  | none_ (v : Int) : (v = 3 ∨ v = 5 ∨ v = 6 ∨ v = 9) → Good (v, 0, [], 0, 0, ⟨#[]⟩, 0, 0, false, 0, 0)
theorem good_dn (vd kd : Int) (keys : List ByteArray) (ex del : Int) (q : Bool) (hv : vd = 0 ∨ vd = 4 ∨ vd = 6 ∨ vd = 7) (h : vd = 0 → chk kd keys 0 ex ⟨#[]⟩ 0 del q = 0 ∧ storesB kd = false ∧ keys.length ≤ 1000) : Good (dnV vd kd keys ex del q) := by
  unfold dnV
  by_cases h0 : vd = 0
  · rw [if_pos h0]
    obtain ⟨h1, h2, h3⟩ := h h0
    exact .ready _ _ _ _ _ h1 h2 h3
  · rw [if_neg h0]
    by_cases h6 : vd = 6
    · exact .none_ _ (by omega)
    · exact .bad _ _ (by omega) (by decide)
theorem stores_no {kd : Int} (h : kd ≤ 4 ∨ 10 < kd) : storesB kd = false := decide_eq_false (by omega)
theorem kvP0 {l : List ByteArray} {n : Nat} (h : kvP l (wrV (decide (8 < n)) 4 0) = 0) : l.all keyP = true ∧ n ≤ 8 := by
  obtain ⟨h1, h2⟩ := wr0 h (by decide)
  obtain ⟨h3, _⟩ := wr0 h2 (by decide)
  exact ⟨by simpa using h1, by simpa using h3⟩
theorem kvP_or (l : List ByteArray) (b : Bool) : kvP l (wrV b 4 0) = 0 ∨ kvP l (wrV b 4 0) = 4 := by
  unfold kvP
  rcases wr_or (!(l.all keyP)) 4 (wrV b 4 0) with h | h
  · exact .inr h
  · rw [h]
    exact (wr_or b 4 0).symm
theorem reads_good (kd : Int) (ws : List ByteArray) (h1 : 1 ≤ kd) (h4 : kd ≤ 4) (hn : ws.length < 1000) : ∃ r, readsO kd ws = some r ∧ Good r := by
  unfold readsO
  rw [if_pos hn]
  by_cases hk : kd = 3 ∨ kd = 4
  · rw [if_pos hk]
    match ws, hn with
    | [], _ => exact ⟨_, rfl, .none_ 3 (by decide)⟩
    | [_], _ => exact ⟨_, rfl, .none_ 3 (by decide)⟩
    | y :: x :: xs, hn =>
      refine ⟨_, rfl, good_dn _ _ _ _ _ _ ?_ (fun h => ?_)⟩
      · rcases wr_or ((kst y).2 != 0) 7 (kvP (x :: xs) (wrV (decide (8 < xs.length + 1)) 4 0)) with h | h
        · omega
        · have := kvP_or (x :: xs) (decide (8 < xs.length + 1))
          omega
      · obtain ⟨_, h⟩ := wr0 h (by decide)
        obtain ⟨h5, h6⟩ := kvP0 h
        refine ⟨chk_ok _ _ _ _ _ _ _ h1 (by omega) (.inr rfl) (.inl (decide_eq_true (by omega))) (.inr rfl) (.inr rfl) (fun _ => rfl) ?_ h5, stores_no (.inl h4), by simp only [List.length_cons]; omega⟩
        unfold nOk
        rw [if_pos ⟨h1, h4⟩]
        exact decide_eq_true ⟨by simp only [List.length_cons]; omega, by simp only [List.length_cons]; omega⟩
  · rw [if_neg hk]
    match ws, hn with
    | [], _ => exact ⟨_, rfl, .none_ 3 (by decide)⟩
    | x :: xs, hn =>
      refine ⟨_, rfl, good_dn _ _ _ _ _ _ ?_ (fun h => ?_)⟩
      · have := kvP_or (x :: xs) (decide (8 < xs.length + 1))
        omega
      · obtain ⟨h5, h6⟩ := kvP0 h
        refine ⟨chk_ok _ _ _ _ _ _ _ h1 (by omega) (.inr rfl) (.inr rfl) (.inr rfl) (.inr rfl) (fun _ => rfl) ?_ h5, stores_no (.inl h4), by simp only [List.length_cons]; omega⟩
        unfold nOk
        rw [if_pos ⟨h1, h4⟩]
        exact decide_eq_true ⟨by simp only [List.length_cons]; omega, by simp only [List.length_cons]; omega⟩
theorem nOk1 {kd : Int} (h : 5 ≤ kd) (h15 : kd ≠ 15) (a : ByteArray) : nOk kd [a].length = true := by
  unfold nOk
  rw [if_neg (by omega), if_neg h15]
  rfl
theorem all1 {a : ByteArray} (h : keyP a = true) : [a].all keyP = true := by rw [List.all_cons, h]; rfl
theorem fin_good (kd : Int) (q : Bool) (a : ByteArray) (size fl ends cas v4 : Int) (h5 : 5 ≤ kd) (h10 : kd ≤ 10) (hs : 0 ≤ size) (hv : v4 = 0 ∨ v4 = 4 ∨ v4 = 7) (hk : v4 = 0 → keyP a = true) (hc : kd = 10 ∨ cas = 0) : Good (line_stores.fin kd q a size fl ends cas v4) := by
  have hst : storesB kd = true := decide_eq_true ⟨h5, h10⟩
  have hsw : ∀ n : Int, 0 ≤ n → 0 ≤ (if n ≤ 2147483647 then n + 2 else 0) := fun n hn => by split <;> omega
  unfold line_stores.fin
  by_cases h0 : v4 = 0
  · rw [if_pos h0]
    have hk := hk h0
    by_cases h2 : 2000 < size
    · rw [if_pos h2]
      refine .big _ _ _ _ (chk_ok _ _ _ _ _ _ _ (by omega) (by omega) (.inr rfl) (.inr rfl) (.inr rfl) (.inr rfl) (fun h => by omega) (nOk1 h5 (by omega) a) (all1 hk)) hst ?_
      split <;> omega
    · rw [if_neg h2]
      by_cases h8 : kd = 8 ∨ kd = 9
      · rw [if_pos h8]
        exact .wants _ _ _ _ _ _ _ (chk_ok _ _ _ _ _ _ _ (by omega) (by omega) (.inr rfl) (.inr rfl) hc (.inr rfl) (fun h => by omega) (nOk1 h5 (by omega) a) (all1 hk)) hst hs (by omega)
      · rw [if_neg h8]
        exact .wants _ _ _ _ _ _ _ (chk_ok _ _ _ _ _ _ _ (by omega) (by omega) (.inl (decide_eq_true (by omega))) (.inl (decide_eq_true (by omega))) hc (.inr rfl) (fun h => by omega) (nOk1 h5 (by omega) a) (all1 hk)) hst hs (by omega)
  · rw [if_neg h0]
    exact .bad _ _ (by omega) (hsw _ hs)
theorem cas_some (kd v2 : Int) (rest : List ByteArray) (h : kd = 10 → rest ≠ []) : ∃ c v3, casO kd v2 rest = some (c, v3) ∧ (v3 = 4 ∨ v3 = v2) ∧ (v3 = 0 → v2 = 0) ∧ (kd = 10 ∨ c = 0) := by
  unfold casO
  by_cases hk : kd = 10
  · rw [if_pos hk]
    match rest, h hk with
    | x :: _, _ => exact ⟨_, _, rfl, wr_or _ _ _, fun h => (wr0 h (by decide)).2, .inl hk⟩
  · rw [if_neg hk]
    exact ⟨_, _, rfl, .inr rfl, id, .inr rfl⟩
theorem stores_good (kd : Int) (q : Bool) (ws : List ByteArray) (h5 : 5 ≤ kd) (h10 : kd ≤ 10) (hn : ws.length = line_Parse.nw kd) : ∃ r, storesO kd q ws = some r ∧ Good r := by
  have hl : 4 ≤ ws.length ∧ (kd = 10 → 5 ≤ ws.length) := by
    rw [hn]
    unfold line_Parse.nw
    by_cases h : kd = 10
    · rw [if_pos h]; exact ⟨by decide, fun _ => by decide⟩
    · rw [if_neg h, if_pos (by omega)]; exact ⟨by decide, fun h' => absurd h' h⟩
  clear hn
  unfold storesO
  match ws, hl with
  | [], hl => exact absurd hl.1 (by simp)
  | [_], hl => exact absurd hl.1 (by simp)
  | [_, _], hl => exact absurd hl.1 (by simp)
  | [_, _, _], hl => exact absurd hl.1 (by simp)
  | a :: b :: e :: d :: rest, hl =>
    dsimp only
    by_cases hs : (kst d).2 = 0 ∧ 0 ≤ (kst d).1
    · rw [if_pos hs]
      obtain ⟨c, v3, h1, h2, h3, h4⟩ := cas_some kd (wrV ((kpr b).2 != 0 || decide ((4294967295 : Int) < (kpr b).1)) 4 (wrV (!keyP a) 4 0)) rest (fun hk he => by have := hl.2 hk; rw [he] at this; simp at this)
      rw [h1, Option.bind_some]
      refine ⟨_, rfl, fin_good _ _ _ _ _ _ _ _ h5 h10 hs.2 ?_ (fun h => ?_) h4⟩
      · have w1 := wr_or ((kst e).2 != 0) 7 v3
        have w2 := wr_or ((kpr b).2 != 0 || decide ((4294967295 : Int) < (kpr b).1)) 4 (wrV (!keyP a) 4 0)
        have w3 := wr_or (!keyP a) 4 0
        dsimp only
        omega
      · have k1 := (wr0 h (by decide)).2
        have k2 := (wr0 (h3 k1) (by decide)).2
        simpa using (wr0 k2 (by decide)).1
    · rw [if_neg hs]
      exact ⟨_, rfl, .none_ 5 (by decide)⟩
theorem own_good (kd : Int) (q : Bool) (ws : List ByteArray) (h10 : 10 < kd) (h15 : kd ≤ 15) (hn : ws.length = line_Parse.nw kd) : ∃ r, ownO kd q ws = some r ∧ Good r := by
  unfold ownO
  by_cases hk : kd = 15
  · rw [if_pos hk]
    refine ⟨_, rfl, good_dn _ _ _ _ _ _ (.inl rfl) (fun _ => ⟨?_, stores_no (.inr h10), by simp⟩)⟩
    exact chk_ok _ _ _ _ _ _ _ (by omega) h15 (.inr rfl) (.inr rfl) (.inr rfl) (.inr rfl) (fun h => by omega) (by rw [hk]; rfl) rfl
  · rw [if_neg hk]
    unfold line_Parse.nw at hn
    rw [if_neg (by omega), if_neg (by omega)] at hn
    by_cases h11 : kd = 11
    · rw [if_pos h11] at hn
      match ws, hn with
      | a :: t, hn =>
        dsimp only
        rw [if_pos h11]
        refine ⟨_, rfl, good_dn _ _ _ _ _ _ ?_ (fun h => ⟨?_, stores_no (.inr h10), by simp⟩)⟩
        · have := wr_or (!keyP a) 4 0
          omega
        · exact chk_ok _ _ _ _ _ _ _ (by omega) h15 (.inr rfl) (.inr rfl) (.inr rfl) (.inr rfl) (fun h => by omega) (nOk1 (by omega) hk a) (all1 (by simpa using (wr0 h (by decide)).1))
    · rw [if_neg h11, if_pos (by omega)] at hn
      match ws, hn with
      | a :: x :: t, hn =>
        dsimp only
        rw [if_neg h11]
        by_cases h14 : kd = 14
        · rw [if_pos h14]
          refine ⟨_, rfl, good_dn _ _ _ _ _ _ ?_ (fun h => ⟨?_, stores_no (.inr h10), by simp⟩)⟩
          · have := wr_or (!keyP a) 4 0
            have := wr_or ((kst x).2 != 0) 7 (wrV (!keyP a) 4 0)
            omega
          · exact chk_ok _ _ _ _ _ _ _ (by omega) h15 (.inr rfl) (.inl (decide_eq_true (by omega))) (.inr rfl) (.inr rfl) (fun h => by omega) (nOk1 (by omega) hk a) (all1 (by simpa using (wr0 (wr0 h (by decide)).2 (by decide)).1))
        · rw [if_neg h14]
          refine ⟨_, rfl, good_dn _ _ _ _ _ _ ?_ (fun h => ⟨?_, stores_no (.inr h10), by simp⟩)⟩
          · have := wr_or (!keyP a) 4 0
            have := wr_or ((kpr x).2 != 0) 6 (wrV (!keyP a) 4 0)
            omega
          · exact chk_ok _ _ _ _ _ _ _ (by omega) h15 (.inr rfl) (.inr rfl) (.inr rfl) (.inl (by omega)) (fun h => by omega) (nOk1 (by omega) hk a) (all1 (by simpa using (wr0 (wr0 h (by decide)).2 (by decide)).1))
theorem rest_good (kd : Int) (q : Bool) (ws : List ByteArray) (h5 : 5 ≤ kd) (h15 : kd ≤ 15) (hn : ws.length = line_Parse.nw kd) : ∃ r, restO kd q ws = some r ∧ Good r := by
  unfold restO
  by_cases h : kd ≤ 10
  · rw [if_pos h]; exact stores_good kd q ws h5 h hn
  · rw [if_neg h]; exact own_good kd q ws (by omega) h15 hn
theorem parse_good (s : ByteArray) : ∃ r, pO s = some r ∧ Good r := by
  unfold pO
  by_cases h : 160 < s.size
  · rw [if_pos h]
    exact ⟨_, rfl, .none_ 9 (by decide)⟩
  rw [if_neg h]
  have hl := words_len s
  generalize Lib.goFieldsP blankP s = ws at hl
  unfold wordsO
  match ws, hl with
  | [], _ => exact ⟨_, rfl, .none_ 3 (by decide)⟩
  | w0 :: wt, hl =>
    have hk := kind_le w0
    dsimp only
    unfold verb_Kind.f
    rw [Option.bind_some]
    generalize verb_Kind.v w0 16 0 = kd at hk
    simp only [List.length_cons] at hl
    by_cases h0 : kd = 0
    · rw [if_pos h0]
      exact ⟨_, rfl, .none_ 3 (by decide)⟩
    rw [if_neg h0]
    by_cases h4 : kd ≤ 4
    · rw [if_pos h4]
      exact reads_good kd wt (by omega) h4 (by omega)
    rw [if_neg h4, if_neg (by omega)]
    by_cases hq : wt.length = line_Parse.nw kd + 1 ∧ wt.getD (line_Parse.nw kd) ByteArray.empty = NRP
    · rw [if_pos hq]
      exact rest_good kd true _ (by omega) hk.2 (by rw [List.length_take]; omega)
    · rw [if_neg hq]
      by_cases hn : wt.length = line_Parse.nw kd
      · rw [if_pos hn]
        exact rest_good kd false _ (by omega) hk.2 hn
      · rw [if_neg hn]
        exact ⟨_, rfl, .none_ 3 (by decide)⟩
end Go.Proofs.YtginfaencjmhgaaDoor.Pl
