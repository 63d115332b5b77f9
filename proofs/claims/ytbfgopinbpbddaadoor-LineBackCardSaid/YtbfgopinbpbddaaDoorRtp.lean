/- A right command's line, read again, says the command. Plain Lean; no condition. -/
import Derived.Test.YtbfgopinbpbddaaDoorTot
namespace Go.Proofs.YtbfgopinbpbddaaDoor.Pl
set_option linter.unusedVariables false
open Go Go.RowKit Go.Proofs.YtbfgopinbpbddaaDoor.P Go.Proofs.YtbfgopinbpbddaaDoor.Lim Go.Proofs.YtbfgopinbpbddaaDoorW.PrintWords
theorem kind_name_fin : ∀ n : Fin 15, verb_Kind.v (nameV ((n.val : Int) + 1)) 16 0 = (n.val : Int) + 1 ∧ (nameV ((n.val : Int) + 1)).data.toList ≠ [] ∧ (nameV ((n.val : Int) + 1)).data.toList.all (fun b => b != 32) = true := by decide +kernel
theorem kind_name (k : Int) (h1 : 1 ≤ k) (h2 : k ≤ 15) : verb_Kind.v (nameV k) 16 0 = k ∧ okL (nameV k).data.toList := by
  have h := kind_name_fin ⟨(k - 1).toNat, by omega⟩
  rw [show (((⟨(k - 1).toNat, by omega⟩ : Fin 15).val : Int) + 1) = k from by show ((k - 1).toNat : Int) + 1 = k; omega] at h
  obtain ⟨a, b, c⟩ := h
  refine ⟨a, b, fun x hx h32 => ?_⟩
  have := List.all_eq_true.1 c x hx
  rw [h32] at this
  exact absurd this (by decide)
theorem kst_text (u : Nat) (h : u ≤ 2000) : kst (textV u) = ((u : Int), 0) := by
  have e := stext_pos (u : Int) (by omega)
  rw [Int.toNat_natCast] at e
  rw [← e]
  exact kst_stext _ (by omega) (by omega)
theorem kpr_int (u : Int) (h0 : 0 ≤ u) (h1 : u ≤ 18446744073709551615) : kpr (textV u.toNat) = (u, 0) := by
  rw [kpr_text u.toNat (by omega), Int.toNat_of_nonneg h0]
theorem tail_q (k : Int) (q : Bool) (w0 : ByteArray) (ws : List ByteArray) (hk : verb_Kind.v w0 16 0 = k) (h5 : 5 ≤ k) (h15 : k ≤ 15) (hn : ws.length = line_Parse.nw k) : wordsO (w0 :: (ws ++ (if q = true then [nrp] else []))) = restO k q ws := by
  unfold wordsO
  dsimp only
  unfold verb_Kind.f
  rw [hk, Option.bind_some, if_neg (by omega), if_neg (by omega), if_neg (by omega)]
  cases q with
  | true =>
    have e1 : (ws ++ [nrp]).length = line_Parse.nw k + 1 := by rw [List.length_append, hn]; rfl
    have e2 : (ws ++ [nrp]).getD (line_Parse.nw k) ByteArray.empty = NRP := by
      rw [← hn, List.getD_eq_getElem?_getD, List.getElem?_append_right (Nat.le_refl _), Nat.sub_self]
      rfl
    rw [if_pos rfl, if_pos ⟨e1, e2⟩, ← hn, List.take_left]
  | false =>
    rw [if_neg (show ¬ (false = true) by decide), List.append_nil, if_neg (fun h => by have := h.1; omega), if_pos hn]
theorem kv_ok {l : List ByteArray} (h : l.all keyP = true) (vd : Int) : kvP l vd = vd := by
  unfold kvP
  rw [h]
  rfl
/-- What is said of a right command. -/
def wantV (k : Int) (keys : List ByteArray) (fl ex : Int) (v : ByteArray) (cas del : Int) (q : Bool) : PT := if storesB k = true then (2, k, keys, fl, ex, ⟨#[]⟩, cas, del, q, (v.size : Int), 0) else (1, k, keys, fl, ex, ⟨#[]⟩, cas, del, q, 0, 0)
theorem wAll_ok {k : Int} {keys : List ByteArray} {fl ex : Int} {v : ByteArray} {cas del : Int} {q : Bool} (h : ∀ x ∈ keys, keyP x = true) : ∀ x ∈ wAll k keys fl ex v cas del q, okL x.data.toList := by
  intro x hx
  unfold wAll wTail at hx
  have kx : x ∈ keys → okL x.data.toList := fun hk => okL_key (h x hk)
  have tx : ∀ u, x = textV u → okL x.data.toList := fun u e => by rw [e]; exact okL_text u
  have sx : ∀ u, x = stextV u → okL x.data.toList := fun u e => by rw [e]; exact okL_stext u
  have nx : x = nrp → okL x.data.toList := fun e => by rw [e]; exact okL_nrp
  simp only [List.mem_append] at hx
  rcases hx with (hx | hx) | (hx | hx) | hx
  · split at hx
    · exact sx _ (List.mem_singleton.1 hx)
    · cases hx
  · exact kx hx
  · split at hx
    · simp only [List.mem_cons, List.not_mem_nil, or_false] at hx
      rcases hx with hx | hx | hx
      · exact tx _ hx
      · exact sx _ hx
      · exact tx _ hx
    · cases hx
  · split at hx
    · exact tx _ (List.mem_singleton.1 hx)
    · split at hx
      · exact sx _ (List.mem_singleton.1 hx)
      · split at hx
        · exact tx _ (List.mem_singleton.1 hx)
        · cases hx
  · split at hx
    · exact nx (List.mem_singleton.1 hx)
    · cases hx
theorem fields0 {k fl ex : Int} {v : ByteArray} {cas del : Int} {q : Bool} (h : fieldsB k fl ex v cas del q = true) : (wholeB k = true ∨ fl = 0) ∧ (storesB k = true ∨ v = ByteArray.empty) ∧ (endsB k = true ∨ ex = 0) ∧ (k = 10 ∨ cas = 0) ∧ ((k = 12 ∨ k = 13) ∨ del = 0) ∧ (1 ≤ k ∧ k ≤ 4 → q = false) := by
  unfold fieldsB at h
  simp only [Bool.and_eq_true, Bool.or_eq_true, decide_eq_true_eq, Bool.not_eq_true', decide_eq_false_iff_not] at h
  obtain ⟨⟨⟨⟨⟨h1, h2⟩, h3⟩, h4⟩, h5⟩, h6⟩ := h
  exact ⟨h1, h2, h3, h4, h5, fun hk => h6.elim (fun hn => absurd hk hn) id⟩
section
variable {k : Int} {keys : List ByteArray} {fl ex : Int} {v : ByteArray} {cas del : Int} {q : Bool}
theorem trip (hfl : 0 ≤ fl ∧ fl ≤ 4294967295) (hex : -9223372036854775808 ≤ ex ∧ ex ≤ 9223372036854775807) (hcas : 0 ≤ cas ∧ cas ≤ 18446744073709551615) (hdel : 0 ≤ del ∧ del ≤ 18446744073709551615)
    (h : chk k keys fl ex v cas del q = 0) (hs : (tl (nameV k) (wAll k keys fl ex v cas del q)).size ≤ 160) : pO (tl (nameV k) (wAll k keys fl ex v cas del q)) = some (wantV k keys fl ex v cas del q) := by
  obtain ⟨⟨hk1, hk15⟩, hn8, hkey, hv, hnok, hf⟩ := chk0 h
  obtain ⟨f1, f2, f3, f4, f5, f6⟩ := fields0 hf
  obtain ⟨kn, ko⟩ := kind_name k hk1 hk15
  have hall : keys.all keyP = true := List.all_eq_true.2 hkey
  unfold pO
  rw [if_neg (by omega), tl_words _ _ ko (wAll_ok hkey)]
  unfold nOk at hnok
  by_cases h4 : k ≤ 4
  · rw [if_pos ⟨hk1, h4⟩] at hnok
    have hnok := of_decide_eq_true hnok
    have hq := f6 ⟨hk1, h4⟩
    have hst : storesB k = false := stores_no (.inl h4)
    have hw : wTail k fl ex v cas del q = [] := by
      unfold wTail
      rw [hst, if_neg (by decide), if_neg (by omega), if_neg (by omega), if_neg (by omega), hq]
      rfl
    have e1 : fl = 0 := f1.elim (fun hw => absurd (of_decide_eq_true hw) (by omega)) id
    have e4 : cas = 0 := f4.elim (fun hw => by omega) id
    have e5 : del = 0 := f5.elim (fun hw => by omega) id
    unfold wordsO
    dsimp only
    unfold verb_Kind.f
    rw [kn, Option.bind_some, if_neg (by omega), if_pos h4]
    unfold wAll wantV
    rw [hw, List.append_nil, hst, if_neg (show ¬ (false = true) by decide)]
    obtain ⟨x, xs, rfl⟩ : ∃ x xs, keys = x :: xs := by
      cases keys with
      | nil => simp at hnok
      | cons x xs => exact ⟨x, xs, rfl⟩
    simp only [List.length_cons] at hnok
    have e8 : decide (8 < xs.length + 1) = false := decide_eq_false (by omega)
    by_cases h3 : k = 3 ∨ k = 4
    · rw [if_pos h3]
      unfold readsO
      rw [if_pos (by simp only [List.length_append, List.length_cons, List.length_nil]; omega), if_pos h3]
      show some (dnV _ _ _ _ _ _) = _
      rw [kst_stext ex hex.1 hex.2, e8, kv_ok hall, e1, e4, e5, hq]
      rfl
    · have e3 : ex = 0 := f3.elim (fun hw => absurd (of_decide_eq_true hw) (by omega)) id
      rw [if_neg h3, List.nil_append]
      unfold readsO
      rw [if_pos (by simp only [List.length_cons]; omega), if_neg h3]
      show some (dnV _ _ _ _ _ _) = _
      rw [e8, kv_ok hall, e1, e3, e4, e5, hq]
      rfl
  rw [if_neg (by omega)] at hnok
  have hw4 : wAll k keys fl ex v cas del q = (keys ++ ((if storesB k = true then [textV fl.toNat, stextV ex, textV v.size] else []) ++ (if k = 10 then [textV cas.toNat] else if k = 14 then [stextV ex] else if k = 12 ∨ k = 13 then [textV del.toNat] else []))) ++ (if q = true then [nrp] else []) := by
    unfold wAll wTail
    rw [if_neg (show ¬ (k = 3 ∨ k = 4) by omega), List.nil_append, List.append_assoc, List.append_assoc, List.append_assoc]
  rw [hw4]
  by_cases h15 : k = 15
  · rw [if_pos h15] at hnok
    obtain rfl : keys = [] := List.length_eq_zero_iff.1 (of_decide_eq_true hnok)
    have hst : storesB k = false := stores_no (.inr (by omega))
    rw [hst, if_neg (show ¬ (false = true) by decide), if_neg (by omega), if_neg (by omega), if_neg (by omega)]
    rw [tail_q k q _ _ kn (by omega) hk15 (by rw [h15]; rfl)]
    have e1 : fl = 0 := f1.elim (fun hw => absurd (of_decide_eq_true hw) (by omega)) id
    have e3 : ex = 0 := f3.elim (fun hw => absurd (of_decide_eq_true hw) (by omega)) id
    have e4 : cas = 0 := f4.elim (fun hw => by omega) id
    have e5 : del = 0 := f5.elim (fun hw => by omega) id
    unfold restO ownO wantV
    rw [if_neg (by omega), if_pos h15, hst, e1, e3, e4, e5]
    rfl
  rw [if_neg h15] at hnok
  obtain ⟨a, rfl⟩ := one_of1 (of_decide_eq_true hnok)
  have ha : keyP a = true := hkey a (List.mem_cons_self ..)
  by_cases h10 : k ≤ 10
  · have hst : storesB k = true := decide_eq_true ⟨by omega, h10⟩
    have e5 : del = 0 := f5.elim (fun hw => by omega) id
    have hnl : ∀ rest : List ByteArray, rest.length = (if k = 10 then 1 else 0) → (a :: textV fl.toNat :: stextV ex :: textV v.size :: rest).length = line_Parse.nw k := by
      intro rest hr
      unfold line_Parse.nw
      simp only [List.length_cons, hr]
      by_cases hk : k = 10
      · rw [if_pos hk, if_pos hk]
      · rw [if_neg hk, if_neg hk, if_pos (by omega)]
    have main : ∀ rest : List ByteArray, rest.length = (if k = 10 then 1 else 0) → (k = 10 → rest = [textV cas.toNat]) → wordsO (nameV k :: ((a :: textV fl.toNat :: stextV ex :: textV v.size :: rest) ++ (if q = true then [nrp] else []))) = some (wantV k [a] fl ex v cas del q) := by
      intro rest hr hc
      rw [tail_q k q _ _ kn (by omega) hk15 (hnl rest hr)]
      unfold restO storesO
      rw [if_pos h10]
      dsimp only
      rw [kst_text v.size hv, if_pos ⟨rfl, by omega⟩, kpr_int fl hfl.1 (by omega), ha, kst_stext ex hex.1 hex.2]
      have hcas : casO k 0 rest = some (cas, 0) := by
        unfold casO
        by_cases hk : k = 10
        · rw [if_pos hk, hc hk]
          dsimp only
          rw [kpr_int cas hcas.1 hcas.2]
          rfl
        · rw [if_neg hk, f4.elim (fun h => absurd h hk) id]
      have hfd : decide ((4294967295 : Int) < fl) = false := decide_eq_false (by omega)
      rw [hfd]
      show ((casO k 0 rest).bind fun cv => some (line_stores.fin k q a (v.size : Int) fl ex cv.1 (wrV (((ex, (0 : Int)) : Int × Int).2 != 0) 7 cv.2))) = _
      rw [hcas, Option.bind_some]
      show some (line_stores.fin k q a (v.size : Int) fl ex cas 0) = _
      unfold line_stores.fin wantV
      rw [if_pos rfl, if_neg (by omega), if_pos hst, e5]
      by_cases h8 : k = 8 ∨ k = 9
      · rw [if_pos h8, f1.elim (fun hw => absurd (of_decide_eq_true hw) (by omega)) id, f3.elim (fun hw => absurd (of_decide_eq_true hw) (by omega)) id]
      · rw [if_neg h8, Int.emod_eq_of_lt hfl.1 (by omega)]
    rw [hst, if_pos rfl]
    by_cases hk : k = 10
    · rw [if_pos hk]
      exact main [textV cas.toNat] (by rw [if_pos hk]; rfl) (fun _ => rfl)
    · rw [if_neg hk, if_neg (by omega), if_neg (by omega)]
      exact main [] (by rw [if_neg hk]; rfl) (fun h => absurd h hk)
  · have hst : storesB k = false := stores_no (.inr (by omega))
    have e1 : fl = 0 := f1.elim (fun hw => absurd (of_decide_eq_true hw) (by omega)) id
    have e4 : cas = 0 := f4.elim (fun hw => by omega) id
    rw [hst, if_neg (show ¬ (false = true) by decide), List.nil_append, if_neg (by omega)]
    have hw3 : wantV k [a] fl ex v cas del q = (1, k, [a], 0, ex, ⟨#[]⟩, 0, del, q, 0, 0) := by
      unfold wantV
      rw [hst, if_neg (show ¬ (false = true) by decide), e1, e4]
    rw [hw3]
    by_cases h11 : k = 11
    · have e3 : ex = 0 := f3.elim (fun hw => absurd (of_decide_eq_true hw) (by omega)) id
      have e5 : del = 0 := f5.elim (fun hw => by omega) id
      rw [if_neg (by omega), if_neg (by omega), tail_q k q _ _ kn (by omega) hk15 (by rw [h11]; rfl)]
      unfold restO
      rw [if_neg h10]
      show (if k = 15 then some (dnV 0 k [] 0 0 q) else if k = 11 then some (dnV (wrV (!keyP a) 4 0) k [a] 0 0 q) else none) = _
      rw [if_neg h15, if_pos h11, ha, e3, e5]
      rfl
    have hnl : ∀ x : ByteArray, ([a] ++ [x]).length = line_Parse.nw k := by
      intro x
      unfold line_Parse.nw
      rw [if_neg (by omega), if_neg (by omega), if_neg h11, if_pos (by omega)]
      rfl
    by_cases h14 : k = 14
    · have e5 : del = 0 := f5.elim (fun hw => by omega) id
      rw [if_pos h14, tail_q k q _ _ kn (by omega) hk15 (hnl _)]
      unfold restO
      rw [if_neg h10]
      show (if k = 15 then some (dnV 0 k [] 0 0 q) else if k = 11 then some (dnV (wrV (!keyP a) 4 0) k [a] 0 0 q) else if k = 14 then some (dnV (wrV ((kst (stextV ex)).2 != 0) 7 (wrV (!keyP a) 4 0)) k [a] (kst (stextV ex)).1 0 q) else some (dnV (wrV ((kpr (stextV ex)).2 != 0) 6 (wrV (!keyP a) 4 0)) k [a] 0 (kpr (stextV ex)).1 q)) = _
      rw [if_neg h15, if_neg h11, if_pos h14, ha, kst_stext ex hex.1 hex.2, e5]
      rfl
    · have e3 : ex = 0 := f3.elim (fun hw => absurd (of_decide_eq_true hw) (by omega)) id
      rw [if_neg h14, if_pos (by omega), tail_q k q _ _ kn (by omega) hk15 (hnl _)]
      unfold restO
      rw [if_neg h10]
      show (if k = 15 then some (dnV 0 k [] 0 0 q) else if k = 11 then some (dnV (wrV (!keyP a) 4 0) k [a] 0 0 q) else if k = 14 then some (dnV (wrV ((kst (textV del.toNat)).2 != 0) 7 (wrV (!keyP a) 4 0)) k [a] (kst (textV del.toNat)).1 0 q) else some (dnV (wrV ((kpr (textV del.toNat)).2 != 0) 6 (wrV (!keyP a) 4 0)) k [a] 0 (kpr (textV del.toNat)).1 q)) = _
      rw [if_neg h15, if_neg h11, if_neg h14, ha, kpr_int del hdel.1 hdel.2, e3]
      rfl
end
end Go.Proofs.YtbfgopinbpbddaaDoor.Pl
