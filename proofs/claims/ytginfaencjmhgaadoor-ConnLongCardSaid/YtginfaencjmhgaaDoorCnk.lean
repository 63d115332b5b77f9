/- What a connection tells: each thing is right, or too big, or nothing at all. Plain Lean; no condition. -/
import Derived.Test.YtginfaencjmhgaaDoorCnm
namespace Go.Proofs.YtginfaencjmhgaaDoor.Pl
set_option linter.unusedVariables false
set_option linter.unusedSimpArgs false
open Go Go.RowKit Go.Proofs.YtginfaencjmhgaaDoor.P Go.Proofs.YtginfaencjmhgaaDoor.Lim Go.Proofs.YtginfaencjmhgaaDoorW.PrintWords
def swle (r : PT) : Prop := swP r ≤ 2147483649
theorem dn_sw (vd kd : Int) (keys : List ByteArray) (ex del : Int) (q : Bool) : swle (dnV vd kd keys ex del q) := by
  unfold dnV
  split <;> (show (0 : Int) ≤ _; decide)
theorem zP_sw (v : Int) : swle (zP v) := by show (0 : Int) ≤ _; decide
theorem fin_sw (kd : Int) (q : Bool) (a : ByteArray) (size fl ends cas v4 : Int) : swle (line_stores.fin kd q a size fl ends cas v4) := by
  have e : (if size ≤ 2147483647 then size + 2 else 0) ≤ 2147483649 := by split <;> omega
  unfold line_stores.fin
  split
  · split
    · exact e
    · split <;> (show (0 : Int) ≤ _; decide)
  · exact e
theorem reads_sw (kd : Int) (ws : List ByteArray) (r : PT) (h : readsO kd ws = some r) : swle r := by
  unfold readsO at h
  split at h
  · split at h
    · split at h
      · rw [← Option.some.inj h]; exact zP_sw _
      · rw [← Option.some.inj h]; exact zP_sw _
      · rw [← Option.some.inj h]; exact dn_sw ..
    · split at h
      · rw [← Option.some.inj h]; exact zP_sw _
      · rw [← Option.some.inj h]; exact dn_sw ..
  · cases h
theorem stores_sw (kd : Int) (q : Bool) (ws : List ByteArray) (r : PT) (h : storesO kd q ws = some r) : swle r := by
  unfold storesO at h
  split at h
  · split at h
    · obtain ⟨cv, _, h⟩ := Option.bind_eq_some_iff.1 h
      rw [← Option.some.inj h]
      exact fin_sw ..
    · rw [← Option.some.inj h]
      exact zP_sw _
  · cases h
theorem own_sw (kd : Int) (q : Bool) (ws : List ByteArray) (r : PT) (h : ownO kd q ws = some r) : swle r := by
  unfold ownO at h
  split at h
  · rw [← Option.some.inj h]
    exact dn_sw ..
  · split at h
    · split at h
      · rw [← Option.some.inj h]
        exact dn_sw ..
      · split at h
        · split at h <;> (rw [← Option.some.inj h]; exact dn_sw ..)
        · cases h
    · cases h
theorem rest_sw (kd : Int) (q : Bool) (ws : List ByteArray) (r : PT) (h : restO kd q ws = some r) : swle r := by
  unfold restO at h
  split at h
  · exact stores_sw _ _ _ _ h
  · exact own_sw _ _ _ _ h
theorem words_sw (ws : List ByteArray) (r : PT) (h : wordsO ws = some r) : swle r := by
  unfold wordsO at h
  split at h
  · rw [← Option.some.inj h]
    exact zP_sw _
  · obtain ⟨kd, _, h⟩ := Option.bind_eq_some_iff.1 h
    split at h
    · rw [← Option.some.inj h]
      exact zP_sw _
    · split at h
      · exact reads_sw _ _ _ h
      · split at h
        · cases h
        · split at h
          · exact rest_sw _ _ _ _ h
          · split at h
            · exact rest_sw _ _ _ _ h
            · rw [← Option.some.inj h]
              exact zP_sw _
theorem pT_swle (s : ByteArray) : swP (pT s) ≤ 2147483649 := by
  have h := (pT_some s).1
  unfold pO at h
  split at h
  · rw [← Option.some.inj h]
    exact zP_sw _
  · exact words_sw _ _ h
/-- A right state. -/
structure CS.Gd (s : CS) : Prop where
  sw : 0 ≤ s.sw
  swl : s.sw ≤ 2147483649
  wt : ∀ p, s.wt = some p → Good p ∧ p.1 = 2
theorem CS.Gd.ok {s : CS} (h : s.Gd) : s.Ok := ⟨h.sw, fun p hp => by
  obtain ⟨g, h2⟩ := h.wt p hp
  cases g <;> first | (exact absurd h2 (by dsimp only; omega)) | (unfold byP; dsimp only; omega)⟩
theorem chk_value {kd : Int} {a : ByteArray} {fl ex cas : Int} {q : Bool} (h : chk kd [a] fl ex ⟨#[]⟩ cas 0 q = 0) (hs : storesB kd = true) (v : ByteArray) (hv : v.size ≤ 2000) : chk kd [a] fl ex v cas 0 q = 0 := by
  have e : fieldsB kd fl ex v cas 0 q = fieldsB kd fl ex ⟨#[]⟩ cas 0 q := by
    unfold fieldsB
    rw [hs, Bool.true_or, Bool.true_or]
  unfold chk at h ⊢
  rw [e]
  split at h
  · rename_i h1
    rw [if_pos h1]
    split at h
    · rename_i h2
      rw [if_pos h2, if_neg (by omega)]
    · exact absurd h (by decide)
  · exact absurd h (by decide)
inductive AskOk : AT → Prop
  | ready (kd : Int) (keys : List ByteArray) (fl ex : Int) (v : ByteArray) (cas del : Int) (q : Bool) : chk kd keys fl ex v cas del q = 0 → keys.length ≤ 1000 → AskOk (1, kd, keys, fl, ex, v, cas, del, q)
  | big (kd : Int) (a : ByteArray) (q : Bool) : AskOk (8, kd, [a], 0, 0, ⟨#[]⟩, 0, 0, q)
  | no (v : Int) : (3 ≤ v ∧ v ≤ 9 ∧ v ≠ 8) → AskOk (zA v)
theorem num_size (xs : List Int) : (strOfNums xs).size = xs.length := by
  rw [← size_eq, ← toList_data, Lib.strOfNums_toList, bo_len]
theorem value_good (s : CS) (p : PT) (hs : s.Gd) (g : Good p) (h2 : p.1 = 2) : (valueV s p).1.Gd ∧ ((valueV s p).2.2 = true → AskOk (valueV s p).2.1) := by
  unfold valueV
  split
  · exact ⟨⟨hs.sw, hs.swl, fun q hq => by cases hq; exact ⟨g, h2⟩⟩, fun h => by cases h⟩
  · rename_i hl
    split
    · refine ⟨⟨hs.sw, hs.swl, fun q hq => by cases hq⟩, fun _ => ?_⟩
      cases g with
      | wants kd a fl ex cas q n c1 c2 c3 c4 =>
        refine AskOk.ready kd [a] fl ex _ cas 0 q (chk_value c1 c2 _ ?_) (by simp)
        rw [num_size, List.length_take]
        unfold byP at hl ⊢
        dsimp only at hl ⊢
        omega
      | ready kd keys ex del q => exact absurd h2 (by dsimp only; decide)
      | big kd a q sw => exact absurd h2 (by dsimp only; decide)
      | bad v sw hv => exact absurd h2 (by dsimp only; omega)
      | none_ v hv => exact absurd h2 (by dsimp only; omega)
    · exact ⟨⟨hs.sw, hs.swl, fun q hq => by cases hq⟩, fun _ => AskOk.no 5 (by decide)⟩
theorem clean_good (s : CS) (hs : s.Gd) : (cleanV s).1.Gd := by
  have h0 := hs.sw
  have h1 := hs.swl
  unfold cleanV
  dsimp only
  have a : 0 ≤ s.sw - min s.sw (s.b.length : Int) := by omega
  have b : s.sw - min s.sw (s.b.length : Int) ≤ 2147483649 := by omega
  split
  · exact ⟨a, b, hs.wt⟩
  · split
    · split <;> exact ⟨a, b, hs.wt⟩
    · exact ⟨a, b, hs.wt⟩
theorem next_good (s : CS) (hs : s.Gd) : (nextV s).1.Gd ∧ ((nextV s).2.2 = true → AskOk (nextV s).2.1) := by
  have hc := clean_good s hs
  unfold nextV
  split
  · generalize (cleanV s).1 = t at hc
    unfold coreV
    cases hw : t.wt with
    | some p =>
      dsimp only
      obtain ⟨g, h2⟩ := hc.wt p hw
      exact value_good t p hc g h2
    | none =>
      dsimp only
      split
      · split
        · exact ⟨hc, fun h => by cases h⟩
        · exact ⟨⟨hc.sw, hc.swl, fun q hq => by cases hq⟩, fun _ => AskOk.no 9 (by decide)⟩
      · have g := (pT_some (lnV (t.b.take (ixb t.b).toNat))).2
        have hsw := pT_sw (lnV (t.b.take (ixb t.b).toNat))
        have hsl := pT_swle (lnV (t.b.take (ixb t.b).toNat))
        generalize pT (lnV (t.b.take (ixb t.b).toNat)) = p at g hsw hsl
        split
        · rename_i h2
          exact value_good _ p ⟨hc.sw, hc.swl, fun q hq => by cases hq⟩ g h2
        · rename_i h2
          refine ⟨⟨hsw, hsl, fun q hq => by cases hq⟩, fun _ => ?_⟩
          cases g with
          | wants kd a fl ex cas q n => exact absurd rfl h2
          | ready kd keys ex del q c1 c2 c3 => exact AskOk.ready kd keys 0 ex _ 0 del q c1 c3
          | big kd a q sw => exact AskOk.big kd a q
          | bad v sw hv => exact AskOk.no v (by omega)
          | none_ v hv => exact AskOk.no v (by omega)
  · exact ⟨hc, fun h => by cases h⟩
theorem add_good {s : CS} (h : s.Gd) (c : List Int) : (s.add c).Gd := ⟨h.sw, h.swl, h.wt⟩
def s0 : CS := ⟨[], 0, false, none⟩
theorem good0 (b : List Int) : (CS.mk b 0 false none).Gd := ⟨Int.le_refl _, by show (0 : Int) ≤ _; decide, fun p hp => by cases hp⟩
end Go.Proofs.YtginfaencjmhgaaDoor.Pl
