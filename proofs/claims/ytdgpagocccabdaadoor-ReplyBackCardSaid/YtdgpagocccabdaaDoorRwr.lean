/- A result in bytes, by the program and by the document: the same bytes. Plain Lean; conditions: bounds that each theorem names. -/
import Derived.Test.YtdgpagocccabdaaDoorRdg
import Derived.Test.YtdgpagocccabdaaDoorLmReplyWrites
namespace Go.Proofs.YtdgpagocccabdaaDoor.Pl
set_option linter.unusedVariables false
set_option linter.unusedSimpArgs false
open Go Go.RowKit Go.Proofs.YtdgpagocccabdaaDoor.P Go.Proofs.YtdgpagocccabdaaDoor.Lim Go.Proofs.YtdgpagocccabdaaDoorW.PrintWords
def cvH (y : S47) : S60 := ⟨y.f0, y.f1, y.f2, y.f3⟩
theorem rd47 (l : List S47) (i : Nat) (h : i < l.length) : rd_T47 l (i : Int) = l[i] := by
  unfold rd_T47
  rw [Int.toNat_natCast, List.getD_eq_getElem?_getD, List.getElem?_eq_getElem h]
  rfl
theorem to_loop (l : List S47) (hl : l.length < 2932031007402) (d : Nat) : ∀ (i : Nat) (a b c n : Int), i + d = l.length → tallboylaw18_To.l0L (i : Int) a l b c ((l.take i).map cvH) n = some (c, l.map cvH, n) := by
  induction d with
  | zero =>
    intro i _ _ c n hi
    rw [tallboylaw18_To.l0L_eq, if_neg (by omega), List.take_of_length_le (by omega)]
  | succ d ih =>
    intro i a b c n hi
    have hlt : i < l.length := by omega
    rw [tallboylaw18_To.l0L_eq, if_pos (by omega), if_pos (by omega), if_pos (by rw [List.length_map, List.length_take]; omega), w64 (by omega) (by omega), show ((i : Int) + 1) = ((i + 1 : Nat) : Int) by omega]
    have e2 : (l.take i).map cvH ++ [(⟨(rd_T47 l (i : Int)).f0, (rd_T47 l (i : Int)).f1, (rd_T47 l (i : Int)).f2, (rd_T47 l (i : Int)).f3⟩ : S60)] = (l.take (i + 1)).map cvH := by
      rw [rd47 l i hlt, List.take_succ_eq_append_getElem hlt, List.map_append]
      rfl
    rw [e2, ih (i + 1) a b c n (by omega)]
theorem to_eq (a0 : Int) (l : List S47) (a2 : Int) (hl : l.length < 2932031007402) : tallboylaw18_To.L a0 l a2 = some (a0, l.map cvH, a2) := by
  rw [tallboylaw18_To.L_eq]
  exact to_loop l hl l.length 0 _ _ _ _ (by omega)
def tot : List S47 → Nat
  | [] => 0
  | y :: l => 1 + y.f0.size + y.f2.size + tot l
theorem great_loop (l : List S47) (hl : l.length < 2932031007402) (hs : ∀ y ∈ l, y.f0.size ≤ 140737488351232 ∧ y.f2.size ≤ 140737488351232) (d : Nat) : ∀ (i x : Nat) (a c : Int), i + d = l.length → x ≤ 1000000000000000 → ∃ b, tallboylaw18_Great.l0L (x : Int) (i : Int) a l c = some b ∧ (b = false → x + tot (l.drop i) < 20000) := by
  induction d with
  | zero =>
    intro i x a c hi h1
    rw [tallboylaw18_Great.l0L_eq, if_neg (by omega), List.drop_eq_nil_of_le (by omega)]
    refine ⟨_, rfl, fun h => ?_⟩
    have := of_decide_eq_false h
    unfold tot
    omega
  | succ d ih =>
    intro i x a c hi h1
    have hlt : i < l.length := by omega
    rw [tallboylaw18_Great.l0L_eq, if_pos (by omega)]
    by_cases hx : (x : Int) < 20000
    · obtain ⟨q0, q2⟩ := hs _ (List.getElem_mem hlt)
      rw [if_pos hx, if_pos (by omega), rd47 l i hlt, w64 (i := (x : Int) + 1) (by omega) (by omega), w64 (i := (x : Int) + 1 + _) (by omega) (by omega), w64 (i := (x : Int) + 1 + _ + _) (by omega) (by omega), w64 (by omega) (by omega), show ((i : Int) + 1) = ((i + 1 : Nat) : Int) by omega, show ((x : Int) + 1 + ((l[i]).f0.size : Int) + ((l[i]).f2.size : Int)) = ((x + 1 + (l[i]).f0.size + (l[i]).f2.size : Nat) : Int) by omega]
      obtain ⟨b, hb, hf⟩ := ih (i + 1) (x + 1 + (l[i]).f0.size + (l[i]).f2.size) a c (by omega) (by omega)
      refine ⟨b, hb, fun h => ?_⟩
      have := hf h
      rw [List.drop_eq_getElem_cons hlt]
      unfold tot
      omega
    · rw [if_neg hx]
      refine ⟨_, rfl, fun h => ?_⟩
      have := of_decide_eq_false h
      omega
theorem great_tot (a0 : Int) (l : List S47) (a2 : Int) (hl : l.length < 2932031007402) (hs : ∀ y ∈ l, y.f0.size ≤ 140737488351232 ∧ y.f2.size ≤ 140737488351232) : ∃ b, tallboylaw18_Great.L a0 l a2 = some b ∧ (b = false → tot l < 20000) := by
  rw [tallboylaw18_Great.L_eq]
  obtain ⟨b, hb, hf⟩ := great_loop l hl hs l.length 0 0 a0 a2 (by omega) (by omega)
  exact ⟨b, hb, fun h => by have := hf h; rwa [Nat.zero_add, List.drop_zero] at this⟩
def shK (k : Int) : Bool := if k = 2 then true else k == 4
theorem shows_eq (k : Int) : verb_Shows.f k = some (shK k) := by
  unfold verb_Shows.f shK
  split <;> rfl
def vl : ByteArray := ⟨#[86, 65, 76, 85, 69]⟩
def vlb : ByteArray := ⟨#[86, 65, 76, 85, 69, 32]⟩
def bl : ByteArray := ⟨#[32]⟩
def eol : ByteArray := ⟨#[13, 10]⟩
def fin : ByteArray := ⟨#[69, 78, 68, 13, 10]⟩
/-- A hit behind what is written, as the document writes it. -/
def hitR (k : Int) (a : ByteArray) (y : S47) : ByteArray :=
  let s := ((((a ++ vlb) ++ y.f0) ++ bl) ++ textV y.f1.toNat) ++ bl ++ textV y.f2.size
  ((if shK k = true then (s ++ bl) ++ textV y.f3.toNat else s) ++ eol ++ y.f2) ++ eol
def allR (k : Int) : List S47 → ByteArray → ByteArray
  | [], a => a
  | y :: l, a => allR k l (hitR k a y)
def okH (y : S47) : Prop := (0 ≤ y.f1 ∧ y.f1 < 4294967296) ∧ (0 ≤ y.f3 ∧ y.f3 < 18446744073709551616)
theorem text_le (u : Nat) (h : u < 18446744073709551616) : (textV u).size ≤ 20 := by
  rw [text_size]
  exact Lib.nDigits_le20 u h
theorem hitR_size (k : Int) (a : ByteArray) (y : S47) (h : okH y) (hv : y.f2.size < 18446744073709551616) : (hitR k a y).size ≤ a.size + 80 * (1 + y.f0.size + y.f2.size) := by
  have h1 := text_le y.f1.toNat (by have := h.1; omega)
  have h2 := text_le y.f2.size hv
  have h3 := text_le y.f3.toNat (by have := h.2; omega)
  have e1 : vlb.size = 6 := rfl
  have e2 : bl.size = 1 := rfl
  have e3 : eol.size = 2 := rfl
  unfold hitR
  dsimp only
  split <;> simp only [ByteArray.size_append, e1, e2, e3] <;> omega
theorem wrap_in (u : Int) (h0 : 0 ≤ u) (h1 : u < 18446744073709551616) : IntKind.u64.wrap u = ((u.toNat : Nat) : Int) := by
  rw [IntKind.wrap_u64]
  omega
theorem text_at (u : Int) (h0 : 0 ≤ u) (h1 : u < 18446744073709551616) : digits_Text.f u = some (textV u.toNat) := by
  have := text_eq u.toNat (by omega)
  rwa [Int.toNat_of_nonneg h0] at this
def tl (s : ByteArray) (ws : List ByteArray) : ByteArray := ws.foldl (fun a x => (a ++ bl) ++ x) s
theorem tl_cons (s x : ByteArray) (ws : List ByteArray) : tl s (x :: ws) = tl ((s ++ bl) ++ x) ws := rfl
theorem tl_data (ws : List ByteArray) : ∀ s : ByteArray, (tl s ws).data.toList = s.data.toList ++ Lib.joinTail [32] (ws.map (·.data.toList)) := by
  induction ws with
  | nil => intro s; simp [tl, Lib.joinTail]
  | cons x xs ih =>
    intro s
    rw [tl_cons, ih, ByteArray.data_append, ByteArray.data_append, Array.toList_append, Array.toList_append]
    simp [Lib.joinTail, bl]
theorem tl_join (s : ByteArray) (ws : List ByteArray) : (⟨(Lib.join ((s :: ws).map (·.data.toList)) [32]).toArray⟩ : ByteArray) = tl s ws := by
  apply ba_ext
  rw [tl_data, List.map_cons, Lib.join_cons]
theorem join_at (s : ByteArray) (ws : List ByteArray) (h1 : ws.length ≤ 1000) (h2 : (tl s ws).size ≤ 1000000000) : strings_Join.f (s :: ws) ⟨#[32]⟩ = some (tl s ws) := by
  unfold strings_Join.f
  have e := tl_join s ws
  have hlen : (Lib.join ((s :: ws).map (·.data.toList)) [32]).length = (tl s ws).size := by
    rw [← e]
    simp [ByteArray.size]
  rw [show (⟨#[32]⟩ : ByteArray).data.toList = [32] from rfl, hlen, if_pos ⟨by rw [List.length_cons]; omega, by omega⟩, e]
/-- A hit as the program writes it. -/
def hitP (k : Int) (y : S47) : ByteArray := ((tl vl (if shK k = true then [y.f0, textV y.f1.toNat, textV y.f2.size, textV y.f3.toNat] else [y.f0, textV y.f1.toNat, textV y.f2.size]) ++ eol) ++ y.f2) ++ eol
theorem hit_cat (k : Int) (a : ByteArray) (y : S47) : a ++ hitP k y = hitR k a y := by
  apply ba_ext
  have e : vlb.data.toList = vl.data.toList ++ bl.data.toList := rfl
  unfold hitP hitR tl
  cases shK k <;> simp [ByteArray.data_append, Array.toList_append, e, List.append_assoc]
theorem piece_eq (k : Int) (y : S47) (oy : okH y) (hv : y.f0.size + y.f2.size ≤ 10000000) : reply_Text.piece k (cvH y) = some (hitP k y) := by
  have h1 := text_le y.f1.toNat (by have := oy.1; omega)
  have h2 := text_le y.f2.size (by omega)
  have h3 := text_le y.f3.toNat (by have := oy.2; omega)
  have e0 : vl.size = 5 := rfl
  have e1 : bl.size = 1 := rfl
  have t1 : digits_Text.f (IntKind.u64.wrap y.f1) = some (textV y.f1.toNat) := by
    rw [wrap_in y.f1 oy.1.1 (by have := oy.1; omega)]
    exact text_eq _ (by have := oy.1; omega)
  have t2 : digits_Text.f (IntKind.u64.wrap (y.f2.size : Int)) = some (textV y.f2.size) := by
    rw [wrap_in _ (by omega) (by omega), Int.toNat_natCast]
    exact text_eq _ (by omega)
  have t3 : digits_Text.f y.f3 = some (textV y.f3.toNat) := text_at y.f3 oy.2.1 oy.2.2
  unfold reply_Text.piece hitP
  rw [show (cvH y).f1 = y.f1 from rfl, show (cvH y).f2 = y.f2 from rfl, show (cvH y).f3 = y.f3 from rfl, show (cvH y).f0 = y.f0 from rfl, t1, t2, t3, shows_eq]
  clear t1 t2 t3
  simp only [Option.bind_some]
  cases shK k with
  | true =>
    have hz : (tl vl [y.f0, textV y.f1.toNat, textV y.f2.size, textV y.f3.toNat]).size ≤ 100 + y.f0.size := by
      simp only [tl, List.foldl_cons, List.foldl_nil, ByteArray.size_append, e0, e1]
      omega
    simp only [↓reduceIte]
    rw [show (⟨#[86, 65, 76, 85, 69]⟩ : ByteArray) = vl from rfl, join_at vl _ (by simp) (by omega), Option.bind_some, if_pos (by omega)]
    rfl
  | false =>
    have hz : (tl vl [y.f0, textV y.f1.toNat, textV y.f2.size]).size ≤ 100 + y.f0.size := by
      simp only [tl, List.foldl_cons, List.foldl_nil, ByteArray.size_append, e0, e1]
      omega
    simp only [Bool.false_eq_true, ↓reduceIte]
    rw [show (⟨#[86, 65, 76, 85, 69]⟩ : ByteArray) = vl from rfl, join_at vl _ (by simp) (by omega), Option.bind_some, if_pos (by omega)]
    rfl
theorem go_eq (k : Int) (l : List S47) : ∀ (a : ByteArray), (∀ y ∈ l, okH y) → a.size + 80 * tot l ≤ 10000000 → reply_Text.go k (l.map cvH) a = some (allR k l a ++ fin) := by
  induction l with
  | nil =>
    intro a _ hs
    simp only [List.map_nil, reply_Text.go]
    rw [if_pos (by omega)]
    rfl
  | cons y l ih =>
    intro a ho hs
    unfold tot at hs
    have oy := ho y List.mem_cons_self
    have hsz := hitR_size k a y oy (by omega)
    have hp : a.size + (hitP k y).size = (hitR k a y).size := by rw [← hit_cat, ByteArray.size_append]
    simp only [List.map_cons, reply_Text.go]
    rw [piece_eq k y oy (by omega), Option.bind_some, if_pos (by omega), hit_cat]
    exact ih _ (fun z hz => ho z (List.mem_cons_of_mem _ hz)) (by omega)
theorem plain_at (k c : Int) (h : 2 ≤ c ∧ c ≤ 12 ∧ c ≠ 7) : tallboyref18_plain.f k c = some (rdOf ByteArray.empty (reply_lines.l k) c) ∧ 0 < (rdOf ByteArray.empty (reply_lines.l k) c).size ∧ (rdOf ByteArray.empty (reply_lines.l k) c).size ≤ 100 := by
  unfold reply_lines.l
  by_cases h12 : k = 12
  · subst h12
    rcases (show c = 2 ∨ c = 3 ∨ c = 4 ∨ c = 5 ∨ c = 6 ∨ c = 8 ∨ c = 9 ∨ c = 10 ∨ c = 11 ∨ c = 12 by omega) with rfl | rfl | rfl | rfl | rfl | rfl | rfl | rfl | rfl | rfl <;> exact ⟨rfl, by decide, by decide⟩
  · by_cases h13 : k = 13
    · subst h13
      rcases (show c = 2 ∨ c = 3 ∨ c = 4 ∨ c = 5 ∨ c = 6 ∨ c = 8 ∨ c = 9 ∨ c = 10 ∨ c = 11 ∨ c = 12 by omega) with rfl | rfl | rfl | rfl | rfl | rfl | rfl | rfl | rfl | rfl <;> exact ⟨rfl, by decide, by decide⟩
    · rw [if_neg (show ¬ (k = 12 ∨ k = 13) by omega)]
      unfold tallboyref18_plain.f
      rw [if_neg h12, if_neg h13]
      rcases (show c = 2 ∨ c = 3 ∨ c = 4 ∨ c = 5 ∨ c = 6 ∨ c = 8 ∨ c = 9 ∨ c = 10 ∨ c = 11 ∨ c = 12 by omega) with rfl | rfl | rfl | rfl | rfl | rfl | rfl | rfl | rfl | rfl <;> exact ⟨rfl, by decide, by decide⟩
end Go.Proofs.YtdgpagocccabdaaDoor.Pl
