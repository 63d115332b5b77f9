/- What is written is read: a result's text, with anything behind, is read as that result. Plain Lean; conditions: bounds that each theorem names. -/
import Derived.Test.YtdgpagocccabdaaDoorRra
import Derived.Test.YtdgpagocccabdaaDoorRwd
namespace Go.Proofs.YtdgpagocccabdaaDoor.Pl
set_option linter.unusedVariables false
set_option linter.unusedSimpArgs false
open Go Go.RowKit Go.Proofs.YtdgpagocccabdaaDoor.P Go.Proofs.YtdgpagocccabdaaDoor.Lim Go.Proofs.YtdgpagocccabdaaDoorW.PrintWords
theorem ix_line (s : ByteArray) (l m : List UInt8) (h : s.data.toList = l ++ 13 :: 10 :: m) (hl : ∀ b ∈ l, b ≠ 13) : ixE s = (l.length : Int) := by
  unfold ixE
  rw [h]
  refine Lib.index_hit (fun j hj => ?_) (by rw [List.length_append]; omega) ?_
  · unfold Lib.occAt
    rw [List.drop_append_of_le_length (by omega), List.drop_eq_getElem_cons hj]
    have := hl l[j] (List.getElem_mem hj)
    simp only [List.cons_append, List.isPrefixOf]
    rw [beq_eq_false_iff_ne.2 (fun e => this e.symm)]
    rfl
  · unfold Lib.occAt
    rw [List.drop_left]
    simp [List.isPrefixOf]
theorem line_is (s : ByteArray) (l m : List UInt8) (h : s.data.toList = l ++ 13 :: 10 :: m) (hl : ∀ b ∈ l, b ≠ 13) : lineOf s = mk l := by
  apply ba_ext
  unfold lineOf mk
  rw [ix_line s l m h hl, Int.toNat_natCast, ByteArray.data_extract, Array.toList_extract, h]
  simp [List.extract]
theorem behind_is (s : ByteArray) (l m : List UInt8) (h : s.data.toList = l ++ 13 :: 10 :: m) (hl : ∀ b ∈ l, b ≠ 13) : behind s = mk m := by
  apply ba_ext
  unfold behind mk
  rw [ix_line s l m h hl, Int.toNat_natCast, from_data, h]
  rw [show l ++ 13 :: 10 :: m = (l ++ [13, 10]) ++ m by simp, List.drop_left' (by simp)]
theorem mk_size (l : List UInt8) : (mk l).size = l.length := by
  rw [← size_eq]
  rfl
theorem spl_more : ∀ (m cur l : List UInt8), (∀ b ∈ m, b ≠ 32) → spl cur (m ++ l) = spl (cur ++ m) l
  | [], cur, l, _ => by rw [List.nil_append, List.append_nil]
  | b :: m, cur, l, h => by
    rw [List.cons_append, spl, if_neg (h b List.mem_cons_self), spl_more m (cur ++ [b]) l (fun x hx => h x (List.mem_cons_of_mem _ hx)), List.append_assoc]
    rfl
theorem spl_words : ∀ (ws : List (List UInt8)) (cur : List UInt8), (∀ w ∈ ws, ∀ b ∈ w, b ≠ 32) → spl cur (Lib.joinTail [32] ws) = cur :: ws
  | [], cur, _ => by simp [Lib.joinTail, spl]
  | w :: ws, cur, h => by
    have ih := spl_words ws w (fun x hx => h x (List.mem_cons_of_mem _ hx))
    show spl cur (32 :: (w ++ Lib.joinTail [32] ws)) = _
    rw [spl, if_pos rfl, spl_more _ _ _ (h w List.mem_cons_self), List.nil_append, ih]
theorem wds_tl (n : ByteArray) (ws : List ByteArray) (hn : ∀ b ∈ n.data.toList, b ≠ 32) (hw : ∀ x ∈ ws, ∀ b ∈ x.data.toList, b ≠ 32) : wds (tl n ws) = n :: ws := by
  unfold wds
  rw [tl_data, spl_more _ _ _ hn, List.nil_append, spl_words _ _ (fun x hx => by
    obtain ⟨y, hy, rfl⟩ := List.mem_map.1 hx
    exact hw y hy), List.map_cons, mk_data, List.map_map]
  rw [show (mk ∘ fun x : ByteArray => x.data.toList) = id from funext fun x => mk_data x, List.map_id]
theorem jt_no (c : UInt8) (hc : c ≠ 32) : ∀ ws : List (List UInt8), (∀ w ∈ ws, ∀ b ∈ w, b ≠ c) → ∀ b ∈ Lib.joinTail [32] ws, b ≠ c
  | [], _, b, hb => by simp [Lib.joinTail] at hb
  | w :: ws, h, b, hb => by
    rw [show Lib.joinTail [32] (w :: ws) = 32 :: (w ++ Lib.joinTail [32] ws) from rfl] at hb
    rcases List.mem_cons.1 hb with rfl | hb
    · exact fun e => hc e.symm
    · rcases List.mem_append.1 hb with hb | hb
      · exact h w List.mem_cons_self b hb
      · exact jt_no c hc ws (fun x hx => h x (List.mem_cons_of_mem _ hx)) b hb
theorem tl_no (c : UInt8) (hc : c ≠ 32) (n : ByteArray) (ws : List ByteArray) (hn : ∀ b ∈ n.data.toList, b ≠ c) (hw : ∀ x ∈ ws, ∀ b ∈ x.data.toList, b ≠ c) : ∀ b ∈ (tl n ws).data.toList, b ≠ c := by
  intro b hb
  rw [tl_data] at hb
  rcases List.mem_append.1 hb with hb | hb
  · exact hn b hb
  · exact jt_no c hc _ (fun x hx => by
      obtain ⟨y, hy, rfl⟩ := List.mem_map.1 hx
      exact hw y hy) b hb
theorem num_text (u : Nat) (m : Int) (hu : u < 18446744073709551616) (hm : (u : Int) ≤ m) : numV (textV u) m = ((u : Int), true) := by
  unfold numV
  rw [text_data, prs_dec u hu]
  dsimp only
  rw [Int.toNat_natCast, decide_eq_true hm, beq_self_eq_true]
  rfl
theorem text_dg (u : Nat) : ∀ b ∈ (textV u).data.toList, 48 ≤ b.toNat ∧ b.toNat ≤ 57 := by
  intro b hb
  exact dg_rng (List.all_eq_true.1 (dec_all u) b hb)
theorem key_bytes (x : ByteArray) (h : keyP x = true) : (1 ≤ x.size ∧ x.size ≤ 32) ∧ ∀ b ∈ x.data.toList, 33 ≤ b.toNat ∧ b.toNat ≤ 126 := by
  unfold keyP at h
  rw [Bool.and_eq_true] at h
  refine ⟨of_decide_eq_true h.1, fun b hb => ?_⟩
  have := List.all_eq_true.1 h.2 b hb
  unfold okByte at this
  rw [Bool.and_eq_true, decide_eq_true_eq, decide_eq_true_eq] at this
  exact this
def hws (k : Int) (y : S47) : List ByteArray := if shK k = true then [y.f0, textV y.f1.toNat, textV y.f2.size, textV y.f3.toNat] else [y.f0, textV y.f1.toNat, textV y.f2.size]
def hln (k : Int) (y : S47) : ByteArray := tl vl (hws k y)
def okB (k : Int) (y : S47) : Prop := okH y ∧ keyP y.f0 = true ∧ y.f2.size ≤ 2000 ∧ (shK k = false → y.f3 = 0)
theorem hws_no (k : Int) (y : S47) (h : okB k y) (c : UInt8) (hc : c.toNat < 33) : ∀ x ∈ hws k y, ∀ b ∈ x.data.toList, b ≠ c := by
  have hk := (key_bytes y.f0 h.2.1).2
  have t : ∀ u : Nat, ∀ b ∈ (textV u).data.toList, b ≠ c := by
    intro u b hb e
    have := text_dg u b hb
    rw [e] at this
    omega
  have kk : ∀ b ∈ y.f0.data.toList, b ≠ c := by
    intro b hb e
    have := hk b hb
    rw [e] at this
    omega
  intro x hx
  unfold hws at hx
  split at hx
  · simp only [List.mem_cons, List.not_mem_nil, or_false] at hx
    rcases hx with rfl | rfl | rfl | rfl
    · exact kk
    · exact t _
    · exact t _
    · exact t _
  · simp only [List.mem_cons, List.not_mem_nil, or_false] at hx
    rcases hx with rfl | rfl | rfl
    · exact kk
    · exact t _
    · exact t _
theorem hln_no (k : Int) (y : S47) (h : okB k y) : ∀ b ∈ (hln k y).data.toList, b ≠ 13 := tl_no 13 (by decide) vl _ (by decide) (hws_no k y h 13 (by decide))
theorem hln_size (k : Int) (y : S47) (h : okB k y) : (hln k y).size ≤ 101 := by
  have hk := (key_bytes y.f0 h.2.1).1
  obtain ⟨ho, _, hv, _⟩ := h
  have h1 := text_le y.f1.toNat (by have := ho.1; omega)
  have h2 := text_le y.f2.size (by omega)
  have h3 := text_le y.f3.toNat (by have := ho.2; omega)
  have e0 : vl.size = 5 := rfl
  have e1 : bl.size = 1 := rfl
  unfold hln hws
  split <;> (simp only [tl, List.foldl_cons, List.foldl_nil, ByteArray.size_append, e0, e1]; omega)
def lastW (k : Int) (y : S47) : ByteArray := if shK k = true then textV y.f3.toNat else ⟨#[48]⟩
theorem w5_hln (k : Int) (y : S47) (h : okB k y) : w5 k (hln k y) = [vl, y.f0, textV y.f1.toNat, textV y.f2.size, lastW k y] := by
  have e := wds_tl vl (hws k y) (by decide) (hws_no k y h 32 (by decide))
  unfold w5 hln lastW
  rw [e]
  unfold hws
  cases shK k <;> rfl
theorem last_num (k : Int) (y : S47) (h : okB k y) : numV (lastW k y) 18446744073709551615 = (y.f3, true) := by
  obtain ⟨ho, _, _, h0⟩ := h
  unfold lastW
  cases hk : shK k with
  | true =>
    have := ho.2
    rw [if_pos rfl, num_text _ _ (by omega) (by omega)]
    exact Prod.ext (by show ((y.f3.toNat : Nat) : Int) = y.f3; omega) rfl
  | false =>
    rw [if_neg (by decide), num_zero _ (by decide), h0 hk]
theorem hit_back (k : Int) (y : S47) (h : okB k y) (rest : ByteArray) (m : List UInt8) (hr : rest.data.toList = (hitP k y).data.toList ++ m) : hitV k rest = (y.f0, y.f1, y.f2, y.f3, mk m, true) := by
  have hr2 : rest.data.toList = (hln k y).data.toList ++ 13 :: 10 :: (y.f2.data.toList ++ 13 :: 10 :: m) := by
    rw [hr]
    unfold hitP
    rw [show tl vl (if shK k = true then [y.f0, textV y.f1.toNat, textV y.f2.size, textV y.f3.toNat] else [y.f0, textV y.f1.toNat, textV y.f2.size]) = hln k y from rfl]
    have e : eol.data.toList = [13, 10] := rfl
    simp only [ByteArray.data_append, Array.toList_append, e, List.append_assoc, List.cons_append, List.nil_append]
  have no := hln_no k y h
  have hx := ix_line rest _ _ hr2 no
  have hb := behind_is rest _ _ hr2 no
  have hl := line_is rest _ _ hr2 no
  have hz := hln_size k y h
  rw [mk_data] at hl
  have hw := w5_hln k y h
  have h5 := last_num k y h
  obtain ⟨ho, hkey, hv, h0⟩ := h
  have n2 := num_text y.f1.toNat 4294967295 (by have := ho.1; omega) (by have := ho.1; omega)
  have n3 := num_text y.f2.size 2000 (by omega) (by omega)
  unfold hitV
  rw [hl, hb, hw, if_pos ⟨by omega, by omega⟩]
  have r0 : rdOf ByteArray.empty [vl, y.f0, textV y.f1.toNat, textV y.f2.size, lastW k y] 0 = vl := rfl
  have r1 : rdOf ByteArray.empty [vl, y.f0, textV y.f1.toNat, textV y.f2.size, lastW k y] 1 = y.f0 := rfl
  have r2 : rdOf ByteArray.empty [vl, y.f0, textV y.f1.toNat, textV y.f2.size, lastW k y] 2 = textV y.f1.toNat := rfl
  have r3 : rdOf ByteArray.empty [vl, y.f0, textV y.f1.toNat, textV y.f2.size, lastW k y] 3 = textV y.f2.size := rfl
  have r4 : rdOf ByteArray.empty [vl, y.f0, textV y.f1.toNat, textV y.f2.size, lastW k y] 4 = lastW k y := rfl
  have ok : okW [vl, y.f0, textV y.f1.toNat, textV y.f2.size, lastW k y] := by
    unfold okW
    rw [r0, r1, r2, r3, r4, n2, n3, h5]
    exact ⟨rfl, by decide +kernel, hkey, rfl, rfl, rfl⟩
  unfold hitW restV
  rw [r1, r2, r3, r4, n2, n3, h5]
  dsimp only
  have hsz : (mk (y.f2.data.toList ++ 13 :: 10 :: m)).size = y.f2.size + (m.length + 2) := by
    rw [mk_size, List.length_append, size_eq]
    rfl
  rw [if_pos ⟨ok, by rw [hsz]; omega⟩, Int.toNat_natCast]
  have q1 : (mk (y.f2.data.toList ++ 13 :: 10 :: m)).extract 0 y.f2.size = y.f2 := by
    apply ba_ext
    rw [ByteArray.data_extract, Array.toList_extract]
    unfold mk
    have := size_eq y.f2
    simp only [List.extract, Nat.sub_zero, List.drop_zero]
    rw [List.take_left' this]
  have q2 : ((mk (y.f2.data.toList ++ 13 :: 10 :: m)).extract y.f2.size (mk (y.f2.data.toList ++ 13 :: 10 :: m)).size).data.toList = 13 :: 10 :: m := by
    rw [from_data]
    unfold mk
    show List.drop y.f2.size (y.f2.data.toList ++ 13 :: 10 :: m) = _
    rw [List.drop_left' (size_eq y.f2)]
  rw [q1, q2]
  have q3 : Lib.hasPrefix (13 :: 10 :: m) [13, 10] = true := by simp [Lib.hasPrefix, List.isPrefixOf]
  unfold Lib.trimPrefix
  rw [q3, if_pos rfl, show ((y.f1.toNat : Nat) : Int) % 4294967296 = y.f1 by have := ho.1; omega]
  rfl
def allL (k : Int) : List S47 → List UInt8
  | [] => []
  | y :: l => (hitP k y).data.toList ++ allL k l
theorem allR_data (k : Int) (l : List S47) : ∀ a : ByteArray, (allR k l a).data.toList = a.data.toList ++ allL k l := by
  induction l with
  | nil => intro a; show a.data.toList = a.data.toList ++ []; rw [List.append_nil]
  | cons y l ih =>
    intro a
    show (allR k l (hitR k a y)).data.toList = _
    rw [ih, ← hit_cat, ByteArray.data_append, Array.toList_append, List.append_assoc]
    rfl
theorem hit_first (k : Int) (y : S47) (m : List UInt8) : Lib.hasPrefix ((hitP k y).data.toList ++ m) endL = false := by
  have e : vl.data.toList = [86, 65, 76, 85, 69] := rfl
  have : ∃ z, (hitP k y).data.toList ++ m = 86 :: z := by
    unfold hitP
    simp only [ByteArray.data_append, Array.toList_append, tl_data, e, List.cons_append]
    exact ⟨_, rfl⟩
  obtain ⟨z, hz⟩ := this
  rw [hz]
  unfold Lib.hasPrefix endL
  simp [List.isPrefixOf]
theorem hits_back (k : Int) (s : ByteArray) (more : List UInt8) (l : List S47) : ∀ (d : Nat) (rest : ByteArray) (acc : List S60), l.length < d → acc.length + l.length ≤ 100 → (∀ y ∈ l, okB k y) → rest.data.toList = allL k l ++ (endL ++ more) → hitsV k s d rest acc = (1, acc ++ l.map cvH, 0, wrap64 ((s.size : Int) - (more.length : Int)), 0) := by
  induction l with
  | nil =>
    intro d rest acc hd ha ok hr
    obtain ⟨d, rfl⟩ : ∃ e, d = e + 1 := ⟨d - 1, by omega⟩
    rw [show allL k [] = [] from rfl, List.nil_append] at hr
    have hp : Lib.hasPrefix (endL ++ more) endL = true := by
      unfold Lib.hasPrefix endL
      simp [List.isPrefixOf]
    unfold hitsV Lib.trimPrefix
    rw [if_pos (by simpa using ha), hr, hp, if_pos rfl, if_pos rfl, show List.drop endL.length (endL ++ more) = more from List.drop_left' rfl, List.map_nil, List.append_nil]
    rw [show (⟨more.toArray⟩ : ByteArray).size = more.length from mk_size more]
  | cons y l ih =>
    intro d rest acc hd ha ok hr
    rw [List.length_cons] at hd ha
    obtain ⟨d, rfl⟩ : ∃ e, d = e + 1 := ⟨d - 1, by omega⟩
    rw [show allL k (y :: l) = (hitP k y).data.toList ++ allL k l from rfl, List.append_assoc] at hr
    have hh := hit_back k y (ok y List.mem_cons_self) rest _ hr
    unfold hitsV
    rw [if_pos (by omega), if_neg (show ¬ Lib.hasPrefix rest.data.toList endL = true by rw [hr, hit_first]; decide), hh]
    dsimp only
    rw [if_pos rfl, ih d (mk (allL k l ++ (endL ++ more))) _ (by omega) (by rw [List.length_append, List.length_singleton]; omega) (fun z hz => ok z (List.mem_cons_of_mem _ hz)) rfl, List.append_assoc]
    rfl
theorem rdOf_mem (ls : List ByteArray) (i : Int) : rdOf ByteArray.empty ls i ∈ ls ∨ rdOf ByteArray.empty ls i = ByteArray.empty := by
  unfold rdOf
  rw [List.getD_eq_getElem?_getD]
  cases h : ls[i.toNat]? with
  | none => exact .inr rfl
  | some x => exact .inl (List.mem_of_getElem? h)
theorem find_none (ln : ByteArray) (ls : List ByteArray) (h : ∀ x ∈ ls, x.data.toList ≠ [] → x.data.toList ≠ ln.data.toList) : ∀ d i, reply_Read.find ln ls i d = none
  | 0, _ => rfl
  | d + 1, i => by
    unfold reply_Read.find
    rw [if_neg ?_]
    · exact find_none ln ls h d (i + 1)
    · intro ⟨h1, h2⟩
      rw [toList_data] at h1
      rw [toList_data, toList_data] at h2
      rcases rdOf_mem ls (i : Int) with hm | hm
      · exact h _ hm h1 h2
      · rw [hm] at h1
        exact h1 rfl
def headB (x : ByteArray) : Bool := match x.data.toList with
  | [] => true
  | b :: _ => [83, 78, 69, 68, 67, 84, 79].contains b.toNat
theorem lines_head (k : Int) : (reply_lines.l k).all headB = true := by
  unfold reply_lines.l
  split <;> decide +kernel
theorem lines_end (k : Int) : (reply_lines.l k).all (fun x => x.data.toList != [69, 78, 68]) = true := by
  unfold reply_lines.l
  split <;> decide +kernel
theorem lines_cr (k : Int) : (reply_lines.l k).all (fun x => x.data.toList.all fun b => b != 13) = true := by
  unfold reply_lines.l
  split <;> decide +kernel
theorem find_head (k : Int) (ln : ByteArray) (b : UInt8) (t : List UInt8) (h : ln.data.toList = b :: t) (hb : b.toNat = 86 ∨ b.toNat < 58) : ∀ d i, reply_Read.find ln (reply_lines.l k) i d = none := by
  refine find_none ln _ fun x hx h1 h2 => ?_
  have hh := List.all_eq_true.1 (lines_head k) x hx
  unfold headB at hh
  rw [h2, h] at hh
  simp only [List.contains_eq_mem, List.mem_cons, List.not_mem_nil, or_false, decide_eq_true_eq] at hh
  omega
theorem find_plain (k c : Int) (h : 2 ≤ c ∧ c ≤ 12 ∧ c ≠ 7) : reply_Read.find (rdOf ByteArray.empty (reply_lines.l k) c) (reply_lines.l k) 2 11 = some c.toNat := by
  unfold reply_lines.l
  split <;> (rcases (show c = 2 ∨ c = 3 ∨ c = 4 ∨ c = 5 ∨ c = 6 ∨ c = 8 ∨ c = 9 ∨ c = 10 ∨ c = 11 ∨ c = 12 by omega) with rfl | rfl | rfl | rfl | rfl | rfl | rfl | rfl | rfl | rfl <;> decide +kernel)
theorem read_line (k : Int) (s : ByteArray) (ln m : List UInt8) (h : s.data.toList = ln ++ 13 :: 10 :: m) (hl : ∀ b ∈ ln, b ≠ 13) : readV k s = (match reply_Read.find (mk ln) (reply_lines.l k) 2 11 with
    | some i => ((i : Int), [], 0, (ln.length : Int) + 2, 0)
    | none => if (numV (mk ln) 18446744073709551615).2 = true then (7, [], (numV (mk ln) 18446744073709551615).1, (ln.length : Int) + 2, 0) else hitsV k s 102 s []) := by
  unfold readV
  rw [line_is s ln m h hl, ix_line s ln m h hl, if_pos (by omega)]
  cases reply_Read.find (mk ln) (reply_lines.l k) 2 11 <;> rfl
theorem num_no (x : ByteArray) (m : Int) (h : x.data.toList.all digits_Parse.dg = false) : (numV x m).2 = false := by
  unfold numV
  rw [prs_bad _ h]
  rfl
def endsL (t : ByteArray) : Prop := 3 ≤ t.size ∧ t.size ≤ 40000 ∧ ∃ q : List UInt8, t.data.toList = q ++ [13, 10]
theorem allL_size (k : Int) (l : List S47) (ok : ∀ y ∈ l, okB k y) : (allL k l).length ≤ 110 * l.length + tot l := by
  induction l with
  | nil => exact Nat.le_refl _
  | cons y l ih =>
    have i := ih (fun z hz => ok z (List.mem_cons_of_mem _ hz))
    have h := hln_size k y (ok y List.mem_cons_self)
    have e : (hitP k y).size ≤ 105 + y.f2.size := by
      have e2 : eol.size = 2 := rfl
      unfold hitP
      rw [show tl vl (if shK k = true then [y.f0, textV y.f1.toNat, textV y.f2.size, textV y.f3.toNat] else [y.f0, textV y.f1.toNat, textV y.f2.size]) = hln k y from rfl, ByteArray.size_append, ByteArray.size_append, ByteArray.size_append, e2]
      omega
    show ((hitP k y).data.toList ++ allL k l).length ≤ _
    rw [List.length_append, size_eq, List.length_cons]
    unfold tot
    omega
theorem read_back (k c n : Int) (l : List S47) (c0 : 1 ≤ c) (c1 : c ≤ 12) (hn : 0 ≤ n) (hn2 : n < 18446744073709551616) (h7 : c ≠ 7 → n = 0) (h1 : c ≠ 1 → l = []) (ok : ∀ y ∈ l, okB k y) (hl : l.length ≤ 100) (ht : tot l < 20000) :
    ∃ t : ByteArray, reply_Text.f k c (l.map cvH) n = some t ∧ endsL t ∧ ∀ (s : ByteArray) (m : List UInt8), s.size ≤ 1000000 → s.data.toList = t.data.toList ++ m → readV k s = (c, l.map cvH, n, (t.size : Int), 0) := by
  have e2 : eol.size = 2 := rfl
  have el : eol.data.toList = [13, 10] := rfl
  unfold reply_Text.f
  rw [if_neg (by omega), if_neg (by omega)]
  by_cases a3 : c = 7
  · have hz := text_le n.toNat (by omega)
    have hne : (textV n.toNat).size ≠ 0 := by
      rw [← size_eq]
      exact fun h => dec_ne n.toNat (List.eq_nil_of_length_eq_zero h)
    rw [if_pos a3, text_at n hn hn2, Option.bind_some, if_pos (by omega)]
    refine ⟨_, rfl, ⟨by rw [ByteArray.size_append]; show 3 ≤ _ + 2; omega, by rw [ByteArray.size_append]; show _ + 2 ≤ _; omega, (textV n.toNat).data.toList, by rw [ByteArray.data_append, Array.toList_append]⟩, fun s m hs hd => ?_⟩
    have hd2 : s.data.toList = (textV n.toNat).data.toList ++ 13 :: 10 :: m := by
      rw [hd, ByteArray.data_append, Array.toList_append, List.append_assoc]
      rfl
    rw [read_line k s _ m hd2 (fun b hb e => by have := text_dg _ b hb; rw [e] at this; exact absurd this (by decide)), mk_data]
    have hcons : ∃ b t, (textV n.toNat).data.toList = b :: t := by
      cases hq : (textV n.toNat).data.toList with
      | nil => exact absurd hq (dec_ne n.toNat)
      | cons b t => exact ⟨b, t, rfl⟩
    obtain ⟨b, t, hbt⟩ := hcons
    have hb := text_dg n.toNat b (by rw [hbt]; exact List.mem_cons_self)
    rw [find_head k _ b t hbt (.inr (by omega)), num_text n.toNat _ (by omega) (by omega), if_pos rfl, h1 (by omega), a3, size_eq, ByteArray.size_append]
    dsimp only
    rw [show ((n.toNat : Nat) : Int) = n by omega]
    refine congrArg (fun z => ((7 : Int), ([] : List S60), n, z, (0 : Int))) ?_
    show _ = ((((textV n.toNat).size + 2 : Nat)) : Int)
    omega
  · rw [if_neg a3]
    by_cases a4 : c = 1
    · have hsz := allL_size k l ok
      rw [if_pos a4, go_eq k l ⟨#[]⟩ (fun y hy => (ok y hy).1) (by show 0 + _ ≤ _; omega)]
      have ef : fin.data.toList = endL := rfl
      have ed : (allR k l ⟨#[]⟩ ++ fin).data.toList = allL k l ++ endL := by
        rw [ByteArray.data_append, Array.toList_append, allR_data, ef]
        rfl
      have es : (allR k l ⟨#[]⟩ ++ fin).size = (allL k l).length + 5 := by
        rw [← size_eq, ed, List.length_append]
        rfl
      refine ⟨_, rfl, ⟨by omega, by omega, allL k l ++ [69, 78, 68], by rw [ed, List.append_assoc]; rfl⟩, fun s m hs hd => ?_⟩
      rw [ed, List.append_assoc] at hd
      have hh := hits_back k s m l 102 s [] (by omega) (by show 0 + _ ≤ _; omega) ok hd
      have hss : s.size = (allL k l).length + (5 + m.length) := by
        rw [← size_eq, hd, List.length_append, List.length_append]
        rfl
      have hw : wrap64 ((s.size : Int) - (m.length : Int)) = (((allL k l).length + 5 : Nat) : Int) := (w64 (i := (s.size : Int) - (m.length : Int)) (by omega) (by omega)).trans (by omega)
      rw [hw] at hh
      clear hw
      have fine : readV k s = hitsV k s 102 s [] := by
        cases l with
        | nil =>
          rw [read_line k s [69, 78, 68] m hd (by decide), find_none (mk [69, 78, 68]) _ (fun x hx _ h2 => by
            have := List.all_eq_true.1 (lines_end k) x hx
            rw [show (mk [69, 78, 68]).data.toList = [69, 78, 68] from rfl] at h2
            rw [h2] at this
            exact absurd this (by decide)) 11 2]
          dsimp only
          rw [num_no (mk [69, 78, 68]) _ (by decide), if_neg (by decide)]
        | cons y l =>
          have oy := ok y List.mem_cons_self
          have hd2 : s.data.toList = (hln k y).data.toList ++ 13 :: 10 :: (y.f2.data.toList ++ 13 :: 10 :: (allL k l ++ (endL ++ m))) := by
            rw [hd]
            show ((hitP k y).data.toList ++ allL k l) ++ _ = _
            unfold hitP
            rw [show tl vl (if shK k = true then [y.f0, textV y.f1.toNat, textV y.f2.size, textV y.f3.toNat] else [y.f0, textV y.f1.toNat, textV y.f2.size]) = hln k y from rfl]
            simp only [ByteArray.data_append, Array.toList_append, el, List.append_assoc, List.cons_append, List.nil_append]
          have ev : vl.data.toList = [86, 65, 76, 85, 69] := rfl
          have hv : ∃ t, (hln k y).data.toList = 86 :: t := by
            unfold hln
            rw [tl_data, ev]
            exact ⟨_, rfl⟩
          obtain ⟨t, hv⟩ := hv
          rw [read_line k s _ _ hd2 (hln_no k y oy), mk_data, find_head k _ 86 t hv (.inl rfl)]
          dsimp only
          rw [num_no (hln k y) _ (by rw [hv, List.all_cons]; rfl), if_neg (by decide)]
      rw [fine, hh, a4, h7 (by omega), es]
      rfl
    · obtain ⟨q1, q2, q3⟩ := plain_at k c ⟨by omega, by omega, a3⟩
      rw [if_neg a4, if_pos (by omega)]
      refine ⟨_, rfl, ⟨by rw [ByteArray.size_append]; show 3 ≤ _ + 2; omega, by rw [ByteArray.size_append]; show _ + 2 ≤ _; omega, (rdOf ByteArray.empty (reply_lines.l k) c).data.toList, by rw [ByteArray.data_append, Array.toList_append]⟩, fun s m hs hd => ?_⟩
      have hd2 : s.data.toList = (rdOf ByteArray.empty (reply_lines.l k) c).data.toList ++ 13 :: 10 :: m := by
        rw [hd, ByteArray.data_append, Array.toList_append, List.append_assoc]
        rfl
      have hcr : ∀ b ∈ (rdOf ByteArray.empty (reply_lines.l k) c).data.toList, b ≠ 13 := by
        intro b hb
        rcases rdOf_mem (reply_lines.l k) c with hm | hm
        · have := List.all_eq_true.1 (List.all_eq_true.1 (lines_cr k) _ hm) b hb
          exact bne_iff_ne.1 this
        · rw [hm, show ByteArray.empty.data.toList = ([] : List UInt8) from rfl] at hb
          cases hb
      rw [read_line k s _ m hd2 hcr, mk_data, find_plain k c ⟨by omega, by omega, a3⟩, h1 a4, h7 a3, size_eq, ByteArray.size_append]
      dsimp only
      rw [show ((c.toNat : Nat) : Int) = c by omega]
      rfl
end Go.Proofs.YtdgpagocccabdaaDoor.Pl
