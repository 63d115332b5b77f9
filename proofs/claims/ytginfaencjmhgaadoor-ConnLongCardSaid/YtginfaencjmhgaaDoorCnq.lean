/- What a connection's laws lean on, in plain Lean: pieces, a line that is too long, bytes that are swallowed, one line that is asked for. Conditions: the bounds that each theorem names. -/
import Derived.Test.YtginfaencjmhgaaDoorCnk
namespace Go.Proofs.YtginfaencjmhgaaDoor.Pl
set_option linter.unusedVariables false
set_option linter.unusedSimpArgs false
open Go Go.RowKit Go.Proofs.YtginfaencjmhgaaDoor.P Go.Proofs.YtginfaencjmhgaaDoor.Lim Go.Proofs.YtginfaencjmhgaaDoorW.PrintWords
/-! a text's bytes -/
def bytesL (s : ByteArray) : List Int := s.data.toList.map fun b => (b.toNat : Int)
theorem bytesL_len (s : ByteArray) : (bytesL s).length = s.size := by
  unfold bytesL
  rw [List.length_map, size_eq]
theorem bytesL_str (s : ByteArray) : strOfNums (bytesL s) = s := by
  apply ba_ext
  unfold bytesL strOfNums
  simp only [List.map_map]
  refine (List.map_congr_left (g := id) fun b _ => ?_).trans (by simp)
  simp
theorem bytesL_of (s : ByteArray) : Lib.bytesOf (bytesL s) = s.data.toList := by
  have h := Lib.strOfNums_toList (bytesL s)
  rw [bytesL_str, toList_data] at h
  exact h.symm
theorem bytesL_app (s t : ByteArray) : bytesL (s ++ t) = bytesL s ++ bytesL t := by
  unfold bytesL
  rw [ByteArray.data_append, Array.toList_append, List.map_append]
theorem iby_no (c : UInt8) : ∀ l : List UInt8, (∀ b ∈ l, b ≠ c) → Lib.indexByte l c = -1
  | [], _ => rfl
  | b :: l, h => by
    unfold Lib.indexByte
    rw [if_neg (fun e => h b List.mem_cons_self (beq_iff_eq.1 e)), iby_no c l (fun x hx => h x (List.mem_cons_of_mem _ hx)), if_pos (beq_iff_eq.2 rfl)]
/-- A line's bytes with its end: where it ends, and its text. -/
theorem line_end (s : ByteArray) (hs : ∀ b ∈ s.data.toList, b ≠ 10) (rest : List Int) : ixb (bytesL s ++ (13 :: 10 :: rest)) = (s.size : Int) + 1 := by
  have h1 : ixb (bytesL s) = -1 := by
    unfold ixb
    rw [bytesL_of]
    exact iby_no 10 _ hs
  rw [ixb_neg _ _ (by omega), show ixb (13 :: 10 :: rest) = 1 from rfl, if_pos (by decide), bytesL_len]
theorem line_text (s : ByteArray) (rest : List Int) : lnV ((bytesL s ++ (13 :: 10 :: rest)).take ((s.size : Int) + 1).toNat) = s := by
  have e : (bytesL s ++ (13 :: 10 :: rest)).take ((s.size : Int) + 1).toNat = bytesL s ++ [13] := by
    rw [show ((s.size : Int) + 1).toNat = (bytesL s).length + 1 by rw [bytesL_len]; omega, List.take_append, List.take_of_length_le (by omega), Nat.add_sub_cancel_left]
    rfl
  rw [e]
  unfold lnV
  have hsuf : Lib.hasSuffix (Lib.bytesOf (bytesL s ++ [13])) [13] = true := by
    rw [bo_app]
    unfold Lib.hasSuffix
    rw [List.isSuffixOf_iff_suffix]
    exact ⟨Lib.bytesOf (bytesL s), rfl⟩
  rw [hsuf, if_pos rfl, List.length_append, show (bytesL s).length + [(13 : Int)].length - 1 = (bytesL s).length from rfl, List.take_left' rfl, bytesL_str]
/-- The first line of a connection that waits for nothing. -/
theorem line_next (s : ByteArray) (hs : ∀ b ∈ s.data.toList, b ≠ 10) (rest : List Int) (h2 : (pT s).1 ≠ 2) : nextV ⟨bytesL s ++ (13 :: 10 :: rest), 0, false, none⟩ = (⟨rest, swP (pT s), false, none⟩, askP (pT s), true) := by
  unfold nextV
  rw [clean_id _ rfl rfl, if_pos rfl]
  unfold coreV
  dsimp only
  rw [line_end s hs rest, if_neg (by omega), line_text s rest, if_neg h2]
  refine Prod.ext ?_ rfl
  show CS.mk _ _ _ _ = CS.mk _ _ _ _
  rw [show ((s.size : Int) + 1 + 1).toNat = (bytesL s).length + 2 by rw [bytesL_len]; omega, List.drop_append, List.drop_eq_nil_of_le (by omega), List.nil_append, Nat.add_sub_cancel_left]
  rfl
/-! a line that is too long -/
theorem long_one (xs : List Int) (h : ixb xs < 0) (hn : 162 ≤ xs.length) : nextV ⟨xs, 0, false, none⟩ = (⟨xs.drop 161, 0, true, none⟩, zA 9, true) := by
  unfold nextV
  rw [clean_id _ rfl rfl, if_pos rfl]
  unfold coreV
  dsimp only
  rw [if_pos h, if_neg (by omega)]
theorem long_two (xs : List Int) (h : ixb xs < 0) : nextV ⟨xs, 0, true, none⟩ = (⟨[], 0, true, none⟩, zA 0, false) := by
  have e : cleanV ⟨xs, 0, true, none⟩ = (⟨[], 0, true, none⟩, false) := by
    unfold cleanV
    dsimp only
    have hm : min (0 : Int) (xs.length : Int) = 0 := by omega
    rw [hm, if_neg (by decide), if_pos rfl, show List.drop (0 : Int).toNat xs = xs from rfl, if_pos h]
    rfl
  unfold nextV
  rw [e]
  rfl
theorem long_three (xs : List Int) : nextV ⟨10 :: xs, 0, true, none⟩ = nextV ⟨xs, 0, false, none⟩ := by
  refine next_clean ?_
  rw [clean_id ⟨xs, 0, false, none⟩ rfl rfl]
  unfold cleanV
  dsimp only
  have hm : min (0 : Int) ((10 :: xs).length : Int) = 0 := by omega
  have hi : ixb (10 :: xs) = 0 := rfl
  rw [hm, if_neg (by decide), if_pos rfl, show List.drop (0 : Int).toNat (10 :: xs) = 10 :: xs from rfl, hi, if_neg (by decide)]
  rfl
theorem fill_no (f : Int) (h0 : 0 ≤ f) (h1 : f < 256) (h : f ≠ 10) (n : Nat) : ixb (List.replicate n f) = -1 := by
  unfold ixb
  refine iby_no 10 _ fun b hb => ?_
  unfold Lib.bytesOf at hb
  rw [List.map_replicate] at hb
  rw [(List.mem_replicate.1 hb).2]
  intro e
  have := congrArg UInt8.toNat e
  rw [UInt8.toNat_ofNat'] at this
  have e10 : (10 : UInt8).toNat = 10 := rfl
  omega
/-! bytes that are swallowed -/
/-! pieces -/
/-- What was asked for so far, in pieces; what is left. -/
structure Pcs (N : Nat) (s : CS) (b : List Int) (parts : List AT) (y : CS) : Prop where
  ok : y.Gd
  len : y.b.length ≤ b.length
  stop : (nextV y).2.2 = false
  eq : ∀ c : List Int, b.length + c.length < N → (allV N (s.add (b ++ c))).1 = parts ++ (allV N (y.add c)).1
theorem all_good : ∀ (n : Nat) (s : CS), s.Gd → (allV n s).2.Gd ∧ ∀ a ∈ (allV n s).1, AskOk a
  | 0, s, h => ⟨h, fun a ha => by cases ha⟩
  | n + 1, s, h => by
    obtain ⟨h1, h2⟩ := next_good s h
    unfold allV
    cases hy : (nextV s).2.2 with
    | true =>
      obtain ⟨i1, i2⟩ := all_good n (nextV s).1 h1
      refine ⟨i1, fun a ha => ?_⟩
      rcases List.mem_cons.1 ha with rfl | ha
      · exact h2 hy
      · exact i2 a ha
    | false => exact ⟨h1, fun a ha => by cases ha⟩
theorem Pcs.begin (N : Nat) : Pcs N s0 [] [] s0 := ⟨good0 [], Nat.le_refl _, rfl, fun c _ => by rw [List.nil_append, List.nil_append]⟩
theorem Pcs.more {N : Nat} {s : CS} {b : List Int} {parts : List AT} {y : CS} (h : Pcs N s b parts y) (c : List Int) (hN : b.length + c.length < N) : Pcs N s (b ++ c) (parts ++ (allV N (y.add c)).1) (allV N (y.add c)).2 := by
  have hl : (y.add c).b.length < N := by
    show (y.b ++ c).length < N
    rw [List.length_append]
    have := h.len
    omega
  have hy := add_good h.ok c
  have hlen : (y.add c).b.length ≤ (b ++ c).length := by
    show (y.b ++ c).length ≤ _
    rw [List.length_append, List.length_append]
    have := h.len
    omega
  obtain ⟨_, _, a3, a4⟩ := all_app N (y.add c) hy.ok hl [] N (by rw [List.length_nil]; omega)
  refine ⟨(all_good N _ hy).1, Nat.le_trans a3 hlen, a4, fun d hd => ?_⟩
  rw [List.length_append] at hd
  have e := h.eq (c ++ d) (by rw [List.length_append]; omega)
  rw [List.append_assoc, e, List.append_assoc, ← add_add]
  refine congrArg (parts ++ ·) ?_
  exact (all_app N (y.add c) hy.ok hl d N (by
    have : (y.add c).b.length ≤ b.length + c.length := by rw [← List.length_append]; exact hlen
    omega)).1
/-- All pieces together: what is asked for does not hang on them. -/
theorem Pcs.whole {N : Nat} {b : List Int} {parts : List AT} {y : CS} (h : Pcs N s0 b parts y) (hN : b.length < N) : (allV N (s0.add b)).1 = parts := by
  have e := h.eq [] (by rw [List.length_nil]; omega)
  rw [List.append_nil, add_nil] at e
  obtain ⟨M, rfl⟩ : ∃ M, N = M + 1 := ⟨N - 1, by omega⟩
  have z : (allV (M + 1) y).1 = [] := by
    unfold allV
    rw [h.stop]
    rfl
  rw [e, z, List.append_nil]
end Go.Proofs.YtginfaencjmhgaaDoor.Pl
