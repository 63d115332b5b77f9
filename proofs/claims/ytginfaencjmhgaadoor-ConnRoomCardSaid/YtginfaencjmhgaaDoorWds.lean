/- The words of a text, byte by byte. Plain Lean; no condition. -/
import Derived.Test.YtginfaencjmhgaaDoorPl
import Derived.Test.YtginfaencjmhgaaDoorPx2
import Derived.Lib.FieldsP
namespace Go.Proofs.YtginfaencjmhgaaDoor.Pl
set_option linter.unusedVariables false
open Go Go.RowKit Go.Proofs.YtginfaencjmhgaaDoor.P Go.Proofs.YtginfaencjmhgaaDoorW.PrintWords
open Go.Lib (decodeN decode_at pieceU openPiece pieceU_grow pieceU_ne closeSpans spansFromP spansFromP_end decodeN_le_n')
def splitB (cur : List UInt8) : List UInt8 → List (List UInt8)
  | [] => if cur = [] then [] else [cur]
  | b :: l => if b = 32 then (if cur = [] then splitB [] l else cur :: splitB [] l) else splitB (cur ++ [b]) l
theorem splitB_more : ∀ (m cur l : List UInt8), (∀ b ∈ m, b ≠ 32) → splitB cur (m ++ l) = splitB (cur ++ m) l
  | [], cur, l, _ => by rw [List.nil_append, List.append_nil]
  | b :: m, cur, l, h => by
    rw [List.cons_append, splitB, if_neg (h b (List.mem_cons_self ..)), splitB_more m (cur ++ [b]) l (fun x hx => h x (List.mem_cons_of_mem _ hx)), List.append_assoc]
    rfl
theorem dec_sp (n b0 b1 b2 b3 : Nat) : (decodeN n b0 b1 b2 b3).1 = 32 → b0 = 32 ∧ (decodeN n b0 b1 b2 b3).2 = 1 := by
  unfold decodeN
  repeat' split
  all_goals (intro h; dsimp only at h ⊢; omega)
theorem dec_no (n b0 b1 b2 b3 : Nat) : (decodeN n b0 b1 b2 b3).1 ≠ 32 → b0 ≠ 32 ∧ (2 ≤ (decodeN n b0 b1 b2 b3).2 → b1 ≠ 32) ∧ (3 ≤ (decodeN n b0 b1 b2 b3).2 → b2 ≠ 32) ∧ (4 ≤ (decodeN n b0 b1 b2 b3).2 → b3 ≠ 32) ∧ (decodeN n b0 b1 b2 b3).2 ≤ 4 := by
  unfold decodeN
  repeat' split
  all_goals (simp only; omega)
theorem get_at (s : ByteArray) (i : Nat) (h : i < s.data.toList.length) : s.data.toList[i] = s.get! i := by
  have h2 : i < s.data.size := by simpa using h
  show _ = s.data[i]!
  rw [getElem!_pos s.data i h2]
  simp
theorem bytes_no (s : ByteArray) (pos : Nat) (h : (Utf8.decode s pos).1 ≠ 32) : ∀ b ∈ (s.data.toList.drop pos).take (Utf8.decode s pos).2, b ≠ 32 := by
  intro b hb h32
  obtain ⟨j, hj, rfl⟩ := List.mem_iff_getElem.1 hb
  rw [List.length_take, List.length_drop] at hj
  rw [List.getElem_take, List.getElem_drop, get_at s (pos + j) (by omega)] at h32
  have h32 : (s.get! (pos + j)).toNat = 32 := by rw [h32]; rfl
  rw [decode_at] at h hj
  obtain ⟨h0, h1, h2, h3, h4⟩ := dec_no _ _ _ _ _ h
  have hj2 : j < (decodeN (s.size - pos) (s.get! pos).toNat (s.get! (pos + 1)).toNat (s.get! (pos + 2)).toNat (s.get! (pos + 3)).toNat).2 := by omega
  have : j = 0 ∨ j = 1 ∨ j = 2 ∨ j = 3 := by omega
  rcases this with rfl | rfl | rfl | rfl
  · exact h0 h32
  · exact h1 (by omega) h32
  · exact h2 (by omega) h32
  · exact h3 (by omega) h32
theorem byte_sp (s : ByteArray) (pos : Nat) (hp : pos < s.size) (h : (Utf8.decode s pos).1 = 32) : s.data.toList.drop pos = 32 :: s.data.toList.drop (pos + 1) ∧ (Utf8.decode s pos).2 = 1 := by
  rw [decode_at] at h ⊢
  obtain ⟨h0, h1⟩ := dec_sp _ _ _ _ _ h
  refine ⟨?_, h1⟩
  have hl : pos < s.data.toList.length := by rw [size_eq]; exact hp
  rw [drop_bytes s pos hl, get_at s pos hl]
  congr 1
  exact UInt8.toNat_inj.1 h0
theorem spans_words (s : ByteArray) : ∀ (f pos : Nat) (st : Option Nat) (acc : List (Nat × Nat)), s.size ≤ pos + f → pos ≤ s.size → (∀ a, st = some a → a < pos) →
    acc.map (fun p => pieceU s.data.toList p.1 p.2) ++ splitB (openPiece s.data.toList st pos) (s.data.toList.drop pos) = (closeSpans s (spansFromP blankP s f pos st acc)).map (fun p => pieceU s.data.toList p.1 p.2) := by
  have fin : ∀ (f : Nat) (st : Option Nat) (acc : List (Nat × Nat)), (∀ a, st = some a → a < s.size) → acc.map (fun p => pieceU s.data.toList p.1 p.2) ++ splitB (openPiece s.data.toList st s.size) (s.data.toList.drop s.size) = (closeSpans s (spansFromP blankP s f s.size st acc)).map (fun p => pieceU s.data.toList p.1 p.2) := by
    intro f st acc hst
    have hd : s.data.toList.drop s.size = [] := List.drop_eq_nil_of_le (by rw [size_eq]; exact Nat.le_refl _)
    rw [hd, splitB, spansFromP_end blankP s _ _ _ _ (Nat.lt_irrefl _)]
    cases st with
    | none => simp [closeSpans, openPiece]
    | some a =>
      have := pieceU_ne s.data.toList a s.size (hst a rfl) (by rw [size_eq]; exact Nat.le_refl _)
      simp [closeSpans, openPiece, this]
  intro f
  induction f with
  | zero =>
    intro pos st acc h hp hst
    obtain rfl : pos = s.size := by omega
    exact fin 0 st acc hst
  | succ f ihf =>
    intro pos st acc h hp hst
    by_cases hlt : pos < s.size
    · have hw := Go.Lib.width_pos s pos
      have hwn : pos + (Utf8.decode s pos).2 ≤ s.size := by
        have := decodeN_le_n' (s.size - pos) (s.get! pos).toNat (s.get! (pos + 1)).toNat (s.get! (pos + 2)).toNat (s.get! (pos + 3)).toNat (by omega)
        rw [← decode_at] at this
        omega
      unfold spansFromP
      rw [if_pos hlt]
      by_cases hsp : (Utf8.decode s pos).1 = 32
      · rw [if_pos (show blankP (Utf8.decode s pos).1 = true from beq_iff_eq.2 hsp)]
        obtain ⟨e1, e2⟩ := byte_sp s pos hlt hsp
        rw [e1, e2, splitB, if_pos rfl]
        rw [e2] at hwn
        cases st with
        | none =>
          have ih := ihf (pos + 1) none acc (by omega) hwn (fun a h => by cases h)
          simpa [openPiece] using ih
        | some a =>
          have hpn := pieceU_ne s.data.toList a pos (hst a rfl) (by rw [size_eq]; omega)
          have ih := ihf (pos + 1) none (acc ++ [(a, pos)]) (by omega) hwn (fun a h => by cases h)
          simpa [openPiece, hpn] using ih
      · rw [if_neg (show ¬ blankP (Utf8.decode s pos).1 = true from fun h => hsp (beq_iff_eq.1 h))]
        have hb := bytes_no s pos hsp
        rw [← List.take_append_drop (Utf8.decode s pos).2 (s.data.toList.drop pos), splitB_more _ _ _ hb, List.drop_drop]
        cases st with
        | none =>
          have ih := ihf (pos + (Utf8.decode s pos).2) (some pos) acc (by omega) hwn (fun a h => by cases h; omega)
          have e : ([] : List UInt8) ++ (s.data.toList.drop pos).take (Utf8.decode s pos).2 = pieceU s.data.toList pos (pos + (Utf8.decode s pos).2) := by
            unfold pieceU
            rw [List.nil_append, Nat.add_sub_cancel_left]
          simp only [openPiece] at ih ⊢
          rw [e]
          exact ih
        | some a =>
          have ih := ihf (pos + (Utf8.decode s pos).2) (some a) acc (by omega) hwn (fun b h => by cases h; have := hst a rfl; omega)
          simp only [openPiece] at ih ⊢
          rw [pieceU_grow _ _ _ _ (Nat.le_of_lt (hst a rfl))]
          exact ih
    · obtain rfl : pos = s.size := by omega
      exact fin (f + 1) st acc hst
theorem words_split (s : ByteArray) : (Lib.goFieldsP blankP s).map (·.data.toList) = splitB [] s.data.toList := by
  have h := spans_words s s.size 0 none [] (by omega) (Nat.zero_le _) (fun a h => by cases h)
  simp only [List.map_nil, List.nil_append, openPiece, List.drop_zero] at h
  rw [h]
  unfold Lib.goFieldsP Lib.spansOfP
  rw [List.map_map]
  refine List.map_congr_left fun p _ => ?_
  show (s.extract p.1 p.2).data.toList = pieceU s.data.toList p.1 p.2
  unfold pieceU
  simp
end Go.Proofs.YtginfaencjmhgaaDoor.Pl
