/- A result read out of bytes: the document's first line and its words are the library's cut and split. Plain Lean; conditions: texts of at most 1000000 bytes. -/
import Derived.Test.YtdgpagocccabdaaDoorRwr
import Derived.Test.YtdgpagocccabdaaDoorLmReplyReads
import Derived.Lib.SplitLaws
import Derived.Lib.IndexMore
namespace Go.Proofs.YtdgpagocccabdaaDoor.Pl
set_option linter.unusedVariables false
set_option linter.unusedSimpArgs false
open Go Go.RowKit Go.Proofs.YtdgpagocccabdaaDoor.P Go.Proofs.YtdgpagocccabdaaDoor.Lim Go.Proofs.YtdgpagocccabdaaDoorW.PrintWords
def ixE (s : ByteArray) : Int := Lib.index s.data.toList [13, 10]
theorem cut_eq (s : ByteArray) (hs : s.size ≤ 1000000) : strings_Cut.f s ⟨#[13, 10]⟩ = some (if 0 ≤ ixE s then (s.extract 0 (ixE s).toNat, s.extract ((ixE s).toNat + 2) s.size, true) else (s, ⟨#[]⟩, false)) := by
  unfold strings_Cut.f Lib.cut
  rw [if_pos hs]
  refine congrArg some ?_
  rw [show (⟨#[13, 10]⟩ : ByteArray).data.toList = [13, 10] from rfl]
  show (_ , _, _) = _
  unfold ixE
  split
  · refine Prod.ext ?_ (Prod.ext ?_ rfl)
    · apply ba_ext
      rw [Lib.extract_from_zero]
    · apply ba_ext
      rw [Lib.extract_to_end]
      rfl
  · rfl
/-- Words between single blanks. -/
def spl : List UInt8 → List UInt8 → List (List UInt8)
  | cur, [] => [cur]
  | cur, c :: t => if c = 32 then cur :: spl [] t else spl (cur ++ [c]) t
theorem occ1 (c : UInt8) (t : List UInt8) : Lib.occAt (c :: t) [32] 0 = true ↔ c = 32 := by
  unfold Lib.occAt
  simp only [List.drop_zero, List.isPrefixOf, Bool.and_true, beq_iff_eq]
  exact ⟨fun h => h.symm, fun h => h.symm⟩
theorem spl_hit : ∀ (i : Nat) (l cur : List UInt8), Lib.NoOcc l [32] i → Lib.occAt l [32] i = true → spl cur l = (cur ++ l.take i) :: spl [] (l.drop (i + 1)) := by
  intro i
  induction i with
  | zero =>
    intro l cur _ ho
    cases l with
    | nil => simp [Lib.occAt] at ho
    | cons c t =>
      have hc := (occ1 c t).1 ho
      rw [spl, if_pos hc, List.take_zero, List.append_nil]
      rfl
  | succ i ih =>
    intro l cur hn ho
    cases l with
    | nil => simp [Lib.occAt] at ho
    | cons c t =>
      have hc : c ≠ 32 := fun h => by
        have := hn 0 (by omega)
        rw [(occ1 c t).2 h] at this
        cases this
      rw [spl, if_neg hc, ih t (cur ++ [c]) (fun j hj => hn (j + 1) (by omega)) ho, List.append_assoc]
      rfl
theorem spl_miss : ∀ (l cur : List UInt8), (∀ j, j ≤ l.length → Lib.occAt l [32] j = false) → spl cur l = [cur ++ l] := by
  intro l
  induction l with
  | nil => intro cur _; rw [spl, List.append_nil]
  | cons c t ih =>
    intro cur h
    have hc : c ≠ 32 := fun e => by
      have := h 0 (by omega)
      rw [(occ1 c t).2 e] at this
      cases this
    rw [spl, if_neg hc, ih (cur ++ [c]) (fun j hj => h (j + 1) (by rw [List.length_cons]; omega)), List.append_assoc]
    rfl
theorem splitK_spl : ∀ (n : Nat) (l : List UInt8), l.length ≤ n → Lib.splitK [32] 0 (Lib.count l [32]) l = spl [] l := by
  intro n
  induction n with
  | zero =>
    intro l hl
    obtain rfl : l = [] := List.eq_nil_of_length_eq_zero (by omega)
    rfl
  | succ n ih =>
    intro l hl
    rcases Lib.index_spec l [32] with ⟨hm, hno⟩ | ⟨i, hi, hle, ho, hno⟩
    · rw [Lib.count_miss hm, spl_miss l [] hno]
      rfl
    · have hlt : i < l.length := by
        rcases Nat.lt_or_ge i l.length with h | h
        · exact h
        · unfold Lib.occAt at ho
          rw [List.drop_eq_nil_of_le h] at ho
          simp at ho
      rw [Lib.count_hit (by simp) hi, Nat.add_comm, spl_hit i l [] hno ho]
      unfold Lib.splitK
      rw [if_neg (by rw [hi]; simp), hi, Int.toNat_natCast, Nat.add_zero, List.nil_append]
      refine congrArg _ ?_
      exact ih (l.drop (i + 1)) (by rw [List.length_drop]; omega)
def mk (l : List UInt8) : ByteArray := ⟨l.toArray⟩
theorem mk_data (s : ByteArray) : mk s.data.toList = s := by
  apply ba_ext
  unfold mk
  simp
theorem split_eq (s : ByteArray) (hs : s.size ≤ 1000000) : strings_Split.f s ⟨#[32]⟩ = some ((spl [] s.data.toList).map mk) := by
  have hc : Lib.countB s ⟨#[32]⟩ ≤ 1000000 := Nat.le_trans (Lib.countB_le ⟨#[32]⟩ (by decide) s.size s (Nat.le_refl _)) hs
  unfold strings_Split.f
  rw [if_pos ⟨hs, by decide, hc⟩]
  refine congrArg some ?_
  have h := Lib.splitB_data ⟨#[32]⟩ 0 (Lib.countB s ⟨#[32]⟩) s
  have h2 := congrArg (List.map mk) h
  rw [List.map_map] at h2
  rw [show (mk ∘ fun x : ByteArray => x.data.toList) = id from funext fun x => mk_data x, List.map_id] at h2
  rw [h2]
  refine congrArg _ ?_
  exact splitK_spl _ s.data.toList (Nat.le_refl _)
end Go.Proofs.YtdgpagocccabdaaDoor.Pl
