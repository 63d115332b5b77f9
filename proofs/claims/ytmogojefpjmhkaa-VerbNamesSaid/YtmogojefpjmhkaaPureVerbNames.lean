/- The names of kinds, the kinds of names, and what a kind does: the program's functions answer as the document's, for every kind and every name. No condition. -/
import Derived.Test.YtmogojefpjmhkaaPx6
namespace Go.Proofs.Ytmogojefpjmhkaa.Pure
open Go.RowKit Go.Proofs.Ytmogojefpjmhkaa.P Go.Proofs.YtmogojefpjmhkaaW.PrintWords Go.Proofs.YtmogojefpjmhkaaW.PrintLast

theorem name_eq (a : Int) : tallboyref15_Name.f a = verb_Name.f a := by
  unfold tallboyref15_Name.f verb_Name.f
  simp only [Option.bind_some]
  by_cases h1 : a < 1
  · rw [if_pos h1, if_neg (by omega)]
  · rw [if_neg h1]
    by_cases h2 : a > 15
    · rw [if_pos h2, if_neg (by omega)]
    · rw [if_neg h2, if_pos (by omega), if_pos (by simp; omega), if_pos (by omega)]
      rfl

theorem kind_eq (a : ByteArray) (m : Nat) : ∀ j : Nat, m + j = 16 → 1 ≤ j → tallboyref15_Kind.l0 (m + 1) a j = some (verb_Kind.v a m j) := by
  induction m with
  | zero =>
    intro j hj _
    simp only [tallboyref15_Kind.l0, verb_Kind.v]
    rw [if_neg (by omega)]
  | succ m ih =>
    intro j hj h1
    rw [tallboyref15_Kind.l0, if_pos (by omega), name_eq]
    unfold verb_Name.f
    rw [if_pos (by omega)]
    simp only [Option.bind_some, verb_Kind.v]
    by_cases he : (rdOf ByteArray.empty verb_names.l (j : Int)).toList = a.toList
    · rw [if_pos he, if_pos he]
    · rw [if_neg he, if_neg he]
      have hw : wrap64 ((j : Int) + 1) = ((j + 1 : Nat) : Int) := by unfold wrap64; omega
      rw [hw]
      exact ih (j + 1) (by omega) (by omega)

theorem kinds (a : ByteArray) : tallboyref15_Kind.f 16 a = verb_Kind.f a := by
  unfold tallboyref15_Kind.f verb_Kind.f
  rw [show (1 : Int) = ((1 : Nat) : Int) from rfl, kind_eq a 15 1 rfl (Nat.le_refl _)]
  rw [show verb_Kind.v a 16 0 = if (rdOf ByteArray.empty verb_names.l ((0 : Nat) : Int)).toList = a.toList then ((0 : Nat) : Int) else verb_Kind.v a 15 1 from rfl]
  by_cases he : (rdOf ByteArray.empty verb_names.l ((0 : Nat) : Int)).toList = a.toList
  · rw [if_pos he]
    have he' : a.toList = [] := by rw [← he, ByteArray.toList_eq]; rfl
    have hne : ∀ j : Nat, 1 ≤ j → j ≤ 15 → ¬ (rdOf ByteArray.empty verb_names.l (j : Int)).toList = a.toList := by
      intro j h1 h2
      rw [he', ByteArray.toList_eq]
      obtain ⟨k, rfl⟩ : ∃ k, j = k + 1 := ⟨j - 1, by omega⟩
      match k, h2 with
      | 0, _ => decide
      | 1, _ => decide
      | 2, _ => decide
      | 3, _ => decide
      | 4, _ => decide
      | 5, _ => decide
      | 6, _ => decide
      | 7, _ => decide
      | 8, _ => decide
      | 9, _ => decide
      | 10, _ => decide
      | 11, _ => decide
      | 12, _ => decide
      | 13, _ => decide
      | 14, _ => decide
    have hz : ∀ m j : Nat, m + j = 16 → 1 ≤ j → verb_Kind.v a m j = 0 := by
      intro m
      induction m with
      | zero => intro j _ _; rfl
      | succ m ih =>
        intro j hj h1
        rw [verb_Kind.v, if_neg (hne j h1 (by omega))]
        exact ih (j + 1) (by omega) (by omega)
    rw [hz 15 1 rfl (Nat.le_refl _)]
    rfl
  · rw [if_neg he]

theorem VerbNames : tallboylaw15_VerbNames.Pure := by
  intro a0 a1 _ _
  refine ⟨16, ?_⟩
  unfold tallboylaw15_VerbNames.f
  rw [name_eq, kinds]
  have hn : ∃ n, verb_Name.f a0 = some n := by unfold verb_Name.f; split <;> exact ⟨_, rfl⟩
  obtain ⟨n, hn⟩ := hn
  rw [hn]
  simp only [Option.bind_some, if_true, verb_Kind.f]
  have hs : tallboyref15_Stores.f a0 = verb_Stores.f a0 := rfl
  have hw : tallboyref15_Shows.f a0 = verb_Shows.f a0 := rfl
  rw [hs, hw]
  have h1 : ∃ n, verb_Stores.f a0 = some n := by unfold verb_Stores.f; split <;> exact ⟨_, rfl⟩
  have h2 : ∃ n, verb_Shows.f a0 = some n := by unfold verb_Shows.f; split <;> exact ⟨_, rfl⟩
  obtain ⟨b, h1⟩ := h1
  obtain ⟨c, h2⟩ := h2
  rw [h1, h2]
  simp

end Go.Proofs.Ytmogojefpjmhkaa.Pure
