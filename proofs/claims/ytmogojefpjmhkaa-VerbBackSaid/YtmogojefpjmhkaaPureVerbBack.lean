/- The kind of a kind's name is the kind, the name of a name's kind is the name, and no two kinds have one name: for every kind and name. No condition. -/
import Derived.Test.YtmogojefpjmhkaaPx16
import Derived.Test.YtmogojefpjmhkaaWorks
import Derived.Test.YtmogojefpjmhkaaLmVerbBack
namespace Go.Proofs.Ytmogojefpjmhkaa.Pure
open Go.RowKit Go.Proofs.Ytmogojefpjmhkaa.P Go.Proofs.YtmogojefpjmhkaaW.PrintWords Go.Proofs.YtmogojefpjmhkaaW.PrintLast Go.Proofs.Ytmogojefpjmhkaa.Lim Go.Proofs.Ytmogojefpjmhkaa.Pl

theorem back_kind (k : Int) (h : 1 ≤ k ∧ k ≤ 15) : ∃ n, verb_Name.f k = some n ∧ verb_Kind.f n = some k := by
  have h15 : k = 1 ∨ k = 2 ∨ k = 3 ∨ k = 4 ∨ k = 5 ∨ k = 6 ∨ k = 7 ∨ k = 8 ∨ k = 9 ∨ k = 10 ∨ k = 11 ∨ k = 12 ∨ k = 13 ∨ k = 14 ∨ k = 15 := by omega
  rcases h15 with rfl | rfl | rfl | rfl | rfl | rfl | rfl | rfl | rfl | rfl | rfl | rfl | rfl | rfl | rfl <;>
    (refine ⟨_, rfl, ?_⟩; unfold verb_Kind.f; simp only [verb_Kind.v, toList_data]; decide)

theorem kind_name (a : ByteArray) (m : Nat) : ∀ j : Nat, m + j = 16 → verb_Kind.v a m j = 0 ∨ ∃ i : Nat, i < 16 ∧ verb_Kind.v a m j = (i : Int) ∧ rdOf ByteArray.empty verb_names.l (i : Int) = a := by
  induction m with
  | zero => intro j _; exact Or.inl rfl
  | succ m ih =>
    intro j hj
    rw [verb_Kind.v]
    by_cases h : (rdOf ByteArray.empty verb_names.l (j : Int)).toList = a.toList
    · rw [if_pos h]
      exact Or.inr ⟨j, by omega, rfl, (toList_inj _ _).1 h⟩
    · rw [if_neg h]
      exact ih (j + 1) (by omega)

theorem VerbBack : tallboylaw15_VerbBack.Pure := by
  intro a0 a1 a2 _ _ _
  refine (tallboylaw15_VerbBack.Llm a0 a1 a2).rounds ?_
  rw [tallboylaw15_VerbBack.L_eq, works_true, Option.bind_some, if_pos rfl]
  have rng : ∀ a : Int, 1 ≤ wrap64 (1 + wrap64 (Int.tmod (IntKind.u64.wrap a) 15)) ∧ wrap64 (1 + wrap64 (Int.tmod (IntKind.u64.wrap a) 15)) ≤ 15 := by
    intro a
    rw [IntKind.wrap_u64, Int.tmod_eq_emod_of_nonneg (by omega)]
    unfold wrap64
    omega
  have r1 := rng a0
  have r2 := rng a2
  generalize wrap64 (1 + wrap64 (Int.tmod (IntKind.u64.wrap a0) 15)) = k at r1
  generalize wrap64 (1 + wrap64 (Int.tmod (IntKind.u64.wrap a2) 15)) = o at r2
  obtain ⟨n, hn, hk⟩ := back_kind k r1
  obtain ⟨m, hm, ho⟩ := back_kind o r2
  rw [hn, hm]
  simp only [Option.bind_some]
  rw [hk]
  simp only [Option.bind_some, if_true]
  have e : (n.toList == m.toList) = (k == o) := by
    rw [Bool.eq_iff_iff]
    simp only [beq_iff_eq, toList_inj]
    constructor
    · intro h
      rw [h, ho] at hk
      exact (Option.some.inj hk).symm
    · intro h
      rw [h, hm] at hn
      exact (Option.some.inj hn).symm
  rw [e, show ((k == o) != (k == o)) = false by simp, tallboylaw15_VerbBack.j0L_eq, if_neg (by decide)]
  unfold verb_Kind.f
  rw [Option.bind_some]
  rcases kind_name a1 16 0 rfl with h | ⟨i, hi, h, hr⟩
  · rw [h, if_pos rfl]
  · rw [h]
    by_cases h0 : (i : Int) = 0
    · rw [if_pos h0]
    · rw [if_neg h0]
      unfold verb_Name.f
      rw [if_pos (by omega), Option.bind_some, hr]
      simp

end Go.Proofs.Ytmogojefpjmhkaa.Pure
