/- DigitsRise, in plain Lean: of two numbers the greater one has the longer text, or the later one. No condition. -/
import Derived.Test.YtbaegkghngbecaaDoorSayDigitsRise
import Derived.Test.YtbaegkghngbecaaDoorLmDigitsRise
import Derived.Test.YtbaegkghngbecaaDoorDg3
import Derived.DataShut
namespace Go.Proofs.YtbaegkghngbecaaDoor.Pure
set_option linter.unusedVariables false
open Go Go.RowKit Go.Proofs.YtbaegkghngbecaaDoor.P Go.Proofs.YtbaegkghngbecaaDoor.Lim Go.Proofs.YtbaegkghngbecaaDoor.Pl Go.Proofs.YtbaegkghngbecaaDoorW.PrintWords
theorem worksDigitsRise : tallboylaw02_works.L = some true := works_ok (by decide +kernel)
theorem DigitsRise : digitsRise.Pure := by
  intro a b ha hb
  have qa : 0 ≤ a ∧ a ≤ 18446744073709551615 := (Lit.wf_int_iff .u64 a).1 ha
  have qb : 0 ≤ b ∧ b ≤ 18446744073709551615 := (Lit.wf_int_iff .u64 b).1 hb
  refine (tallboylaw02_DigitsRise.Llm a b).rounds ?_
  obtain ⟨u, rfl⟩ := Int.eq_ofNat_of_zero_le qa.1
  obtain ⟨v, rfl⟩ := Int.eq_ofNat_of_zero_le qb.1
  have hu : u < 18446744073709551616 := by omega
  have hv : v < 18446744073709551616 := by omega
  have same : (((u : Int) == (v : Int)) == ((textV u).toList == (textV v).toList)) = true := by
    rw [toList_data, toList_data, text_data, text_data]
    by_cases h : u = v
    · rw [h]
      simp
    · have h2 : (Lib.decDigits u == Lib.decDigits v) = false := beq_eq_false_iff_ne.2 (fun g => h (by rw [← dec_val u, g, dec_val]))
      have h3 : ((u : Int) == (v : Int)) = false := beq_eq_false_iff_ne.2 (fun g => h (by omega))
      rw [h2, h3]
      rfl
  have m1 := nd_mono u v u (Nat.le_refl _)
  have m2 := nd_mono v u v (Nat.le_refl _)
  rw [tallboylaw02_DigitsRise.L_eq, worksDigitsRise, Option.bind_some, if_pos rfl, text_eq u hu, Option.bind_some, text_eq v hv, Option.bind_some, text_size, text_size, same]
  by_cases h1 : (Lib.nDigits u : Int) > (Lib.nDigits v : Int)
  · have g : v < u := by
      rcases Nat.lt_or_ge v u with h | h
      · exact h
      · have := m2 h
        omega
    rw [if_pos h1, decide_eq_true (show (u : Int) > (v : Int) by omega)]
    rfl
  · rw [if_neg h1]
    by_cases h2 : (Lib.nDigits u : Int) = (Lib.nDigits v : Int)
    · have hl := less_val (Lib.decDigits v) (Lib.decDigits u) 0 (by rw [Lib.decDigits_length, Lib.decDigits_length]; omega) (dec_all v) (dec_all u)
      rw [dec_val, dec_val] at hl
      rw [if_pos h2, toList_data, toList_data, text_data, text_data, hl, show decide ((u : Int) > (v : Int)) = decide (v < u) from decide_eq_decide.2 (by omega), beq_self_eq_true, if_pos rfl]
    · have g : u < v := by
        rcases Nat.lt_or_ge u v with h | h
        · exact h
        · have := m1 h
          omega
      rw [if_neg h2, decide_eq_false (show ¬ (u : Int) > (v : Int) by omega)]
      rfl
end Go.Proofs.YtbaegkghngbecaaDoor.Pure
