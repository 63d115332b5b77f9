/- DigitsTens, in plain Lean: a digit behind a number is ten times it and the digit. No condition. -/
import Derived.Test.YtbaegkghngbecaaDoorSayDigitsTens
import Derived.Test.YtbaegkghngbecaaDoorLmDigitsTens
import Derived.Test.YtbaegkghngbecaaDoorDg3
import Derived.DataShut
namespace Go.Proofs.YtbaegkghngbecaaDoor.Pure
set_option linter.unusedVariables false
open Go Go.RowKit Go.Proofs.YtbaegkghngbecaaDoor.P Go.Proofs.YtbaegkghngbecaaDoor.Lim Go.Proofs.YtbaegkghngbecaaDoor.Pl Go.Proofs.YtbaegkghngbecaaDoorW.PrintWords
theorem worksDigitsTens : tallboylaw02_works.L = some true := works_ok (by decide +kernel)
theorem DigitsTens : digitsTens.Pure := by
  intro a b ha hb
  have qa : 0 ≤ a ∧ a ≤ 18446744073709551615 := (Lit.wf_int_iff .u64 a).1 ha
  refine (tallboylaw02_DigitsTens.Llm a b).rounds ?_
  obtain ⟨u, rfl⟩ := Int.eq_ofNat_of_zero_le qa.1
  have hu : u < 18446744073709551616 := by omega
  obtain ⟨d, hd, hd10⟩ : ∃ d : Nat, wrap64 (Int.tmod (IntKind.u64.wrap b) 10) = (d : Int) ∧ d < 10 := by
    have h0 : 0 ≤ IntKind.u64.wrap b := by rw [IntKind.wrap_u64]; omega
    refine ⟨(IntKind.u64.wrap b % 10).toNat, ?_, by omega⟩
    rw [Int.tmod_eq_emod_of_nonneg h0, w64 (by omega) (by omega)]
    omega
  have e1 : (wrap64 (48 + (d : Int))) % 256 = ((48 + d : Nat) : Int) := by
    rw [w64 (by omega) (by omega)]
    omega
  have e2 : IntKind.u64.wrap (d : Int) = (d : Int) := by rw [IntKind.wrap_u64]; omega
  have e3 : (textV u ++ strOfNums [((48 + d : Nat) : Int)]).data.toList = Lib.decDigits u ++ [UInt8.ofNat (48 + d)] := by
    rw [ByteArray.data_append, Array.toList_append]
    rfl
  have e4 : (strOfNums [((48 + d : Nat) : Int)]).size = 1 := rfl
  have l20 := Lib.nDigits_le20 u hu
  have hall : (Lib.decDigits u ++ [UInt8.ofNat (48 + d)]).all digits_Parse.dg = true := by
    rw [List.all_append, dec_all, List.all_cons, dig_dg d hd10]
    rfl
  have hval : valL 0 (Lib.decDigits u ++ [UInt8.ofNat (48 + d)]) = u * 10 + d := by
    rw [val_append, dec_val, val_cons, val_nil, dig_u8 d hd10]
    omega
  have hlen : (Lib.decDigits u ++ [UInt8.ofNat (48 + d)]).length = Lib.nDigits u + 1 := by rw [List.length_append, Lib.decDigits_length]; rfl
  rw [tallboylaw02_DigitsTens.L_eq, worksDigitsTens, Option.bind_some, if_pos rfl, text_eq u hu, Option.bind_some, hd, e1, e2, Option.bind_some, if_pos (by rw [text_size, e4]; omega), parse_eq _ (by rw [ByteArray.size_append, text_size, e4]; omega), Option.bind_some, e3]
  clear hd e1
  by_cases hbig : (u : Int) > 1844674407370955160
  · rw [if_pos hbig]
    by_cases he : (prsV (Lib.decDigits u ++ [UInt8.ofNat (48 + d)])).2 = 0
    · obtain ⟨g1, g2, g3, g4, g5⟩ := prs_ok _ he
      rw [hval] at g4 g5
      have e5 : IntKind.u64.wrap (Int.tdiv ((u * 10 + d : Nat) : Int) 10) = (u : Int) := by
        rw [Int.tdiv_eq_ediv_of_nonneg (by omega), IntKind.wrap_u64]
        omega
      have e6 : Int.tmod ((u * 10 + d : Nat) : Int) 10 = (d : Int) := by
        rw [Int.tmod_eq_emod_of_nonneg (by omega)]
        omega
      rw [if_pos he, g5, e5, if_pos rfl, e6, beq_self_eq_true]
    · rw [if_neg he]
  · have n19 : Lib.nDigits u ≤ 19 := by
      have m := nd_mono 1844674407370955160 u 1844674407370955160 (Nat.le_refl _) (by omega)
      have e : Lib.nDigits 1844674407370955160 = 19 := Lib.nDigits_unique 18 _ (by decide) (by decide)
      omega
    have e7 : IntKind.u64.wrap ((IntKind.u64.wrap (10 * (u : Int))) + (d : Int)) = ((u * 10 + d : Nat) : Int) := by
      rw [IntKind.wrap_u64, IntKind.wrap_u64]
      omega
    rw [if_neg hbig, prs_dig _ hall (by simp) (by omega) (by rw [hval]; omega), if_pos rfl, hval, e7, beq_self_eq_true]
end Go.Proofs.YtbaegkghngbecaaDoor.Pure
