/- DigitsSigns, in plain Lean: a number below nought is - and what it is less than nought by. No condition. -/
import Derived.Test.YtbaegkghngbecaaDoorSayDigitsSigns
import Derived.Test.YtbaegkghngbecaaDoorLmDigitsSigns
import Derived.Test.YtbaegkghngbecaaDoorDg3
import Derived.DataShut
namespace Go.Proofs.YtbaegkghngbecaaDoor.Pure
set_option linter.unusedVariables false
open Go Go.RowKit Go.Proofs.YtbaegkghngbecaaDoor.P Go.Proofs.YtbaegkghngbecaaDoor.Lim Go.Proofs.YtbaegkghngbecaaDoor.Pl Go.Proofs.YtbaegkghngbecaaDoorW.PrintWords
theorem worksDigitsSigns : tallboylaw02_works.L = some true := works_ok (by decide +kernel)
theorem DigitsSigns : digitsSigns.Pure := by
  intro v hw
  have h0 : -9223372036854775808 ≤ v ∧ v ≤ 9223372036854775807 := (Lit.wf_int_iff .i64 v).1 hw
  refine (tallboylaw02_DigitsSigns.Llm v).rounds ?_
  rw [tallboylaw02_DigitsSigns.L_eq, worksDigitsSigns, Option.bind_some, if_pos rfl, stext_eq v h0.1 h0.2, Option.bind_some]
  by_cases h : v ≥ 0
  · obtain ⟨u, rfl⟩ := Int.eq_ofNat_of_zero_le h
    have e : IntKind.u64.wrap (u : Int) = (u : Int) := by rw [IntKind.wrap_u64]; omega
    rw [if_pos h, e, text_eq u (by omega), Option.bind_some, stext_pos _ h, Int.toNat_natCast, beq_self_eq_true]
  · obtain ⟨u, hu⟩ : ∃ u : Nat, v = -(u : Int) := ⟨(-v).toNat, by omega⟩
    have hul : u < 18446744073709551616 := by omega
    have l20 := Lib.nDigits_le20 u hul
    have e0 : stextV v = (⟨#[45]⟩ : ByteArray) ++ textV u := by
      rw [stext_neg v (by omega), show (-v).toNat = u by omega]
    have e1 : IntKind.u64.wrap (-(IntKind.u64.wrap v)) = (u : Int) := by
      rw [IntKind.wrap_u64, IntKind.wrap_u64]
      omega
    have hs : (stextV v).size = 1 + Lib.nDigits u := by
      rw [e0, ByteArray.size_append, text_size]
      rfl
    have e2 : (stextV v).data.toList = 45 :: Lib.decDigits u := by
      rw [e0]
      simp [textV]
    have e3 : ((stextV v).extract 1 (stextV v).size).data.toList = Lib.decDigits u := by
      rw [ByteArray.data_extract, Array.toList_extract, e2]
      exact List.take_of_length_le (by rw [List.drop_one, List.tail_cons, Lib.decDigits_length, hs]; omega)
    have e4 : bt (stextV v) 0 = 45 := by
      have hl : 0 < (stextV v).data.toList.length := by rw [e2]; simp
      refine (bt_get (stextV v) 0 hl).trans ?_
      simp only [e2]
      rfl
    rw [if_neg h, signed_eq (stextV v) (by omega), Option.bind_some, if_pos (by omega), parse_eq _ (by rw [ByteArray.size_extract]; omega), Option.bind_some, if_pos (by omega), if_pos e4, e1, text_eq u hul, Option.bind_some, toList_data, toList_data, e3, text_data, if_pos rfl, sgn_dec v h0.1 h0.2, if_pos rfl, if_pos rfl, prs_dec u hul, if_pos rfl, beq_self_eq_true]
end Go.Proofs.YtbaegkghngbecaaDoor.Pure
