/- DigitsBack, in plain Lean: a number in writing is the same number again. No condition. -/
import Derived.Test.YtbaegkghngbecaaDoorSayDigitsBack
import Derived.Test.YtbaegkghngbecaaDoorLmDigitsBack
import Derived.Test.YtbaegkghngbecaaDoorDg3
import Derived.DataShut
namespace Go.Proofs.YtbaegkghngbecaaDoor.Pure
set_option linter.unusedVariables false
open Go Go.RowKit Go.Proofs.YtbaegkghngbecaaDoor.P Go.Proofs.YtbaegkghngbecaaDoor.Lim Go.Proofs.YtbaegkghngbecaaDoor.Pl Go.Proofs.YtbaegkghngbecaaDoorW.PrintWords
theorem worksDigitsBack : tallboylaw02_works.L = some true := works_ok (by decide +kernel)
theorem back_loop (s : ByteArray) (hs : s.size ≤ 10000) (n : Nat) (hn : n < 18446744073709551616) (ha : s.data.toList.all digits_Parse.dg = true) (d : Nat) : ∀ i, i + d + 1 = s.size → valL 0 (s.data.toList.drop i) = n → tallboylaw02_DigitsBack.l0L s (n : Int) (i : Int) = some true := by
  have hz := size_eq s
  have hall : ∀ i, (s.data.toList.drop i).all digits_Parse.dg = true := fun i => by
    rw [List.all_eq_true] at ha ⊢
    exact fun x hx => ha x (List.mem_of_mem_drop hx)
  have hex : ∀ i, (s.extract i s.size).data.toList = s.data.toList.drop i := fun i => by
    rw [ByteArray.data_extract, Array.toList_extract]
    exact List.take_of_length_le (by rw [List.length_drop]; omega)
  have hfin : ∀ i, Lib.decDigits n = s.data.toList.drop i → ((textV n).toList == (s.extract i s.size).toList) = true := fun i h => by
    rw [toList_data, toList_data, hex, text_data, h, beq_self_eq_true]
  induction d with
  | zero =>
    intro i hi hv
    have hl : i < s.data.toList.length := by omega
    rw [tallboylaw02_DigitsBack.l0L_eq, w64 (by omega) (by omega), if_neg (by omega), text_eq n hn, Option.bind_some, if_pos (by omega), if_pos (by omega), Int.toNat_natCast]
    refine congrArg some (hfin i ?_)
    have hh := hall i
    rw [drop_bytes s i hl, List.drop_eq_nil_of_le (by omega)] at hv hh ⊢
    rw [List.all_cons, Bool.and_eq_true] at hh
    rw [← hv]
    exact dec_one _ hh.1
  | succ d ih =>
    intro i hi hv
    have hl : i < s.data.toList.length := by omega
    rw [tallboylaw02_DigitsBack.l0L_eq, w64 (by omega) (by omega), if_pos (by omega), if_pos (by omega), if_pos (by omega), bt_get s i hl]
    have hh := hall i
    rw [drop_bytes s i hl, List.all_cons, Bool.and_eq_true] at hh
    by_cases h48 : s.data.toList[i].toNat = 48
    · rw [if_pos (by omega), w64 (by omega) (by omega), show ((i : Int) + 1) = ((i + 1 : Nat) : Int) by omega]
      refine ih (i + 1) (by omega) ?_
      rw [drop_bytes s i hl, val_cons, h48] at hv
      exact hv
    · rw [if_neg (by omega), text_eq n hn, Option.bind_some, if_pos (by omega), Int.toNat_natCast]
      refine congrArg some (hfin i ?_)
      rw [drop_bytes s i hl] at hv ⊢
      rw [← hv]
      exact dec_of _ _ hh.1 h48 hh.2
theorem DigitsBack : digitsBack.Pure := by
  intro a s hw hs
  have q : 0 ≤ a ∧ a ≤ 18446744073709551615 := (Lit.wf_int_iff .u64 a).1 hw
  refine (tallboylaw02_DigitsBack.Llm a s).rounds ?_
  obtain ⟨u, rfl⟩ := Int.eq_ofNat_of_zero_le q.1
  have hu : u < 18446744073709551616 := by omega
  obtain ⟨v, hv⟩ : ∃ v, v = wrap64 (u : Int) := ⟨_, rfl⟩
  have h0 : -9223372036854775808 ≤ v ∧ v ≤ 9223372036854775807 := by
    rw [hv]
    unfold wrap64
    omega
  rw [tallboylaw02_DigitsBack.L_eq, worksDigitsBack, Option.bind_some, if_pos rfl, ← hv]
  clear hv hw q
  by_cases hbig : (s.size : Int) > 10000
  · rw [if_pos hbig]
  · have hz := size_eq s
    have l20 := Lib.nDigits_le20 u hu
    have lit := Lib.itoa_length_le v h0.1 h0.2
    have hsz : (stextV v).size ≤ 1000 := by
      have e : (stextV v).size = (Lib.itoa v).length := List.size_toArray
      omega
    rw [if_neg hbig, text_eq u hu, Option.bind_some, parse_eq (textV u) (by rw [text_size]; omega), Option.bind_some, stext_eq v h0.1 h0.2, Option.bind_some, signed_eq (stextV v) (by omega), Option.bind_some, text_data, prs_dec u hu, sgn_dec v h0.1 h0.2, if_pos rfl, if_pos rfl, if_pos rfl, tallboylaw02_DigitsBack.j0L_eq, if_neg (show ¬ ((v, (0 : Int)).1 != v) = true by simp), parse_eq s (by omega), Option.bind_some]
    by_cases he : (prsV s.data.toList).2 = 0
    · obtain ⟨g1, g2, g3, g4, g5⟩ := prs_ok _ he
      rw [if_pos he, g5]
      have hpos : s.data.toList.length ≠ 0 := fun h => g2 (List.length_eq_zero_iff.1 h)
      exact back_loop s (by omega) _ (by omega) g1 (s.size - 1) 0 (by omega) (by rw [List.drop_zero])
    · rw [if_neg he, prs_err _ he]
      rfl
end Go.Proofs.YtbaegkghngbecaaDoor.Pure
