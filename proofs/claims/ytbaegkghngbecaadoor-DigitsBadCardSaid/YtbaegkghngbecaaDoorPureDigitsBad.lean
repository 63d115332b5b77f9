/- DigitsBad, in plain Lean: a text with a byte that is no digit is no number. No condition. -/
import Derived.Test.YtbaegkghngbecaaDoorSayDigitsBad
import Derived.Test.YtbaegkghngbecaaDoorLmDigitsBad
import Derived.Test.YtbaegkghngbecaaDoorDg3
import Derived.DataShut
namespace Go.Proofs.YtbaegkghngbecaaDoor.Pure
set_option linter.unusedVariables false
open Go Go.RowKit Go.Proofs.YtbaegkghngbecaaDoor.P Go.Proofs.YtbaegkghngbecaaDoor.Lim Go.Proofs.YtbaegkghngbecaaDoor.Pl Go.Proofs.YtbaegkghngbecaaDoorW.PrintWords
theorem worksDigitsBad : tallboylaw02_works.L = some true := works_ok (by decide +kernel)
theorem bad_all (l m : List UInt8) (b : UInt8) (h : digits_Parse.dg b = false) : (l ++ [b] ++ m).all digits_Parse.dg = false := by
  rw [List.all_append, List.all_append, List.all_cons, h]
  simp
theorem bad_sgn (l m : List UInt8) (b : UInt8) (h : digits_Parse.dg b = false) (hb : l = [] → b ≠ 45) : sgnV (l ++ [b] ++ m) = (0, 6) := by
  unfold sgnV
  cases l with
  | nil =>
    have hne : ([] ++ [b] ++ m : List UInt8).head? ≠ some 45 := fun g => hb rfl (Option.some.inj g)
    rw [if_neg hne, prs_bad _ (bad_all [] m b h), if_neg (by decide)]
  | cons c r =>
    by_cases hc : (c :: r ++ [b] ++ m).head? = some 45
    · rw [if_pos hc]
      have e : (c :: r ++ [b] ++ m).tail = r ++ [b] ++ m := rfl
      rw [e, prs_bad _ (bad_all r m b h), if_neg (by decide)]
    · rw [if_neg hc, prs_bad _ (bad_all (c :: r) m b h), if_neg (by decide)]
theorem DigitsBad : digitsBad.Pure := by
  intro s x b hs hx hb
  have qb : 0 ≤ b ∧ b ≤ 255 := (Lit.wf_int_iff .u8 b).1 hb
  refine (tallboylaw02_DigitsBad.Llm s x b).rounds ?_
  have key : ∀ c : Bool, (c = false → s.size ≤ 1000 ∧ ¬ (48 ≤ b ∧ b ≤ 57)) → tallboylaw02_DigitsBad.j0L s x b c = some true := by
    intro c hc
    rw [tallboylaw02_DigitsBad.j0L_eq]
    cases c with
    | true => rfl
    | false =>
      obtain ⟨hz, hnd⟩ := hc rfl
      have e1 : IntKind.u64.wrap (wrap64 ((s.size : Int) + 1)) = ((s.size + 1 : Nat) : Int) := by
        rw [w64 (by omega) (by omega), IntKind.wrap_u64]
        omega
      obtain ⟨k, hk, hkl⟩ : ∃ k : Nat, wrap64 (Int.tmod (IntKind.u64.wrap x) ((s.size + 1 : Nat) : Int)) = (k : Int) ∧ k ≤ s.size := by
        have h0 : 0 ≤ IntKind.u64.wrap x := by rw [IntKind.wrap_u64]; omega
        have t0 := Int.tmod_nonneg ((s.size + 1 : Nat) : Int) h0
        have t1 := Int.tmod_lt_of_pos (IntKind.u64.wrap x) (show (0 : Int) < ((s.size + 1 : Nat) : Int) by omega)
        obtain ⟨k, hk⟩ := Int.eq_ofNat_of_zero_le t0
        rw [hk] at t1 ⊢
        exact ⟨k, w64 (by omega) (by omega), by omega⟩
      obtain ⟨n, rfl⟩ := Int.eq_ofNat_of_zero_le qb.1
      have hn : n < 256 := by omega
      have eb : (UInt8.ofNat n).toNat = n := by
        rw [UInt8.toNat_ofNat']
        omega
      have hdg : digits_Parse.dg (UInt8.ofNat n) = false := by
        rw [dg_iff, eb]
        by_cases h1 : 48 ≤ n
        · rw [decide_eq_false (show ¬ n ≤ 57 by omega), Bool.and_false]
        · rw [decide_eq_false h1, Bool.false_and]
      have hz' := size_eq s
      have es : (strOfNums [((n : Nat) : Int)]).size = 1 := rfl
      have el : (s.extract 0 k ++ strOfNums [((n : Nat) : Int)] ++ s.extract k s.size).data.toList = s.data.toList.take k ++ [UInt8.ofNat n] ++ s.data.toList.drop k := by
        have d1 : (s.extract 0 k).data.toList = s.data.toList.take k := by
          rw [ByteArray.data_extract, Array.toList_extract]
          rfl
        have d2 : (s.extract k s.size).data.toList = s.data.toList.drop k := by
          rw [ByteArray.data_extract, Array.toList_extract]
          exact List.take_of_length_le (by rw [List.length_drop]; omega)
        rw [ByteArray.data_append, ByteArray.data_append, Array.toList_append, Array.toList_append, d1, d2]
        rfl
      have et : (s.extract 0 k ++ strOfNums [((n : Nat) : Int)] ++ s.extract k s.size).size = s.size + 1 := by
        rw [ByteArray.size_append, ByteArray.size_append, es, ByteArray.size_extract, ByteArray.size_extract]
        omega
      rw [if_neg (by decide), e1, hk, if_neg (show ¬ ((s.size + 1 : Nat) : Int) = 0 by omega), if_pos (show (0 : Int) ≤ (k : Int) by omega), if_pos (show (k : Int) ≤ (s.size : Int) by omega), Option.bind_some, Int.toNat_natCast, if_pos (by rw [es, ByteArray.size_extract]; omega), if_pos (by rw [ByteArray.size_append, es, ByteArray.size_extract, ByteArray.size_extract]; omega), parse_eq _ (by rw [et]; omega), Option.bind_some, signed_eq _ (by rw [et]; omega), Option.bind_some, el, prs_bad _ (bad_all _ _ _ hdg), if_pos rfl, if_pos rfl]
      have fin : (s.data.toList.take k = [] → UInt8.ofNat n ≠ 45) → sgnV (s.data.toList.take k ++ [UInt8.ofNat n] ++ s.data.toList.drop k) = (0, 6) := bad_sgn _ _ _ hdg
      by_cases h0 : (k : Int) = 0
      · rw [if_pos h0]
        by_cases h45 : (n : Int) = 45
        · rw [if_pos h45]
        · rw [if_neg h45, fin (fun _ g => h45 (by rw [← eb, g]; rfl))]
          rfl
      · rw [if_neg h0, fin (fun g => absurd (congrArg List.length g) (by rw [List.length_take, List.length_nil]; omega))]
        rfl
  rw [tallboylaw02_DigitsBad.L_eq, worksDigitsBad, Option.bind_some, if_pos rfl]
  by_cases h1 : (s.size : Int) > 1000
  · rw [if_pos h1]
    exact key true (fun h => by cases h)
  · rw [if_neg h1]
    by_cases h2 : b ≥ 48
    · rw [if_pos h2]
      exact key _ (fun h => ⟨by omega, fun g => of_decide_eq_false h g.2⟩)
    · rw [if_neg h2]
      exact key false (fun _ => ⟨by omega, fun g => h2 g.1⟩)
end Go.Proofs.YtbaegkghngbecaaDoor.Pure
