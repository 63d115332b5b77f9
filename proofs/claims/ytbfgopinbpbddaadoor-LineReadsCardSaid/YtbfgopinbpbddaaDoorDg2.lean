/- Numbers in writing, with a sign: the program's Signed and the document's are the same plain function. Condition: texts of at most 1000000 bytes. -/
import Derived.Test.YtbfgopinbpbddaaDoorDig
namespace Go.Proofs.YtbfgopinbpbddaaDoor.Pl
set_option linter.unusedVariables false
open Go Go.RowKit Go.Proofs.YtbfgopinbpbddaaDoor.P Go.Proofs.YtbfgopinbpbddaaDoor.Lim Go.Proofs.YtbfgopinbpbddaaDoorW.PrintWords

theorem cut_eq (s : ByteArray) : strings_CutPrefix.f s (⟨#[45]⟩ : ByteArray) = some (if s.data.toList.head? = some 45 then (⟨s.data.toList.tail.toArray⟩, true) else (s, false)) := by
  unfold strings_CutPrefix.f Lib.trimPrefix Lib.hasPrefix
  refine congrArg some ?_
  show ((⟨(if ([45] : List UInt8).isPrefixOf s.data.toList = true then s.data.toList.drop ([45] : List UInt8).length else s.data.toList).toArray⟩ : ByteArray), ([45] : List UInt8).isPrefixOf s.data.toList) = _
  cases h : s.data.toList with
  | nil =>
    have e : s = ⟨#[]⟩ := ba_ext (by rw [h])
    subst e
    rfl
  | cons b r =>
    by_cases hb : b = 45
    · subst hb
      simp
    · have h1 : ([45] : List UInt8).isPrefixOf (b :: r) = false := by
        simp only [List.isPrefixOf, Bool.and_true]
        exact beq_eq_false_iff_ne.2 (fun g => hb g.symm)
      rw [h1, if_neg (by decide), if_neg (show ¬ (b :: r).head? = some 45 from fun g => hb (Option.some.inj g))]
      refine Prod.ext (ba_ext ?_) rfl
      rw [h]
theorem neg_eq (n : Int) (h0 : 0 ≤ n) (h1 : n ≤ 9223372036854775808) : wrap64 (IntKind.u64.wrap (-n)) = -n := by
  rw [IntKind.wrap_u64]
  unfold wrap64
  omega
theorem signed_eq (s : ByteArray) (hs : s.size ≤ 1000000) : digits_Signed.L s = some (sgnV s.data.toList) := by
  rw [digits_Signed.L_eq, cut_eq, Option.bind_some]
  unfold sgnV
  have hsz := size_eq s
  by_cases h : s.data.toList.head? = some 45
  · rw [if_pos h, if_pos h]
    have hp := parse_eq (⟨s.data.toList.tail.toArray⟩ : ByteArray) (by
      have e : (⟨s.data.toList.tail.toArray⟩ : ByteArray).size = s.data.toList.tail.length := List.size_toArray
      rw [e, List.length_tail]
      omega)
    have hr := prs_rng s.data.toList.tail
    rw [hp, Option.bind_some]
    show (if (prsV s.data.toList.tail).2 = 0 then _ else _) = _
    generalize hq : prsV s.data.toList.tail = q at hr ⊢
    by_cases he : q.2 = 0
    · rw [if_pos he, if_pos he, if_pos rfl, digits_Signed.j0L_eq]
      by_cases hg : q.1 ≤ 9223372036854775808
      · rw [if_neg (by omega), if_pos hg, if_pos rfl, neg_eq q.1 hr.1 hg]
      · rw [if_pos (by omega), if_neg hg]
    · rw [if_neg he, if_neg he]
  · rw [if_neg h, if_neg h]
    have hr := prs_rng s.data.toList
    rw [parse_eq s (by omega), Option.bind_some]
    show (if (prsV s.data.toList).2 = 0 then _ else _) = _
    generalize hq : prsV s.data.toList = q at hr ⊢
    by_cases he : q.2 = 0
    · rw [if_pos he, if_pos he, if_neg (show ¬ ((s, false) : ByteArray × Bool).2 = true from Bool.false_ne_true), digits_Signed.j0L_eq]
      by_cases hg : q.1 ≤ 9223372036854775807
      · rw [if_neg (by omega), if_pos hg, if_neg (show ¬ ((s, false) : ByteArray × Bool).2 = true from Bool.false_ne_true), w64 (by omega) hg]
      · rw [if_pos (by omega), if_neg hg]
    · rw [if_neg he, if_neg he]
theorem rj2_eq (n e : Int) (h0 : 0 ≤ n) (h1 : n ≤ 9223372036854775808) : tallboyref02_Signed.j2L n e = some (if e = 0 then (-n, 0) else (0, e)) := by
  rw [tallboyref02_Signed.j2L_eq]
  by_cases he : e = 0
  · rw [if_pos he, if_pos he]
    by_cases hn : n = 9223372036854775808
    · rw [if_pos hn, hn]
    · rw [if_neg hn, w64 (i := n) (by omega) (by omega), w64 (by omega) (by omega)]
  · rw [if_neg he, if_neg he]
theorem rsigned_eq (s : ByteArray) (hs : s.size ≤ 1000000) : tallboyref02_Signed.L s = some (sgnV s.data.toList) := by
  rw [tallboyref02_Signed.L_eq]
  have hsz := size_eq s
  unfold sgnV
  have P : s.data.toList.head? ≠ some 45 → tallboyref02_Signed.j0L s false = some (if (prsV s.data.toList).2 = 0 then (if (prsV s.data.toList).1 ≤ 9223372036854775807 then ((prsV s.data.toList).1, 0) else (0, 1)) else (0, (prsV s.data.toList).2)) := by
    intro _
    have hr := prs_rng s.data.toList
    rw [tallboyref02_Signed.j0L_eq, if_neg (by decide), rparse_eq s hs, Option.bind_some]
    show (if (prsV s.data.toList).2 = 0 then _ else _) = _
    generalize prsV s.data.toList = q at hr ⊢
    by_cases he : q.2 = 0
    · rw [if_pos he, if_pos he, tallboyref02_Signed.j3L_eq]
      by_cases hg : q.1 ≤ 9223372036854775807
      · rw [decide_eq_false (by omega), if_neg (by decide), tallboyref02_Signed.j4L_eq, if_pos he, if_pos hg, w64 (by omega) hg]
      · rw [decide_eq_true (by omega), if_pos rfl, tallboyref02_Signed.j4L_eq, if_neg (by decide), if_neg hg]
    · rw [if_neg he, if_neg he, tallboyref02_Signed.j3L_eq, if_neg (by decide), tallboyref02_Signed.j4L_eq, if_neg he]
  by_cases h0 : s.size = 0
  · have e : s.data.toList = [] := List.length_eq_zero_iff.1 (by omega)
    have hh : s.data.toList.head? ≠ some 45 := by rw [e]; simp
    rw [if_neg (by omega), P hh, if_neg hh]
  · have hl : 0 < s.data.toList.length := by omega
    have hb := bt_get s 0 hl
    have hh : s.data.toList.head? = some (s.data.toList[0]) := by
      rw [List.head?_eq_getElem?, List.getElem?_eq_getElem hl]
    rw [if_pos (by omega), if_pos (by omega), show bt s 0 = ((s.data.toList[0].toNat : Nat) : Int) from hb]
    by_cases h : s.data.toList[0] = 45
    · have hr := prs_rng s.data.toList.tail
      have he1 : (s.extract 1 s.size).data.toList = s.data.toList.tail := by
        rw [ByteArray.data_extract, Array.toList_extract, ← List.drop_one]
        exact List.take_of_length_le (by rw [List.length_drop]; omega)
      rw [if_pos (by rw [hh, h]), h, show ((((45 : UInt8).toNat : Nat) : Int) == 45) = true by decide, tallboyref02_Signed.j0L_eq, if_pos rfl, if_pos (by omega), rparse_eq (s.extract 1 s.size) (by rw [ByteArray.size_extract]; omega), Option.bind_some, he1]
      show (if (prsV s.data.toList.tail).2 = 0 then _ else _) = _
      generalize prsV s.data.toList.tail = q at hr ⊢
      by_cases he : q.2 = 0
      · rw [if_pos he, if_pos he, tallboyref02_Signed.j1L_eq]
        by_cases hg : q.1 ≤ 9223372036854775808
        · rw [decide_eq_false (by omega), if_neg (by decide), rj2_eq _ _ hr.1 hg, if_pos he, if_pos hg]
        · rw [decide_eq_true (by omega), if_pos rfl, tallboyref02_Signed.j2L_eq, if_neg (by decide), if_neg hg]
      · rw [if_neg he, if_neg he, tallboyref02_Signed.j1L_eq, if_neg (by decide), tallboyref02_Signed.j2L_eq, if_neg he]
    · have hne : s.data.toList.head? ≠ some 45 := fun g => h (Option.some.inj (hh.symm.trans g))
      have hb2 : ((((s.data.toList[0].toNat : Nat) : Int)) == 45) = false := by
        refine beq_eq_false_iff_ne.2 (fun g => h ?_)
        apply UInt8.toNat_inj.1
        show _ = 45
        omega
      rw [if_neg hne, hb2, P hne]
end Go.Proofs.YtbfgopinbpbddaaDoor.Pl
