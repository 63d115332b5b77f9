/- Numbers in writing, with a sign: the program's Signed and the document's are the same plain function. Condition: texts of at most 1000000 bytes. -/
import Derived.Test.YtginfaencjmhgaaDoorDig
namespace Go.Proofs.YtginfaencjmhgaaDoor.Pl
set_option linter.unusedVariables false
open Go Go.RowKit Go.Proofs.YtginfaencjmhgaaDoor.P Go.Proofs.YtginfaencjmhgaaDoor.Lim Go.Proofs.YtginfaencjmhgaaDoorW.PrintWords

theorem cut_eq (s : ByteArray) : strings_CutPrefix.f s (⟨#[45]⟩ : ByteArray) = some (if s.data.toList.head? = some 45 then (⟨s.data.toList.tail.toArray⟩, true) else (s, false)) := by
  unfold strings_CutPrefix.f Lib.trimPrefix Lib.hasPrefix
  refine congrArg some ?_
  show ((⟨(if ([45] : List UInt8).isPrefixOf s.data.toList = true then s.data.toList.drop ([45] : List UInt8).length else s.data.toList).toArray⟩ : ByteArray), ([45] : List UInt8).isPrefixOf s.data.toList) = _
  cases h : s.data.toList with
  | nil =>
    have e : s = ⟨#[]⟩ := ba_ext (by rw [h])
    subst e
    rfl
  | cons b r =>
    by_cases hb : b = 45
    · subst hb
      simp
    · have h1 : ([45] : List UInt8).isPrefixOf (b :: r) = false := by
        simp only [List.isPrefixOf, Bool.and_true]
        exact beq_eq_false_iff_ne.2 (fun g => hb g.symm)
      rw [h1, if_neg (by decide), if_neg (show ¬ (b :: r).head? = some 45 from fun g => hb (Option.some.inj g))]
      refine Prod.ext (ba_ext ?_) rfl
      rw [h]
theorem neg_eq (n : Int) (h0 : 0 ≤ n) (h1 : n ≤ 9223372036854775808) : wrap64 (IntKind.u64.wrap (-n)) = -n := by
  rw [IntKind.wrap_u64]
  unfold wrap64
  omega
theorem signed_eq (s : ByteArray) (hs : s.size ≤ 1000000) : digits_Signed.L s = some (sgnV s.data.toList) := by
  rw [digits_Signed.L_eq, cut_eq, Option.bind_some]
  unfold sgnV
  have hsz := size_eq s
  by_cases h : s.data.toList.head? = some 45
  · rw [if_pos h, if_pos h]
    have hp := parse_eq (⟨s.data.toList.tail.toArray⟩ : ByteArray) (by
      have e : (⟨s.data.toList.tail.toArray⟩ : ByteArray).size = s.data.toList.tail.length := List.size_toArray
      rw [e, List.length_tail]
      omega)
    have hr := prs_rng s.data.toList.tail
    rw [hp, Option.bind_some]
    show (if (prsV s.data.toList.tail).2 = 0 then _ else _) = _
    generalize hq : prsV s.data.toList.tail = q at hr ⊢
    by_cases he : q.2 = 0
    · rw [if_pos he, if_pos he, if_pos rfl, digits_Signed.j0L_eq]
      by_cases hg : q.1 ≤ 9223372036854775808
      · rw [if_neg (by omega), if_pos hg, if_pos rfl, neg_eq q.1 hr.1 hg]
      · rw [if_pos (by omega), if_neg hg]
    · rw [if_neg he, if_neg he]
  · rw [if_neg h, if_neg h]
    have hr := prs_rng s.data.toList
    rw [parse_eq s (by omega), Option.bind_some]
    show (if (prsV s.data.toList).2 = 0 then _ else _) = _
    generalize hq : prsV s.data.toList = q at hr ⊢
    by_cases he : q.2 = 0
    · rw [if_pos he, if_pos he, if_neg (show ¬ ((s, false) : ByteArray × Bool).2 = true from Bool.false_ne_true), digits_Signed.j0L_eq]
      by_cases hg : q.1 ≤ 9223372036854775807
      · rw [if_neg (by omega), if_pos hg, if_neg (show ¬ ((s, false) : ByteArray × Bool).2 = true from Bool.false_ne_true), w64 (by omega) hg]
      · rw [if_pos (by omega), if_neg hg]
    · rw [if_neg he, if_neg he]
end Go.Proofs.YtginfaencjmhgaaDoor.Pl
