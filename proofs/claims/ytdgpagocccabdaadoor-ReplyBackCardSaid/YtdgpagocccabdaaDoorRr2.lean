/- A number in a reply, by the program and by the document: the same. Plain Lean; condition: texts of at most 1000000 bytes. -/
import Derived.Test.YtdgpagocccabdaaDoorRrd
import Derived.Test.YtdgpagocccabdaaDoorKey
namespace Go.Proofs.YtdgpagocccabdaaDoor.Pl
set_option linter.unusedVariables false
set_option linter.unusedSimpArgs false
open Go Go.RowKit Go.Proofs.YtdgpagocccabdaaDoor.P Go.Proofs.YtdgpagocccabdaaDoor.Lim Go.Proofs.YtdgpagocccabdaaDoorW.PrintWords
def numV (s : ByteArray) (m : Int) : Int × Bool := ((prsV s.data.toList).1, decide ((prsV s.data.toList).2 = 0) && (decide ((prsV s.data.toList).1 ≤ m) && ((textV (prsV s.data.toList).1.toNat).toList == s.toList)))
theorem number_eq (s : ByteArray) (m : Int) (hs : s.size ≤ 1000000) : reply_number.f s m = some (numV s m) := by
  have hr := prs_rng s.data.toList
  unfold reply_number.f numV
  rw [parse_eq s (by omega), Option.bind_some, text_at _ hr.1 hr.2, Option.bind_some]
  by_cases h : (prsV s.data.toList).2 = 0
  · rw [if_pos h, decide_eq_true h]
    by_cases hm : (prsV s.data.toList).1 ≤ m
    · rw [if_pos hm, decide_eq_true hm]
      rfl
    · rw [if_neg hm, decide_eq_false hm]
      rfl
  · rw [if_neg h, decide_eq_false h]
    rfl
theorem num_zero (m : Int) (h : 0 ≤ m) : numV ⟨#[48]⟩ m = (0, true) := by
  have e : prsV (⟨#[48]⟩ : ByteArray).data.toList = (0, 0) := by decide +kernel
  unfold numV
  rw [e]
  dsimp only
  rw [decide_eq_true h]
  decide +kernel
end Go.Proofs.YtdgpagocccabdaaDoor.Pl
