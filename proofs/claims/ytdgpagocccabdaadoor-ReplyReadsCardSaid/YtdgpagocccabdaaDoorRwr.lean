/- A result in bytes, by the program and by the document: the same bytes. Plain Lean; conditions: bounds that each theorem names. -/
import Derived.Test.YtdgpagocccabdaaDoorRdg
import Derived.Test.YtdgpagocccabdaaDoorLim
import Derived.Test.YtdgpagocccabdaaDoorLmD
import Derived.Test.YtdgpagocccabdaaDoorPx10
import Derived.Test.YtdgpagocccabdaaDoorPx0
import Derived.Test.YtdgpagocccabdaaDoorShort
import Derived.Test.YtdgpagocccabdaaDoorPx3
import Derived.Test.YtdgpagocccabdaaDoorPx9
namespace Go.Proofs.YtdgpagocccabdaaDoor.Pl
set_option linter.unusedVariables false
set_option linter.unusedSimpArgs false
open Go Go.RowKit Go.Proofs.YtdgpagocccabdaaDoor.P Go.Proofs.YtdgpagocccabdaaDoor.Lim Go.Proofs.YtdgpagocccabdaaDoorW.PrintWords
def shK (k : Int) : Bool := if k = 2 then true else k == 4
theorem shows_eq (k : Int) : verb_Shows.f k = some (shK k) := by
  unfold verb_Shows.f shK
  split <;> rfl
theorem rshows_eq (k : Int) : tallboyref15_Shows.f k = some (shK k) := by
  unfold tallboyref15_Shows.f shK
  split <;> rfl
def fin : ByteArray := ⟨#[69, 78, 68, 13, 10]⟩
theorem rtext_at (u : Int) (h0 : 0 ≤ u) (h1 : u < 18446744073709551616) : tallboyref02_Text.L u = some (textV u.toNat) := by
  have := rtext_eq u.toNat (by omega)
  rwa [Int.toNat_of_nonneg h0] at this
theorem text_at (u : Int) (h0 : 0 ≤ u) (h1 : u < 18446744073709551616) : digits_Text.f u = some (textV u.toNat) := by
  have := text_eq u.toNat (by omega)
  rwa [Int.toNat_of_nonneg h0] at this
theorem plain_at (k c : Int) (h : 2 ≤ c ∧ c ≤ 12 ∧ c ≠ 7) : tallboyref18_plain.f k c = some (rdOf ByteArray.empty (reply_lines.l k) c) ∧ 0 < (rdOf ByteArray.empty (reply_lines.l k) c).size ∧ (rdOf ByteArray.empty (reply_lines.l k) c).size ≤ 100 := by
  unfold reply_lines.l
  by_cases h12 : k = 12
  · subst h12
    rcases (show c = 2 ∨ c = 3 ∨ c = 4 ∨ c = 5 ∨ c = 6 ∨ c = 8 ∨ c = 9 ∨ c = 10 ∨ c = 11 ∨ c = 12 by omega) with rfl | rfl | rfl | rfl | rfl | rfl | rfl | rfl | rfl | rfl <;> exact ⟨rfl, by decide, by decide⟩
  · by_cases h13 : k = 13
    · subst h13
      rcases (show c = 2 ∨ c = 3 ∨ c = 4 ∨ c = 5 ∨ c = 6 ∨ c = 8 ∨ c = 9 ∨ c = 10 ∨ c = 11 ∨ c = 12 by omega) with rfl | rfl | rfl | rfl | rfl | rfl | rfl | rfl | rfl | rfl <;> exact ⟨rfl, by decide, by decide⟩
    · rw [if_neg (show ¬ (k = 12 ∨ k = 13) by omega)]
      unfold tallboyref18_plain.f
      rw [if_neg h12, if_neg h13]
      rcases (show c = 2 ∨ c = 3 ∨ c = 4 ∨ c = 5 ∨ c = 6 ∨ c = 8 ∨ c = 9 ∨ c = 10 ∨ c = 11 ∨ c = 12 by omega) with rfl | rfl | rfl | rfl | rfl | rfl | rfl | rfl | rfl | rfl <;> exact ⟨rfl, by decide, by decide⟩
end Go.Proofs.YtdgpagocccabdaaDoor.Pl
