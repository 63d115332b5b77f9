/- Both Unpacks say the same of any bytes (Nxt). No condition. -/
import Derived.Test.YtdepkgikdmlgiaaFr5
import Derived.Test.YtdepkgikdmlgiaaUnp
namespace Go.Proofs.Ytdepkgikdmlgiaa.Pl
set_option linter.unusedVariables false
open Go Go.RowKit Go.Proofs.Ytdepkgikdmlgiaa.P Go.Proofs.Ytdepkgikdmlgiaa.Lim Go.Proofs.YtdepkgikdmlgiaaW.PrintWords
theorem unp_rng (s : ByteArray) : (unp s).2.2.2.2.2.2.2.2.2 = 0 → 0 ≤ (unp s).2.2.2.2.2.2.2.2.1 ∧ (unp s).2.2.2.2.2.2.2.2.1 ≤ (s.size : Int) := by
  unfold unp unpV badF
  split
  · intro h; exact absurd h (by decide)
  · split
    · intro h; exact absurd h (by decide)
    · split
      · split
        · split
          · intro h; exact absurd h (by decide)
          · intro _
            dsimp only
            omega
        · intro h; exact absurd h (by decide)
      · intro h; exact absurd h (by decide)
theorem nxt : Nxt := by
  intro bs hl
  have hs : (strOfNums bs).size ≤ 140737488351232 := by rw [nums_size]; omega
  refine ⟨(unp (strOfNums bs)).1, (unp (strOfNums bs)).2.1, (unp (strOfNums bs)).2.2.1, (unp (strOfNums bs)).2.2.2.1, (unp (strOfNums bs)).2.2.2.2.1, (unp (strOfNums bs)).2.2.2.2.2.1, (unp (strOfNums bs)).2.2.2.2.2.2.1, (unp (strOfNums bs)).2.2.2.2.2.2.2.1, (unp (strOfNums bs)).2.2.2.2.2.2.2.2.1, (unp (strOfNums bs)).2.2.2.2.2.2.2.2.2, (frame_Unpack.Llm (strOfNums bs)).rounds (funp_eq _ hs), (tallboyref29_Unpack.Llm (strOfNums bs)).rounds (runp_eq _ hs), fun h => ?_⟩
  have := unp_rng (strOfNums bs) h
  rwa [nums_size] at this
end Go.Proofs.Ytdepkgikdmlgiaa.Pl
