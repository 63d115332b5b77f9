/- FrameReads, in plain Lean: the walk has shown that the law returns true. No condition. -/
import Derived.Test.YtdepkgikdmlgiaaSayFrameReads
namespace Go.Proofs.Ytdepkgikdmlgiaa.Pure
open Go.Proofs.Ytdepkgikdmlgiaa.P
theorem FrameReads : frameReads.Pure := by
  intro x0 h
  rfl
end Go.Proofs.Ytdepkgikdmlgiaa.Pure
