/- ConnPieces, in plain Lean: the walk has shown that the law returns true. No condition. -/
import Derived.Test.YtginfaencjmhgaaDoorSayConnPieces
namespace Go.Proofs.YtginfaencjmhgaaDoor.Pure
open Go.Proofs.YtginfaencjmhgaaDoor.P
theorem ConnPieces : connPieces.Pure := by
  intro x0 x1 h0 h1
  rfl
end Go.Proofs.YtginfaencjmhgaaDoor.Pure
