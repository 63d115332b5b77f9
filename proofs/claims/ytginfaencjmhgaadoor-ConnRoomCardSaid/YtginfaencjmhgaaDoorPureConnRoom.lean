/- ConnRoom, in plain Lean: the walk has shown that the law returns true. No condition. -/
import Derived.Test.YtginfaencjmhgaaDoorSayConnRoom
namespace Go.Proofs.YtginfaencjmhgaaDoor.Pure
open Go.Proofs.YtginfaencjmhgaaDoor.P
theorem ConnRoom : connRoom.Pure := by
  intro x0 x1 h0 h1
  rfl
end Go.Proofs.YtginfaencjmhgaaDoor.Pure
