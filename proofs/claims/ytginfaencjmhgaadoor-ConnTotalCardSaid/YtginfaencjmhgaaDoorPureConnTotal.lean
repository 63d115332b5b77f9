/- ConnTotal, in plain Lean: the walk has shown that the law returns true. No condition. -/
import Derived.Test.YtginfaencjmhgaaDoorSayConnTotal
namespace Go.Proofs.YtginfaencjmhgaaDoor.Pure
open Go.Proofs.YtginfaencjmhgaaDoor.P
theorem ConnTotal : connTotal.Pure := by
  intro x0 h
  rfl
end Go.Proofs.YtginfaencjmhgaaDoor.Pure
