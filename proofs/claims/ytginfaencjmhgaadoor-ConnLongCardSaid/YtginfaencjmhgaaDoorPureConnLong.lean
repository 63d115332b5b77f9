/- ConnLong, in plain Lean: the walk has shown that the law returns true where the fill is a byte. No condition. -/
import Derived.Test.YtginfaencjmhgaaDoorSayConnLong
import Derived.DataShut
namespace Go.Proofs.YtginfaencjmhgaaDoor.Pure
open Go Go.Proofs.YtginfaencjmhgaaDoor.P
theorem ConnLong : connLong.Pure := by
  intro x0 x1 x2 h0 h1 h2
  have q : 0 ≤ x1 ∧ x1 ≤ 255 := (Lit.wf_int_iff .u8 x1).1 h1
  exact if_pos ⟨q.1, by omega⟩
end Go.Proofs.YtginfaencjmhgaaDoor.Pure
