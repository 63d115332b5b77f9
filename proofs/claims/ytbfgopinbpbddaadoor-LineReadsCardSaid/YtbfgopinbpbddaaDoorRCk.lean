/- The document's verb.Check and what else the laws on commands call: their values. Conditions: rows and texts shorter than 2^62. -/
import Derived.Test.YtbfgopinbpbddaaDoorChk
namespace Go.Proofs.YtbfgopinbpbddaaDoor.Pl
open Go Go.RowKit Go.Proofs.YtbfgopinbpbddaaDoor.P Go.Proofs.YtbfgopinbpbddaaDoor.Lim Go.Proofs.YtbfgopinbpbddaaDoorW.PrintWords

theorem rreads_d (k : Int) : tallboyref15_Reads.f k = some (decide (1 ≤ k ∧ k ≤ 4)) := by
  unfold tallboyref15_Reads.f
  by_cases h1 : k ≥ 1
  · rw [if_pos h1]
    congr 1
    exact decide_eq_decide.2 (by omega)
  · rw [if_neg h1, decide_eq_false (by omega)]
theorem rstores_eq (k : Int) : tallboyref15_Stores.f k = some (storesB k) := by
  unfold tallboyref15_Stores.f storesB
  by_cases h1 : k ≥ 5
  · rw [if_pos h1]
    congr 1
    exact decide_eq_decide.2 (by omega)
  · rw [if_neg h1, decide_eq_false (by omega)]
section
variable (k a0 : Int) (keys : List ByteArray) (fl ex : Int) (v : ByteArray) (cas del : Int) (q : Bool) (b : Bool)
end

end Go.Proofs.YtbfgopinbpbddaaDoor.Pl
