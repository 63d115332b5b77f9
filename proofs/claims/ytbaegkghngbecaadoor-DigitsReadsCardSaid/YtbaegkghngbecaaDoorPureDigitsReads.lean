/- DigitsReads, in plain Lean: the number of any text, or what is wrong with it, by the program and by the document. No condition. -/
import Derived.Test.YtbaegkghngbecaaDoorSayDigitsReads
import Derived.Test.YtbaegkghngbecaaDoorLmDigitsReads
import Derived.Test.YtbaegkghngbecaaDoorDg2
import Derived.DataShut
namespace Go.Proofs.YtbaegkghngbecaaDoor.Pure
open Go Go.RowKit Go.Proofs.YtbaegkghngbecaaDoor.P Go.Proofs.YtbaegkghngbecaaDoor.Lim Go.Proofs.YtbaegkghngbecaaDoor.Pl Go.Proofs.YtbaegkghngbecaaDoorW.PrintWords
theorem DigitsReads : digitsReads.Pure := by
  intro s hs
  refine (tallboylaw02_DigitsReads.Llm s).rounds ?_
  rw [tallboylaw02_DigitsReads.L_eq]
  by_cases h : (s.size : Int) > 10000
  · rw [if_pos h]
  · rw [if_neg h, parse_eq s (by omega), rparse_eq s (by omega), signed_eq s (by omega), rsigned_eq s (by omega)]
    simp only [Option.bind_some, if_true, beq_self_eq_true]
end Go.Proofs.YtbaegkghngbecaaDoor.Pure
