/- DigitsWrites, in plain Lean: any number in writing, by the program and by the document. No condition. -/
import Derived.Test.YtbaegkghngbecaaDoorSayDigitsWrites
import Derived.Test.YtbaegkghngbecaaDoorLmDigitsWrites
import Derived.Test.YtbaegkghngbecaaDoorDig
import Derived.DataShut
namespace Go.Proofs.YtbaegkghngbecaaDoor.Pure
open Go Go.RowKit Go.Proofs.YtbaegkghngbecaaDoor.P Go.Proofs.YtbaegkghngbecaaDoor.Lim Go.Proofs.YtbaegkghngbecaaDoor.Pl Go.Proofs.YtbaegkghngbecaaDoorW.PrintWords
theorem DigitsWrites : digitsWrites.Pure := by
  intro a hw
  have q : 0 ≤ a ∧ a ≤ 18446744073709551615 := (Lit.wf_int_iff .u64 a).1 hw
  refine (tallboylaw02_DigitsWrites.Llm a).rounds ?_
  obtain ⟨u, rfl⟩ := Int.eq_ofNat_of_zero_le q.1
  have hu : u < 18446744073709551616 := by omega
  obtain ⟨v, hv⟩ : ∃ v, v = wrap64 (u : Int) := ⟨_, rfl⟩
  have h0 : -9223372036854775808 ≤ v ∧ v ≤ 9223372036854775807 := by
    rw [hv]
    unfold wrap64
    omega
  rw [tallboylaw02_DigitsWrites.L_eq, text_eq u hu, rtext_eq u hu, Option.bind_some, Option.bind_some, if_pos rfl, ← hv, stext_eq v h0.1 h0.2, rstext_eq v h0.1 h0.2, Option.bind_some, Option.bind_some, beq_self_eq_true]
end Go.Proofs.YtbaegkghngbecaaDoor.Pure
