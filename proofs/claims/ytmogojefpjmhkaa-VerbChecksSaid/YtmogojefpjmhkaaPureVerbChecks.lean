/- What is wrong with any command and which stripes it is of: the program's answers are the document's, for every command. No condition. -/
import Derived.Test.YtmogojefpjmhkaaSayVerbChecks
import Derived.Test.YtmogojefpjmhkaaRChk
import Derived.Test.YtmogojefpjmhkaaLmVerbChecks
namespace Go.Proofs.Ytmogojefpjmhkaa.Pure
open Go Go.RowKit Go.Proofs.Ytmogojefpjmhkaa.P Go.Proofs.Ytmogojefpjmhkaa.Lim Go.Proofs.Ytmogojefpjmhkaa.Pl
theorem VerbChecks : verbChecks.Pure := by
  intro c hW
  obtain ⟨_, ⟨hb, hn, hx⟩, _, _, hv, _, _, _⟩ := hW
  refine (tallboylaw15_VerbChecks.Llm c.f0 c.f1 c.f2 c.f3 c.f4 c.f5 c.f6 c.f7).rounds ?_
  rw [tallboylaw15_VerbChecks.L_eq]
  have hn2 : c.f1.length ≤ 4611686018427387904 := by
    rw [verbChecks.bytesOf9] at hb
    omega
  obtain ⟨g, hg, hf⟩ := great_eq c.f0 c.f1 c.f2 c.f3 c.f4 c.f5 c.f6 c.f7 hn2 hx hv
  rw [hg, Option.bind_some]
  cases g with
  | true => rfl
  | false =>
    obtain ⟨h1, _, _⟩ := hf rfl
    have hx2 : ∀ x ∈ c.f1, x.size ≤ 4611686018427387904 := fun x hx' => Nat.le_trans (hx x hx') (by decide)
    rw [if_neg (by decide), own_eq _ _ _ _ _ _ _ _ h1]
    simp only [Option.bind_some]
    rw [check_eq, rcheck_eq _ _ _ _ _ _ _ _ hn2]
    simp only [Option.bind_some, if_true]
    rw [stripes_eq _ _ _ _ _ _ _ _ hx2, rstripes_eq _ _ _ _ _ _ _ _ hn2 hx2]
    simp only [Option.bind_some]
    rw [same_eq _ _ (Nat.le_trans (stripesV_len _ _) (by decide)), decide_eq_true rfl]
    rfl
end Go.Proofs.Ytmogojefpjmhkaa.Pure
