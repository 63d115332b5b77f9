/- The small checks that the laws on commands begin with come out true. No condition. -/
import Derived.Test.YtmogojefpjmhkaaRChk
import Derived.Test.YtmogojefpjmhkaaLmW
namespace Go.Proofs.Ytmogojefpjmhkaa.Pl
open Go Go.RowKit Go.Proofs.Ytmogojefpjmhkaa.P Go.Proofs.Ytmogojefpjmhkaa.Lim Go.Proofs.YtmogojefpjmhkaaW.PrintWords

theorem works_true : tallboylaw15_works.L = some true := by
  rw [tallboylaw15_works.L_eq]
  have c1 : chk 5 [] 0 0 ⟨#[]⟩ 0 0 false = 6 := by decide
  have c2 : chk 5 [⟨#[107]⟩] 0 5 ⟨#[118]⟩ 0 0 false = 0 := by decide
  have c3 : chk 1 [⟨#[107]⟩] 0 5 ⟨#[]⟩ 0 0 false = 6 := by decide
  have c4 : chk 0 [] 0 0 ⟨#[]⟩ 0 0 false = 70 := by decide
  have k1 : verb_Kind.f ⟨#[102, 108, 117, 115, 104, 95, 97, 108, 108]⟩ = some 15 := by
    unfold verb_Kind.f
    simp only [verb_Kind.v, toList_data]
    decide
  have s1 : stripesV 15 [] = [0, 1, 2, 3] := by decide
  have n1 : verb_Name.f 1 = some ⟨#[103, 101, 116]⟩ := rfl
  simp only [check_eq, c1, c2, c3, c4, k1, n1, Option.bind_some, if_true, toList_data]
  rw [stripes_eq 15 [] 0 0 ⟨#[]⟩ 0 0 false (fun x hx => by simp at hx), s1, Option.bind_some, same_eq _ _ (by decide)]
  rfl
end Go.Proofs.Ytmogojefpjmhkaa.Pl
