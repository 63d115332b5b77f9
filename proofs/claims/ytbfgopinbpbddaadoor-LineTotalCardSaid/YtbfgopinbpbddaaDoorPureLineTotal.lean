/- LineTotal, in plain Lean: each line comes to one of nine verdicts. No condition. -/
import Derived.Test.YtbfgopinbpbddaaDoorSayLineTotal
import Derived.Test.YtbfgopinbpbddaaDoorLmLineTotal
import Derived.Test.YtbfgopinbpbddaaDoorTot
import Derived.DataShut
namespace Go.Proofs.YtbfgopinbpbddaaDoor.Pure
open Go Go.RowKit Go.Proofs.YtbfgopinbpbddaaDoor.P Go.Proofs.YtbfgopinbpbddaaDoor.Lim Go.Proofs.YtbfgopinbpbddaaDoor.Pl Go.Proofs.YtbfgopinbpbddaaDoorW.PrintWords
set_option maxRecDepth 100000 in
theorem worksLineTotal : tallboylaw17_works.L = some true := tallboylaw17_works.Llm.2 200 true (by decide +kernel)
theorem zero_same : tallboyref17_SameCommands.L 0 [] 0 0 ⟨#[]⟩ 0 0 false 0 [] 0 0 ⟨#[]⟩ 0 0 false = some true := same_refl _ _ _ _ _ _ _ _ (by decide)
theorem LineTotal : lineTotal.Pure := by
  intro s hs
  refine (tallboylaw17_LineTotal.Llm s).rounds ?_
  rw [tallboylaw17_LineTotal.L_eq, worksLineTotal, Option.bind_some, if_pos rfl]
  by_cases hb : (s.size : Int) > 10000
  · rw [if_pos hb]
  rw [if_neg hb, parse_eqL s (by omega)]
  obtain ⟨r, hr, g⟩ := parse_good s
  rw [hr, Option.bind_some]
  cases g with
  | ready kd keys ex del q h1 h2 h3 =>
    dsimp only
    rw [rcheck_eq _ _ _ _ _ _ _ _ (by omega), h1, Option.bind_some, if_pos rfl, if_pos rfl, rstores_eq, h2, Option.bind_some, if_neg (by decide), if_pos rfl]
    rfl
  | wants kd a fl ex cas q n h1 h2 h3 h4 =>
    dsimp only
    rw [rcheck_eq _ _ _ _ _ _ _ _ (by simp), h1, Option.bind_some, if_neg (by decide), if_pos rfl, if_pos rfl, rstores_eq, h2, Option.bind_some, if_pos rfl, if_pos h3, if_pos h4]
    rfl
  | big kd a q sw h1 h2 h3 =>
    dsimp only
    rw [rcheck_eq _ _ _ _ _ _ _ _ (by simp), h1, Option.bind_some, if_neg (by decide), if_neg (by decide), if_pos rfl, if_pos rfl, rstores_eq, h2, Option.bind_some, if_pos rfl]
    by_cases h0 : sw = 0
    · rw [if_pos h0]
    · rw [if_neg h0, decide_eq_true (by omega)]
  | bad v sw hv h0 =>
    dsimp only
    rw [rcheck_eq _ _ _ _ _ _ _ _ (by simp), Option.bind_some, if_neg (by omega), if_neg (by omega), if_neg (by omega)]
    have e : ∀ z : Int, tallboylaw17_LineTotal.j0L z true v 0 [] 0 0 ⟨#[]⟩ 0 0 false 0 sw = some true := fun z => by
      rw [tallboylaw17_LineTotal.j0L_eq, if_pos rfl, zero_same, Option.bind_some, if_pos rfl, decide_eq_true h0]
    rcases hv with rfl | rfl
    · rw [if_pos rfl]
      exact e _
    · rw [if_neg (by decide)]
      exact e _
  | none_ v hv =>
    dsimp only
    rw [rcheck_eq _ _ _ _ _ _ _ _ (by simp), Option.bind_some, if_neg (by omega), if_neg (by omega), if_neg (by omega), if_neg (by omega)]
    have e : ∀ z : Int, tallboylaw17_LineTotal.j1L true z 0 [] 0 0 ⟨#[]⟩ 0 0 false 0 0 = some true := fun z => by
      rw [tallboylaw17_LineTotal.j1L_eq, if_pos rfl, zero_same, Option.bind_some, if_pos rfl]
      rfl
    rw [show (v == 7) = false from beq_eq_false_iff_ne.2 (by omega), tallboylaw17_LineTotal.j0L_eq, if_neg (by decide)]
    rcases hv with rfl | rfl | rfl | rfl
    · rw [if_pos rfl]; exact e _
    · rw [if_neg (by decide), if_pos rfl]; exact e _
    · rw [if_neg (by decide), if_neg (by decide), if_pos rfl]; exact e _
    · rw [if_neg (by decide), if_neg (by decide), if_neg (by decide)]; exact e _
end Go.Proofs.YtbfgopinbpbddaaDoor.Pure
