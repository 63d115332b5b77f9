/- LineReads, in plain Lean: what the program says of any line, and its words, are what the document says. No condition. -/
import Derived.Test.YtbfgopinbpbddaaDoorSayLineReads
import Derived.Test.YtbfgopinbpbddaaDoorRpq
import Derived.DataShut
namespace Go.Proofs.YtbfgopinbpbddaaDoor.Pure
open Go Go.RowKit Go.Proofs.YtbfgopinbpbddaaDoor.P Go.Proofs.YtbfgopinbpbddaaDoor.Lim Go.Proofs.YtbfgopinbpbddaaDoor.Pl Go.Proofs.YtbfgopinbpbddaaDoorW.PrintWords
theorem same11 (a : Int) (b : Int) (keys : List ByteArray) (fl ex : Int) (v : ByteArray) (cas del : Int) (q : Bool) (n m : Int) (hn : keys.length ≤ 1000000) :
    tallboylaw17_Same.L a b keys fl ex v cas del q n m a b keys fl ex v cas del q n m = some true := by
  rw [tallboylaw17_Same.L_eq, if_pos rfl, same_refl _ _ _ _ _ _ _ _ (by omega), Option.bind_some, if_pos rfl, if_pos rfl]
  simp
theorem LineReads : lineReads.Pure := by
  intro s hs
  refine (tallboylaw17_LineReads.Llm s).rounds ?_
  rw [tallboylaw17_LineReads.L_eq]
  by_cases hb : (s.size : Int) > 10000
  · rw [if_pos hb]
  rw [if_neg hb, parse_eqL s (by omega), rparse_line s (by omega)]
  obtain ⟨r, hr, g⟩ := parse_good s
  have hk : r.2.2.1.length ≤ 1000000 := by
    cases g <;> first | omega | (simp; done) | (simp; omega) | assumption
  rw [hr, Option.bind_some]
  obtain ⟨a, b, keys, fl, ex, v, cas, del, q, n, m⟩ := r
  dsimp only at hk ⊢
  unfold tallboylaw17_From.f
  rw [Option.bind_some, Option.bind_some]
  dsimp only
  rw [same11 _ _ _ _ _ _ _ _ _ _ _ hk, Option.bind_some, if_pos rfl]
  unfold line_Words.f
  rw [if_pos (by omega), Option.bind_some, rwords_eq s (by omega), Option.bind_some, texts_refl _ (Nat.le_trans (words_len s) (by omega)), Option.bind_some]
end Go.Proofs.YtbfgopinbpbddaaDoor.Pure
