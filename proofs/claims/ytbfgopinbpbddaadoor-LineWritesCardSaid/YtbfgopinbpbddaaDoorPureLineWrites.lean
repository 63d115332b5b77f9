/- LineWrites, in plain Lean: the line of any command, by the program and by the document. No condition. -/
import Derived.Test.YtbfgopinbpbddaaDoorSayLineWrites
import Derived.Test.YtbfgopinbpbddaaDoorLmLineWrites
import Derived.Test.YtbfgopinbpbddaaDoorLwr
import Derived.DataShut
namespace Go.Proofs.YtbfgopinbpbddaaDoor.Pure
open Go Go.RowKit Go.Proofs.YtbfgopinbpbddaaDoor.P Go.Proofs.YtbfgopinbpbddaaDoor.Lim Go.Proofs.YtbfgopinbpbddaaDoor.Pl Go.Proofs.YtbfgopinbpbddaaDoorW.PrintWords
theorem own_eq (k : Int) (keys : List ByteArray) (fl ex : Int) (v : ByteArray) (cas del : Int) (q : Bool) (h : keys.length ≤ 100) : tallboylaw15_Own.f k keys fl ex v cas del q = some (k, keys, fl, ex, v, cas, del, q) := by
  unfold tallboylaw15_Own.f
  rw [Option.bind_some, if_pos (by rw [List.length_nil]; omega), List.nil_append]
theorem LineWrites : lineWrites.Pure := by
  intro c hW
  obtain ⟨_, ⟨hb, hn, hx⟩, hfl, hex, hv, hcas, hdel, _⟩ := hW
  have hfl := (Lit.wf_int_iff .u32 _).1 hfl
  have hex := (Lit.wf_int_iff .i64 _).1 hex
  have hcas := (Lit.wf_int_iff .u64 _).1 hcas
  have hdel := (Lit.wf_int_iff .u64 _).1 hdel
  refine (tallboylaw17_LineWrites.Llm c.f0 c.f1 c.f2 c.f3 c.f4 c.f5 c.f6 c.f7).rounds ?_
  rw [tallboylaw17_LineWrites.L_eq]
  have hn2 : c.f1.length ≤ 4611686018427387904 := by
    rw [lineWrites.bytesOf9] at hb
    omega
  obtain ⟨g, hg, hf⟩ := great_eq c.f0 c.f1 c.f2 c.f3 c.f4 c.f5 c.f6 c.f7 hn2 hx hv
  rw [hg, Option.bind_some]
  cases g with
  | true => rfl
  | false =>
    obtain ⟨h1, _, _⟩ := hf rfl
    rw [if_neg (by decide), own_eq _ _ _ _ _ _ _ _ h1]
    simp only [Option.bind_some]
    rw [write_eq hfl hex hcas hdel, rwrite_eq hn2 hfl hex hcas hdel]
    simp only [Option.bind_some, if_true, beq_self_eq_true]
end Go.Proofs.YtbfgopinbpbddaaDoor.Pure
