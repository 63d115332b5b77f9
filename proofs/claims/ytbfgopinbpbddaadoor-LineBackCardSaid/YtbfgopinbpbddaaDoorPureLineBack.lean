/- LineBack, in plain Lean: the line of a right command says that command. No condition. -/
import Derived.Test.YtbfgopinbpbddaaDoorLim
import Derived.Test.YtbfgopinbpbddaaDoorLmLineBack
import Derived.Test.YtbfgopinbpbddaaDoorRtp
import Derived.DataShut
namespace Go.Proofs.YtbfgopinbpbddaaDoor.Pure
open Go Go.RowKit Go.Proofs.YtbfgopinbpbddaaDoor.P Go.Proofs.YtbfgopinbpbddaaDoor.Lim Go.Proofs.YtbfgopinbpbddaaDoor.Pl Go.Proofs.YtbfgopinbpbddaaDoorW.PrintWords
set_option maxRecDepth 100000 in
theorem worksLineBack : tallboylaw17_works.L = some true := tallboylaw17_works.Llm.2 200 true (by decide +kernel)
theorem own_eqB (k : Int) (keys : List ByteArray) (fl ex : Int) (v : ByteArray) (cas del : Int) (q : Bool) (h : keys.length ≤ 100) : tallboylaw15_Own.f k keys fl ex v cas del q = some (k, keys, fl, ex, v, cas, del, q) := by
  unfold tallboylaw15_Own.f
  rw [Option.bind_some, if_pos (by rw [List.length_nil]; omega), List.nil_append]
theorem nil_list : (⟨#[]⟩ : ByteArray).toList = [] := by rw [ByteArray.toList_eq]
theorem LineBack : lineBack.Pure := by
  intro c hW
  obtain ⟨_, ⟨hb, hn, hx⟩, hfl, hex, hv, hcas, hdel, _⟩ := hW
  have hfl := (Lit.wf_int_iff .u32 _).1 hfl
  have hex := (Lit.wf_int_iff .i64 _).1 hex
  have hcas := (Lit.wf_int_iff .u64 _).1 hcas
  have hdel := (Lit.wf_int_iff .u64 _).1 hdel
  refine (tallboylaw17_LineBack.Llm c.f0 c.f1 c.f2 c.f3 c.f4 c.f5 c.f6 c.f7).rounds ?_
  rw [tallboylaw17_LineBack.L_eq, worksLineBack, Option.bind_some, if_pos rfl]
  have hn2 : c.f1.length ≤ 4611686018427387904 := by
    rw [lineBack.bytesOf9] at hb
    omega
  obtain ⟨g, hg, hf⟩ := great_eq c.f0 c.f1 c.f2 c.f3 c.f4 c.f5 c.f6 c.f7 hn2 hx hv
  rw [hg, Option.bind_some]
  cases g with
  | true => rfl
  | false =>
    obtain ⟨h1, _, _⟩ := hf rfl
    rw [if_neg (by decide), own_eqB _ _ _ _ _ _ _ _ h1]
    simp only [Option.bind_some]
    rw [write_eq hfl hex hcas hdel, Option.bind_some]
    unfold writeV
    by_cases hk : chk c.f0 c.f1 c.f2 c.f3 c.f4 c.f5 c.f6 c.f7 = 0
    · rw [if_pos hk]
      unfold endW
      by_cases hz : (tl (nameV c.f0) (wAll c.f0 c.f1 c.f2 c.f3 c.f4 c.f5 c.f6 c.f7)).size > 160
      · rw [if_pos hz, if_neg (show ¬ (((⟨#[]⟩ : ByteArray), (7 : Int)) : ByteArray × Int).2 = 0 by decide)]
        show some ((⟨#[]⟩ : ByteArray).toList == ([] : List UInt8)) = some true
        rw [nil_list]
        rfl
      · rw [if_neg hz, if_pos rfl]
        dsimp only
        have hz2 : (tl (nameV c.f0) (wAll c.f0 c.f1 c.f2 c.f3 c.f4 c.f5 c.f6 c.f7)).size ≤ 160 := by omega
        rw [parse_eqL (tl (nameV c.f0) (wAll c.f0 c.f1 c.f2 c.f3 c.f4 c.f5 c.f6 c.f7)) (Nat.le_trans hz2 (by decide)), trip hfl hex hcas hdel hk hz2, Option.bind_some, rstores_eq, Option.bind_some]
        have hr := same_refl c.f0 c.f1 c.f2 c.f3 ⟨#[]⟩ c.f5 c.f6 c.f7 hn2
        cases hs : storesB c.f0 with
        | true =>
          have hw : wantV c.f0 c.f1 c.f2 c.f3 c.f4 c.f5 c.f6 c.f7 = (2, c.f0, c.f1, c.f2, c.f3, ⟨#[]⟩, c.f5, c.f6, c.f7, (c.f4.size : Int), 0) := by unfold wantV; rw [if_pos hs]
          rw [hw, if_pos rfl]
          dsimp only
          rw [if_pos rfl, hr, Option.bind_some, if_pos rfl, if_neg (by decide), if_pos rfl]
          rfl
        | false =>
          have hw : wantV c.f0 c.f1 c.f2 c.f3 c.f4 c.f5 c.f6 c.f7 = (1, c.f0, c.f1, c.f2, c.f3, ⟨#[]⟩, c.f5, c.f6, c.f7, 0, 0) := by unfold wantV; rw [if_neg (by rw [hs]; decide)]
          rw [hw, if_neg (by decide)]
          dsimp only
          rw [if_pos rfl, hr, Option.bind_some, if_pos rfl]
          simp
    · rw [if_neg hk, if_neg hk]
      show some ((⟨#[]⟩ : ByteArray).toList == ([] : List UInt8)) = some true
      rw [nil_list]
      rfl
end Go.Proofs.YtbfgopinbpbddaaDoor.Pure
