/- The document's verb.Check and what else the laws on commands call: their values. Conditions: rows and texts shorter than 2^62. -/
import Derived.Test.YtbfgopinbpbddaaDoorChk
namespace Go.Proofs.YtbfgopinbpbddaaDoor.Pl
open Go Go.RowKit Go.Proofs.YtbfgopinbpbddaaDoor.P Go.Proofs.YtbfgopinbpbddaaDoor.Lim Go.Proofs.YtbfgopinbpbddaaDoorW.PrintWords

theorem rstores_eq (k : Int) : tallboyref15_Stores.f k = some (storesB k) := by
  unfold tallboyref15_Stores.f storesB
  by_cases h1 : k ≥ 5
  · rw [if_pos h1]
    congr 1
    exact decide_eq_decide.2 (by omega)
  · rw [if_neg h1, decide_eq_false (by omega)]
section
variable (k a0 : Int) (keys : List ByteArray) (fl ex : Int) (v : ByteArray) (cas del : Int) (q : Bool) (b : Bool)
end

theorem great_loop (keys : List ByteArray) (hn : keys.length ≤ 4611686018427387904) (hx : ∀ x ∈ keys, x.size ≤ 140737488351232) (a0 a2 a3 : Int) (v : ByteArray) (a5 a6 : Int) (a7 : Bool) (d : Nat) : ∀ (i m : Nat), i + d = keys.length → m ≤ 140737488361232 →
    ∃ g, tallboylaw15_Great.l0L (m : Int) (i : Int) a0 keys a2 a3 v a5 a6 a7 = some g ∧ (g = false → keys.length ≤ 100 ∧ m < 10000 ∧ ∀ x ∈ keys.drop i, x.size < 10000) := by
  induction d with
  | zero =>
    intro i m hi hm
    rw [tallboylaw15_Great.l0L_eq, if_neg (by omega)]
    by_cases h : (m : Int) ≥ 10000
    · exact ⟨true, by rw [if_pos h], fun h => by cases h⟩
    · refine ⟨_, by rw [if_neg h], fun h2 => ?_⟩
      have := of_decide_eq_false h2
      exact ⟨by omega, by omega, by rw [List.drop_eq_nil_of_le (by omega)]; intro x hx; simp at hx⟩
  | succ d ih =>
    intro i m hi hm
    have hl : i < keys.length := by omega
    rw [tallboylaw15_Great.l0L_eq, if_pos (by omega)]
    by_cases h : (m : Int) < 10000
    · rw [if_pos h, if_pos (by omega), rdOf_get _ _ i hl]
      have hs := hx _ (List.getElem_mem hl)
      rw [w64 (by omega) (by omega), w64 (by omega) (by omega), show ((i : Int) + 1) = ((i + 1 : Nat) : Int) by omega, show ((m : Int) + (keys[i].size : Int)) = ((m + keys[i].size : Nat) : Int) by omega]
      obtain ⟨g, hg, hf⟩ := ih (i + 1) (m + keys[i].size) (by omega) (by omega)
      refine ⟨g, hg, fun h2 => ?_⟩
      obtain ⟨f1, f2, f3⟩ := hf h2
      refine ⟨f1, by omega, ?_⟩
      rw [List.drop_eq_getElem_cons hl]
      intro x hx'
      rcases List.mem_cons.1 hx' with rfl | hx'
      · omega
      · exact f3 x hx'
    · exact ⟨true, by rw [if_neg h, if_pos (by omega)], fun h => by cases h⟩

theorem great_eq (k : Int) (keys : List ByteArray) (fl ex : Int) (v : ByteArray) (cas del : Int) (q : Bool) (hn : keys.length ≤ 4611686018427387904) (hx : ∀ x ∈ keys, x.size ≤ 140737488351232) (hv : v.size ≤ 140737488351232) :
    ∃ g, tallboylaw15_Great.L k keys fl ex v cas del q = some g ∧ (g = false → keys.length ≤ 100 ∧ v.size < 10000 ∧ ∀ x ∈ keys, x.size < 10000) := by
  rw [tallboylaw15_Great.L_eq]
  exact great_loop keys hn hx k fl ex v cas del q keys.length 0 v.size (by omega) (by omega)

end Go.Proofs.YtbfgopinbpbddaaDoor.Pl
