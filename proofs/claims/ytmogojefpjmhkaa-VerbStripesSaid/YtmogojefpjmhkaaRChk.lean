/- The document's verb.Check, Stripes and what else the laws on commands call: their values. Conditions: rows and texts shorter than 2^62. -/
import Derived.Test.YtmogojefpjmhkaaChk
import Derived.Test.YtmogojefpjmhkaaFnv
namespace Go.Proofs.Ytmogojefpjmhkaa.Pl
open Go Go.RowKit Go.Proofs.Ytmogojefpjmhkaa.P Go.Proofs.Ytmogojefpjmhkaa.Lim Go.Proofs.YtmogojefpjmhkaaW.PrintWords

section
variable (k a0 : Int) (keys : List ByteArray) (fl ex : Int) (v : ByteArray) (cas del : Int) (q : Bool) (b : Bool)
end

/-! ### Stripes -/
def stripesV (k : Int) (keys : List ByteArray) : List Int := ([0, 1, 2, 3] : List Int).filter fun s => decide (k = 15) || keys.any fun x => decide ((stripeOf x : Int) = s)

theorem mark_eq : ∀ (keys : List ByteArray) (bs : List Bool), bs.length = 4 → (∀ x ∈ keys, x.size ≤ 4611686018427387904) →
    ∃ cs, Lm (fun k => verb_Stripes.mark k bs keys) (some cs) ∧ cs.length = 4 ∧ ∀ s : Nat, s < 4 → cs.getD s false = (bs.getD s false || keys.any fun x => decide (stripeOf x = s))
  | [], bs, hb, _ => ⟨bs, Lm.const _, hb, fun s _ => by simp⟩
  | x :: xs, bs, hb, hx => by
    obtain ⟨cs, h1, h2, h3⟩ := mark_eq xs (bs.set (stripeOf x) true) (by simpa using hb) (fun y hy => hx y (by simp [hy]))
    refine ⟨cs, ?_, h2, fun s hs => ?_⟩
    · have hsum := fnv_Sum.Llm x
      rw [sum_eq x (hx x (by simp))] at hsum
      have h4 := Lm.bind (h := fun k n => (fnv_Stripe.f n).bind fun s => if 0 ≤ s ∧ s < 4 then verb_Stripes.mark k (bs.set s.toNat true) xs else none) (w := fun n => (fnv_Stripe.f n).bind fun s => if 0 ≤ s ∧ s < 4 then (if s = (stripeOf x : Int) then some cs else lim fun k => verb_Stripes.mark k (bs.set s.toNat true) xs) else none) hsum (fun n => Lm.bind (Lm.const _) (fun s => Lm.ite (by
        by_cases e : s = (stripeOf x : Int)
        · rw [if_pos e, e, Int.toNat_natCast]
          exact h1
        · rw [if_neg e]
          exact lim_spec (fun k => verb_Stripes.mono_mark k xs _)) (Lm.const _)))
      rw [Option.bind_some, stripe_eq _ (fnvSum_lt x), Option.bind_some] at h4
      have hs4 := stripe_lt x
      unfold stripeOf at h4 hs4
      rw [if_pos (by omega), if_pos rfl] at h4
      exact h4
    · rw [h3 s hs, List.any_cons]
      have hs4 := stripe_lt x
      by_cases e : stripeOf x = s
      · subst e
        rw [decide_eq_true rfl]
        simp [List.getD_eq_getElem?_getD, hb, hs4]
      · rw [decide_eq_false e]
        simp [List.getD_eq_getElem?_getD, e]

theorem stripes_eq (k : Int) (keys : List ByteArray) (fl ex : Int) (v : ByteArray) (cas del : Int) (q : Bool) (hx : ∀ x ∈ keys, x.size ≤ 4611686018427387904) : verb_Stripes.L k keys fl ex v cas del q = some (stripesV k keys) := by
  obtain ⟨cs, h1, h2, h3⟩ := mark_eq keys [false, false, false, false] rfl hx
  have h4 := Lm.bind (h := fun _ bs => some (verb_Stripes.upto bs k 4)) (w := fun bs => some (verb_Stripes.upto bs k 4)) h1 (fun _ => Lm.const _)
  rw [Lm.unique (verb_Stripes.Llm k keys fl ex v cas del q) h4, Option.bind_some]
  congr 1
  unfold verb_Stripes.upto stripesV
  apply List.filter_congr
  intro s hs
  have hs' : ∃ n : Nat, n < 4 ∧ s = n := by
    simp at hs
    rcases hs with rfl | rfl | rfl | rfl
    · exact ⟨0, by decide, rfl⟩
    · exact ⟨1, by decide, rfl⟩
    · exact ⟨2, by decide, rfl⟩
    · exact ⟨3, by decide, rfl⟩
  obtain ⟨n, hn, rfl⟩ := hs'
  rw [Int.toNat_natCast, h3 n hn]
  have e : ([false, false, false, false] : List Bool).getD n false = false := by
    match n, hn with
    | 0, _ => rfl
    | 1, _ => rfl
    | 2, _ => rfl
    | 3, _ => rfl
  rw [e, Bool.false_or, Bool.or_comm]
  congr 1
  congr 1
  funext x
  exact decide_eq_decide.2 (by omega)

theorem stripesV_len (k : Int) (keys : List ByteArray) : (stripesV k keys).length ≤ 4 := by
  unfold stripesV
  exact Nat.le_trans (List.length_filter_le _ _) (by decide)

/-! ### Same rows of numbers -/
theorem same_loop (l m : List Int) (hl : l.length = m.length) (hn : l.length ≤ 4611686018427387904) (d : Nat) : ∀ i : Nat, i + d = l.length → tallboyref06_Same.l0L l m (i : Int) = some (decide (l.drop i = m.drop i)) := by
  induction d with
  | zero =>
    intro i hi
    rw [tallboyref06_Same.l0L_eq, if_neg (by omega), List.drop_eq_nil_of_le (by omega), List.drop_eq_nil_of_le (by omega)]
    simp
  | succ d ih =>
    intro i hi
    have h1 : i < l.length := by omega
    have h2 : i < m.length := by omega
    rw [tallboyref06_Same.l0L_eq, if_pos (by omega), if_pos (by omega), if_pos (by omega), w64 (by omega) (by omega), List.drop_eq_getElem_cons h1, List.drop_eq_getElem_cons h2]
    have e1 : rd l (i : Int) = l[i] := by unfold rd; rw [Int.toNat_natCast, List.getD_eq_getElem?_getD, List.getElem?_eq_getElem h1]; rfl
    have e2 : rd m (i : Int) = m[i] := by unfold rd; rw [Int.toNat_natCast, List.getD_eq_getElem?_getD, List.getElem?_eq_getElem h2]; rfl
    rw [e1, e2, show ((i : Int) + 1) = ((i + 1 : Nat) : Int) by omega, ih (i + 1) (by omega)]
    by_cases h : l[i] = m[i]
    · rw [if_pos h, h]
      congr 1
      exact decide_eq_decide.2 ⟨fun e => by rw [e], fun e => (List.cons.inj e).2⟩
    · rw [if_neg h, decide_eq_false (fun e => h (List.cons.inj e).1)]
theorem same_eq (l m : List Int) (hn : l.length ≤ 4611686018427387904) : tallboyref06_Same.L l m = some (decide (l = m)) := by
  rw [tallboyref06_Same.L_eq]
  by_cases h : l.length = m.length
  · rw [if_pos (by omega), show (0 : Int) = ((0 : Nat) : Int) from rfl, same_loop l m h hn l.length 0 (by omega)]
    rfl
  · rw [if_neg (by omega), decide_eq_false (fun e => h (by rw [e]))]

/-! ### Great -/
theorem great_loop (keys : List ByteArray) (hn : keys.length ≤ 4611686018427387904) (hx : ∀ x ∈ keys, x.size ≤ 140737488351232) (a0 a2 a3 : Int) (v : ByteArray) (a5 a6 : Int) (a7 : Bool) (d : Nat) : ∀ (i m : Nat), i + d = keys.length → m ≤ 140737488361232 →
    ∃ g, tallboylaw15_Great.l0L (m : Int) (i : Int) a0 keys a2 a3 v a5 a6 a7 = some g ∧ (g = false → keys.length ≤ 100 ∧ m < 10000 ∧ ∀ x ∈ keys.drop i, x.size < 10000) := by
  induction d with
  | zero =>
    intro i m hi hm
    rw [tallboylaw15_Great.l0L_eq, if_neg (by omega)]
    by_cases h : (m : Int) ≥ 10000
    · exact ⟨true, by rw [if_pos h], fun h => by cases h⟩
    · refine ⟨_, by rw [if_neg h], fun h2 => ?_⟩
      have := of_decide_eq_false h2
      exact ⟨by omega, by omega, by rw [List.drop_eq_nil_of_le (by omega)]; intro x hx; simp at hx⟩
  | succ d ih =>
    intro i m hi hm
    have hl : i < keys.length := by omega
    rw [tallboylaw15_Great.l0L_eq, if_pos (by omega)]
    by_cases h : (m : Int) < 10000
    · rw [if_pos h, if_pos (by omega), rdOf_get _ _ i hl]
      have hs := hx _ (List.getElem_mem hl)
      rw [w64 (by omega) (by omega), w64 (by omega) (by omega), show ((i : Int) + 1) = ((i + 1 : Nat) : Int) by omega, show ((m : Int) + (keys[i].size : Int)) = ((m + keys[i].size : Nat) : Int) by omega]
      obtain ⟨g, hg, hf⟩ := ih (i + 1) (m + keys[i].size) (by omega) (by omega)
      refine ⟨g, hg, fun h2 => ?_⟩
      obtain ⟨f1, f2, f3⟩ := hf h2
      refine ⟨f1, by omega, ?_⟩
      rw [List.drop_eq_getElem_cons hl]
      intro x hx'
      rcases List.mem_cons.1 hx' with rfl | hx'
      · omega
      · exact f3 x hx'
    · exact ⟨true, by rw [if_neg h, if_pos (by omega)], fun h => by cases h⟩

theorem great_eq (k : Int) (keys : List ByteArray) (fl ex : Int) (v : ByteArray) (cas del : Int) (q : Bool) (hn : keys.length ≤ 4611686018427387904) (hx : ∀ x ∈ keys, x.size ≤ 140737488351232) (hv : v.size ≤ 140737488351232) :
    ∃ g, tallboylaw15_Great.L k keys fl ex v cas del q = some g ∧ (g = false → keys.length ≤ 100 ∧ v.size < 10000 ∧ ∀ x ∈ keys, x.size < 10000) := by
  rw [tallboylaw15_Great.L_eq]
  exact great_loop keys hn hx k fl ex v cas del q keys.length 0 v.size (by omega) (by omega)

theorem own_eq (k : Int) (keys : List ByteArray) (fl ex : Int) (v : ByteArray) (cas del : Int) (q : Bool) (h : keys.length ≤ 100) : tallboylaw15_Own.f k keys fl ex v cas del q = some (k, keys, fl, ex, v, cas, del, q) := by
  unfold tallboylaw15_Own.f
  simp only [Option.bind_some, List.nil_append, List.length_nil, Nat.zero_add]
  rw [if_pos (by omega)]
end Go.Proofs.Ytmogojefpjmhkaa.Pl
