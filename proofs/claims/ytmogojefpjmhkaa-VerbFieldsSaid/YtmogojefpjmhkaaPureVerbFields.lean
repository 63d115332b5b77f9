/- A right command with one field more that its kind does not have is not right; without what it does not need it stays right: for every command. No condition. -/
import Derived.Test.YtmogojefpjmhkaaSayVerbFields
import Derived.Test.YtmogojefpjmhkaaWorks
import Derived.Test.YtmogojefpjmhkaaLmVerbFields
namespace Go.Proofs.Ytmogojefpjmhkaa.Pure
open Go Go.RowKit Go.Proofs.Ytmogojefpjmhkaa.P Go.Proofs.Ytmogojefpjmhkaa.Lim Go.Proofs.Ytmogojefpjmhkaa.Pl

theorem chk_zero (k : Int) (keys : List ByteArray) (fl ex : Int) (v : ByteArray) (cas del : Int) (q : Bool) :
    chk k keys fl ex v cas del q = 0 ↔ (1 ≤ k ∧ k ≤ 15) ∧ fieldsB k fl ex v cas del q = true ∧ nOk k keys.length = true ∧ keys.all keyP = true ∧ v.size ≤ 2000 := by
  unfold chk
  by_cases hk : 1 ≤ k ∧ k ≤ 15
  · rw [if_pos hk]
    by_cases hb : (fieldsB k fl ex v cas del q && nOk k keys.length && keys.all keyP) = true
    · rw [if_pos hb]
      simp only [Bool.and_eq_true] at hb
      by_cases hs : v.size > 2000
      · rw [if_pos hs]
        exact ⟨fun h => absurd h (by decide), fun h => absurd h.2.2.2.2 (by omega)⟩
      · rw [if_neg hs]
        exact ⟨fun _ => ⟨hk, hb.1.1, hb.1.2, hb.2, by omega⟩, fun _ => rfl⟩
    · rw [if_neg hb]
      refine ⟨fun h => absurd h (by decide), fun h => absurd ?_ hb⟩
      rw [h.2.1, h.2.2.1, h.2.2.2.1]
      rfl
  · rw [if_neg hk]
    exact ⟨fun h => absurd h (by decide), fun h => absurd h.1 hk⟩

theorem chk_b (k : Int) (keys : List ByteArray) (fl ex : Int) (v : ByteArray) (cas del : Int) (q : Bool) (has : Bool) (hk : 1 ≤ k ∧ k ≤ 15) (hn : nOk k keys.length = true) (ha : keys.all keyP = true) (hv : v.size ≤ 2000)
    (hf : fieldsB k fl ex v cas del q = has) : (chk k keys fl ex v cas del q == 0) = has := by
  rw [Bool.eq_iff_iff, beq_iff_eq, chk_zero, hf]
  exact ⟨fun h => h.2.1, fun h => ⟨hk, h, hn, ha, hv⟩⟩

theorem fields_plain (k : Int) : fieldsB k 0 0 ⟨#[]⟩ 0 0 false = true := by
  unfold fieldsB
  simp
  exact Or.inr rfl

theorem VerbFields : verbFields.Pure := by
  intro c w hW _
  obtain ⟨_, ⟨hb, hn, hx⟩, _, _, hv, _, _, _⟩ := hW
  refine (tallboylaw15_VerbFields.Llm c.f0 c.f1 c.f2 c.f3 c.f4 c.f5 c.f6 c.f7 w).rounds ?_
  rw [tallboylaw15_VerbFields.L_eq, works_true, Option.bind_some, if_pos rfl]
  have hn2 : c.f1.length ≤ 4611686018427387904 := by
    rw [verbFields.bytesOf9] at hb
    omega
  obtain ⟨g, hg, hf⟩ := great_eq c.f0 c.f1 c.f2 c.f3 c.f4 c.f5 c.f6 c.f7 hn2 hx hv
  rw [hg, Option.bind_some]
  cases g with
  | true =>
    rw [if_pos rfl, tallboylaw15_VerbFields.j0L_eq, if_pos rfl]
  | false =>
    obtain ⟨h1, _, _⟩ := hf rfl
    rw [if_neg (by decide), own_eq _ _ _ _ _ _ _ _ h1]
    simp only [Option.bind_some]
    rw [check_eq, Option.bind_some]
    by_cases h0 : chk c.f0 c.f1 c.f2 c.f3 c.f4 c.f5 c.f6 c.f7 = 0
    · rw [h0, show ((0 : Int) != 0) = false by decide, tallboylaw15_VerbFields.j0L_eq, if_neg (by decide), own_eq _ _ _ _ _ _ _ _ h1]
      simp only [Option.bind_some]
      obtain ⟨hk, hF, hN, hA, hS⟩ := (chk_zero _ _ _ _ _ _ _ _).1 h0
      have hwhole : (if storesB c.f0 = true then (if c.f0 = 8 then (tallboylaw15_VerbFields.j1L w c.f0 false c.f0 c.f1 c.f2 c.f3 c.f4 c.f5 c.f6 c.f7) else (tallboylaw15_VerbFields.j1L w c.f0 (c.f0 != 9) c.f0 c.f1 c.f2 c.f3 c.f4 c.f5 c.f6 c.f7)) else (tallboylaw15_VerbFields.j1L w c.f0 false c.f0 c.f1 c.f2 c.f3 c.f4 c.f5 c.f6 c.f7)) = tallboylaw15_VerbFields.j1L w c.f0 (wholeB c.f0) c.f0 c.f1 c.f2 c.f3 c.f4 c.f5 c.f6 c.f7 := by
        unfold storesB wholeB
        generalize c.f0 = k
        by_cases h : 5 ≤ k ∧ k ≤ 10
        · rw [decide_eq_true h, if_pos rfl]
          by_cases h8 : k = 8
          · rw [if_pos h8, decide_eq_false (p := k = 5 ∨ k = 6 ∨ k = 7 ∨ k = 10) (by omega)]
          · rw [if_neg h8]
            congr 1
            rw [Bool.eq_iff_iff]
            simp
            omega
        · rw [decide_eq_false h, if_neg (by decide), decide_eq_false (p := k = 5 ∨ k = 6 ∨ k = 7 ∨ k = 10) (by omega)]
      rw [rstores_eq, Option.bind_some, hwhole]
      have hfin : ∀ (fl ex : Int) (v : ByteArray) (cas del : Int) (q has : Bool), v.size ≤ 2000 → fieldsB c.f0 fl ex v cas del q = has → tallboylaw15_VerbFields.j2L c.f0 has c.f0 c.f1 fl ex v cas del q = some true := by
        intro fl ex v cas del q has hv' hf'
        rw [tallboylaw15_VerbFields.j2L_eq, check_eq, Option.bind_some, chk_b _ _ _ _ _ _ _ _ has hk hN hA hv' hf', if_pos (by simp), check_eq, Option.bind_some, chk_b _ _ _ _ _ _ _ _ true hk hN hA (by decide) (fields_plain _)]
      have hd : ∀ x y : Int, (x == y) = decide (x = y) := fun _ _ => rfl
      unfold fieldsB at hF hfin
      simp only [Bool.and_eq_true] at hF
      obtain ⟨⟨⟨⟨⟨f1, f2⟩, f3⟩, f4⟩, f5⟩, f6⟩ := hF
      rw [tallboylaw15_VerbFields.j1L_eq]
      generalize wrap64 (Int.tmod (IntKind.u64.wrap w) 6) = u
      by_cases u0 : u = 0
      · rw [if_pos u0]
        refine hfin _ _ _ _ _ _ _ hS ?_
        rw [f2, f3, f4, f5, f6]
        simp
      · rw [if_neg u0]
        by_cases u1 : u = 1
        · rw [if_pos u1, rstores_eq, Option.bind_some]
          refine hfin _ _ _ _ _ _ _ (by decide) ?_
          rw [f1, f3, f4, f5, f6, decide_eq_false (show ¬ (⟨#[118]⟩ : ByteArray) = ByteArray.empty by decide)]
          simp
        · rw [if_neg u1]
          by_cases u2 : u = 2
          · rw [if_pos u2]
            have he : ∀ has : Bool, has = endsB c.f0 → tallboylaw15_VerbFields.j2L c.f0 has c.f0 c.f1 c.f2 1 c.f4 c.f5 c.f6 c.f7 = some true := by
              intro has hh
              refine hfin _ _ _ _ _ _ _ hS ?_
              rw [f1, f2, f4, f5, f6, hh]
              simp
            generalize c.f0 = k at he ⊢
            by_cases hw : wholeB k = true
            · rw [if_pos hw]
              refine he _ ?_
              unfold wholeB at hw
              have := of_decide_eq_true hw
              exact (decide_eq_true (by omega)).symm
            · rw [if_neg hw]
              unfold wholeB at hw
              have hw' : ¬ (k = 5 ∨ k = 6 ∨ k = 7 ∨ k = 10) := fun h => hw (decide_eq_true h)
              by_cases h3 : k = 3
              · rw [if_pos h3]
                exact he _ (decide_eq_true (by omega)).symm
              · rw [if_neg h3]
                by_cases h4 : k = 4
                · rw [if_pos h4]
                  exact he _ (decide_eq_true (by omega)).symm
                · rw [if_neg h4, hd]
                  refine he _ (decide_eq_decide.2 ?_)
                  omega
          · rw [if_neg u2]
            by_cases u3 : u = 3
            · rw [if_pos u3, hd]
              refine hfin _ _ _ _ _ _ _ hS ?_
              rw [f1, f2, f3, f5, f6]
              simp
            · rw [if_neg u3]
              by_cases u4 : u = 4
              · rw [if_pos u4]
                have he : ∀ has : Bool, has = decide (c.f0 = 12 ∨ c.f0 = 13) → tallboylaw15_VerbFields.j2L c.f0 has c.f0 c.f1 c.f2 c.f3 c.f4 c.f5 1 c.f7 = some true := by
                  intro has hh
                  refine hfin _ _ _ _ _ _ _ hS ?_
                  rw [f1, f2, f3, f4, f6, hh]
                  simp
                by_cases h12 : c.f0 = 12
                · rw [if_pos h12]
                  exact he _ (decide_eq_true (Or.inl h12)).symm
                · rw [if_neg h12, hd]
                  exact he _ (decide_eq_decide.2 (by omega))
              · rw [if_neg u4, rreads_eq, Option.bind_some]
                refine hfin _ _ _ _ _ _ _ hS ?_
                rw [f1, f2, f3, f4, f5]
                simp
    · rw [show (chk c.f0 c.f1 c.f2 c.f3 c.f4 c.f5 c.f6 c.f7 != 0) = true by simpa using h0, tallboylaw15_VerbFields.j0L_eq, if_pos rfl]
end Go.Proofs.Ytmogojefpjmhkaa.Pure
