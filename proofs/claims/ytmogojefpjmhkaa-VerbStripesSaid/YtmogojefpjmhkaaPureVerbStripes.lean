/- A right command has a stripe at least, all from nought to three, rising; the stripes of more keys are those of each together: for every two commands. No condition. -/
import Derived.Test.YtmogojefpjmhkaaSayVerbStripes
import Derived.Test.YtmogojefpjmhkaaWorks
import Derived.Test.YtmogojefpjmhkaaLmVerbStripes
namespace Go.Proofs.Ytmogojefpjmhkaa.Pure
open Go Go.RowKit Go.Proofs.Ytmogojefpjmhkaa.P Go.Proofs.Ytmogojefpjmhkaa.Lim Go.Proofs.Ytmogojefpjmhkaa.Pl Go.Proofs.YtmogojefpjmhkaaW.PrintWords

theorem rd_get (l : List Int) (i : Nat) (h : i < l.length) : rd l (i : Int) = l[i] := by
  unfold rd
  rw [Int.toNat_natCast, List.getD_eq_getElem?_getD, List.getElem?_eq_getElem h]
  rfl

/-- Rising, each from nought to three. -/
def Rises (l : List Int) : Prop := l.length ≤ 4 ∧ ∀ i : Nat, i < l.length → (0 ≤ rd l i ∧ rd l i ≤ 3) ∧ (0 < i → rd l ((i - 1 : Nat) : Int) < rd l i)
theorem rises (k : Int) (keys : List ByteArray) : Rises (stripesV k keys) := by
  unfold stripesV
  simp only [List.filter_cons, List.filter_nil]
  generalize (decide (k = 15) || keys.any fun x => decide ((stripeOf x : Int) = 0)) = c0
  generalize (decide (k = 15) || keys.any fun x => decide ((stripeOf x : Int) = 1)) = c1
  generalize (decide (k = 15) || keys.any fun x => decide ((stripeOf x : Int) = 2)) = c2
  generalize (decide (k = 15) || keys.any fun x => decide ((stripeOf x : Int) = 3)) = c3
  unfold Rises
  cases c0 <;> cases c1 <;> cases c2 <;> cases c3 <;> decide

theorem mem_stripes (k : Int) (keys : List ByteArray) (hk : k ≠ 15) (s : Int) (hs : s = 0 ∨ s = 1 ∨ s = 2 ∨ s = 3) : ((stripesV k keys).any fun x => x == s) = keys.any fun x => decide ((stripeOf x : Int) = s) := by
  rw [Bool.eq_iff_iff, List.any_eq_true]
  unfold stripesV
  constructor
  · rintro ⟨x, hx, he⟩
    rw [beq_iff_eq] at he
    subst he
    have := (List.mem_filter.1 hx).2
    rwa [decide_eq_false hk, Bool.false_or] at this
  · intro h
    refine ⟨s, List.mem_filter.2 ⟨?_, ?_⟩, by simp⟩
    · rcases hs with rfl | rfl | rfl | rfl <;> simp
    · rw [h, Bool.or_true]

theorem some_stripe (k : Int) (keys : List ByteArray) (fl ex : Int) (v : ByteArray) (cas del : Int) (q : Bool) (h : chk k keys fl ex v cas del q = 0) : (stripesV k keys).length ≠ 0 := by
  unfold chk at h
  by_cases hk : 1 ≤ k ∧ k ≤ 15
  · rw [if_pos hk] at h
    by_cases hb : (fieldsB k fl ex v cas del q && nOk k keys.length && keys.all keyP) = true
    · simp only [Bool.and_eq_true] at hb
      have hn := hb.1.2
      intro h0
      have h1 := List.eq_nil_of_length_eq_zero h0
      unfold stripesV at h1
      rw [List.filter_eq_nil_iff] at h1
      by_cases h15 : k = 15
      · have := h1 0 (by simp)
        rw [decide_eq_true h15] at this
        exact this rfl
      · match keys, hn with
        | [], hn =>
          unfold nOk at hn
          rw [if_neg h15] at hn
          split at hn <;> simp at hn
        | x :: xs, _ =>
          have h4 := stripe_lt x
          have h5 : (stripeOf x : Int) = 0 ∨ (stripeOf x : Int) = 1 ∨ (stripeOf x : Int) = 2 ∨ (stripeOf x : Int) = 3 := by omega
          have h6 := h1 (stripeOf x : Int) (by rcases h5 with e | e | e | e <;> rw [e] <;> simp)
          exact h6 (by simp)
    · rw [if_neg hb] at h
      exact absurd h (by decide)
  · rw [if_neg hk] at h
    exact absurd h (by decide)

section
variable (ka : Int) (A : List ByteArray) (fa ea : Int) (va : ByteArray) (ca da : Int) (qa : Bool) (kb : Int) (B : List ByteArray) (fb eb : Int) (vb : ByteArray) (cb db : Int) (qb : Bool)

/-- The first loop: all stripes are as they must be. -/
theorem first_loop (l : List Int) (hl : Rises l) (d : Nat) : ∀ i : Nat, i + d = l.length →
    tallboylaw15_VerbStripes.l0L l (i : Int) ka A fa ea va ca da qa kb B fb eb vb cb db qb = tallboylaw15_VerbStripes.l0L l (l.length : Int) ka A fa ea va ca da qa kb B fb eb vb cb db qb := by
  induction d with
  | zero =>
    intro i hi
    rw [show i = l.length by omega]
  | succ d ih =>
    intro i hi
    have h4 := hl.1
    obtain ⟨⟨h0, h3⟩, hr⟩ := hl.2 i (by omega)
    rw [tallboylaw15_VerbStripes.l0L_eq, if_pos (by omega), if_pos (by omega), if_neg (by omega), if_neg (by omega)]
    have hn : ∀ b : Bool, b = false → tallboylaw15_VerbStripes.j3L l (i : Int) b ka A fa ea va ca da qa kb B fb eb vb cb db qb = tallboylaw15_VerbStripes.l0L l (l.length : Int) ka A fa ea va ca da qa kb B fb eb vb cb db qb := by
      intro b hb
      rw [hb, tallboylaw15_VerbStripes.j3L_eq, if_neg (by decide), w64 (by omega) (by omega), show ((i : Int) + 1) = ((i + 1 : Nat) : Int) by omega]
      exact ih (i + 1) (by omega)
    by_cases hi0 : (i : Int) > 0
    · rw [if_pos hi0, w64 (by omega) (by omega), if_pos (by omega), if_pos (by omega)]
      refine hn _ ?_
      have := hr (by omega)
      rw [show ((i : Int) - 1) = ((i - 1 : Nat) : Int) by omega]
      exact decide_eq_false (by omega)
    · rw [if_neg hi0]
      exact hn _ rfl
end

section
variable (l m : List Int) (c0 : Int) (K : List ByteArray) (c2 c3 : Int) (c4 : ByteArray) (c5 c6 : Int) (c7 : Bool)

theorem in_m (hm : m.length ≤ 4) (acc : List Int) (s : Int) (d : Nat) : ∀ (i : Nat) (b : Bool), i + d = m.length →
    tallboylaw15_VerbStripes.l3L l m acc s b (i : Int) c0 K c2 c3 c4 c5 c6 c7 = (if (b || (m.drop i).any fun x => x == s) = true then (if acc.length < 17592186044416 then (tallboylaw15_VerbStripes.l1L l m (acc ++ [s]) (wrap64 (s + 1)) c0 K c2 c3 c4 c5 c6 c7) else (none)) else (tallboylaw15_VerbStripes.l1L l m acc (wrap64 (s + 1)) c0 K c2 c3 c4 c5 c6 c7)) := by
  induction d with
  | zero =>
    intro i b hi
    rw [tallboylaw15_VerbStripes.l3L_eq, if_neg (by omega), List.drop_eq_nil_of_le (by omega)]
    simp
  | succ d ih =>
    intro i b hi
    have hl : i < m.length := by omega
    rw [tallboylaw15_VerbStripes.l3L_eq, if_pos (by omega), w64 (by omega) (by omega), show ((i : Int) + 1) = ((i + 1 : Nat) : Int) by omega]
    cases b with
    | true =>
      rw [if_pos rfl, ih (i + 1) true (by omega)]
      simp
    | false =>
      rw [if_neg (by decide), if_pos (by omega), rd_get _ _ hl, ih (i + 1) _ (by omega), List.drop_eq_getElem_cons hl, List.any_cons]
      rfl

theorem in_l (hll : l.length ≤ 4) (acc : List Int) (s : Int) (d : Nat) : ∀ (i : Nat) (b : Bool), i + d = l.length →
    tallboylaw15_VerbStripes.l2L l m acc s b (i : Int) c0 K c2 c3 c4 c5 c6 c7 = tallboylaw15_VerbStripes.l3L l m acc s (b || (l.drop i).any fun x => x == s) 0 c0 K c2 c3 c4 c5 c6 c7 := by
  induction d with
  | zero =>
    intro i b hi
    rw [tallboylaw15_VerbStripes.l2L_eq, if_neg (by omega), List.drop_eq_nil_of_le (by omega)]
    simp
  | succ d ih =>
    intro i b hi
    have hl : i < l.length := by omega
    rw [tallboylaw15_VerbStripes.l2L_eq, if_pos (by omega), w64 (by omega) (by omega), show ((i : Int) + 1) = ((i + 1 : Nat) : Int) by omega]
    cases b with
    | true =>
      rw [if_pos rfl, ih (i + 1) true (by omega)]
      simp
    | false =>
      rw [if_neg (by decide), if_pos (by omega), rd_get _ _ hl, ih (i + 1) _ (by omega), List.drop_eq_getElem_cons hl, List.any_cons]
      rfl

def bothV (l m : List Int) : List Int := ([0, 1, 2, 3] : List Int).filter fun s => (l.any fun x => x == s) || m.any fun x => x == s

theorem last_loop (hll : l.length ≤ 4) (hm : m.length ≤ 4) (hx : ∀ x ∈ K, x.size ≤ 4611686018427387904) (he : stripesV c0 K = bothV l m) :
    tallboylaw15_VerbStripes.l1L l m [] 0 c0 K c2 c3 c4 c5 c6 c7 = some true := by
  have step : ∀ (acc : List Int) (s : Int), 0 ≤ s → s < 4 → acc.length < 10 → tallboylaw15_VerbStripes.l1L l m acc s c0 K c2 c3 c4 c5 c6 c7 = tallboylaw15_VerbStripes.l1L l m (acc ++ (if ((l.any fun x => x == s) || m.any fun x => x == s) = true then [s] else [])) (s + 1) c0 K c2 c3 c4 c5 c6 c7 := by
    intro acc s h0 h4 hl
    have h1 := in_l l m c0 K c2 c3 c4 c5 c6 c7 hll acc s l.length 0 false (by omega)
    have h2 := in_m l m c0 K c2 c3 c4 c5 c6 c7 hm acc s m.length 0 (l.any fun x => x == s) (by omega)
    simp only [List.drop_zero, Bool.false_or, show ((0 : Nat) : Int) = 0 from rfl] at h1 h2
    rw [tallboylaw15_VerbStripes.l1L_eq, if_pos h4, h1, h2, w64 (by omega) (by omega)]
    split
    · rw [if_pos (by omega)]
    · rw [List.append_nil]
  have fin : tallboylaw15_VerbStripes.l1L l m (bothV l m) 4 c0 K c2 c3 c4 c5 c6 c7 = some true := by
    rw [tallboylaw15_VerbStripes.l1L_eq, if_neg (by decide), stripes_eq _ _ _ _ _ _ _ _ hx, Option.bind_some, same_eq _ _ (Nat.le_trans (stripesV_len _ _) (by decide)), he, decide_eq_true rfl]
    rfl
  have ln : ∀ (c : Bool) (s : Int), (if c = true then [s] else ([] : List Int)).length ≤ 1 := by intro c s; split <;> simp
  have l0 := ln ((l.any fun x => x == 0) || m.any fun x => x == 0) 0
  have l1 := ln ((l.any fun x => x == 1) || m.any fun x => x == 1) 1
  have l2 := ln ((l.any fun x => x == 2) || m.any fun x => x == 2) 2
  rw [step [] 0 (by decide) (by decide) (by simp), show (0 : Int) + 1 = 1 from rfl, step _ 1 (by decide) (by decide) (by simp only [List.length_append, List.length_nil]; omega), show (1 : Int) + 1 = 2 from rfl, step _ 2 (by decide) (by decide) (by simp only [List.length_append, List.length_nil]; omega), show (2 : Int) + 1 = 3 from rfl, step _ 3 (by decide) (by decide) (by simp only [List.length_append, List.length_nil]; omega), show (3 : Int) + 1 = 4 from rfl]
  have e : ((([] ++ (if ((l.any fun x => x == 0) || m.any fun x => x == 0) = true then [0] else [])) ++ (if ((l.any fun x => x == 1) || m.any fun x => x == 1) = true then [1] else [])) ++ (if ((l.any fun x => x == 2) || m.any fun x => x == 2) = true then [2] else [])) ++ (if ((l.any fun x => x == 3) || m.any fun x => x == 3) = true then [3] else []) = bothV l m := by
    unfold bothV
    simp only [List.filter_cons, List.filter_nil, List.nil_append]
    generalize ((l.any fun x => x == 0) || m.any fun x => x == 0) = e0
    generalize ((l.any fun x => x == 1) || m.any fun x => x == 1) = e1
    generalize ((l.any fun x => x == 2) || m.any fun x => x == 2) = e2
    generalize ((l.any fun x => x == 3) || m.any fun x => x == 3) = e3
    cases e0 <;> cases e1 <;> cases e2 <;> cases e3 <;> rfl
  rw [e, fin]
end

theorem both_eq (ka kb : Int) (A B : List ByteArray) (ha : ka ≠ 15) (hb : kb ≠ 15) : stripesV 1 (A ++ B) = bothV (stripesV ka A) (stripesV kb B) := by
  unfold bothV
  rw [show stripesV 1 (A ++ B) = ([0, 1, 2, 3] : List Int).filter fun s => decide ((1 : Int) = 15) || (A ++ B).any fun x => decide ((stripeOf x : Int) = s) from rfl]
  apply List.filter_congr
  intro s hs
  have hs' : s = 0 ∨ s = 1 ∨ s = 2 ∨ s = 3 := by simpa using hs
  rw [mem_stripes ka A ha s hs', mem_stripes kb B hb s hs', List.any_append]
  rfl

theorem VerbStripes : verbStripes.Pure := by
  intro a b hWa hWb
  obtain ⟨_, ⟨hba, hna, hxa⟩, _, _, hva, _, _, _⟩ := hWa
  obtain ⟨_, ⟨hbb, hnb, hxb⟩, _, _, hvb, _, _, _⟩ := hWb
  refine (tallboylaw15_VerbStripes.Llm a.f0 a.f1 a.f2 a.f3 a.f4 a.f5 a.f6 a.f7 b.f0 b.f1 b.f2 b.f3 b.f4 b.f5 b.f6 b.f7).rounds ?_
  rw [tallboylaw15_VerbStripes.L_eq, works_true, Option.bind_some, if_pos rfl]
  rw [verbStripes.bytesOf9] at hba hbb
  obtain ⟨g, hg, hf⟩ := great_eq a.f0 a.f1 a.f2 a.f3 a.f4 a.f5 a.f6 a.f7 (by omega) hxa hva
  obtain ⟨g', hg', hf'⟩ := great_eq b.f0 b.f1 b.f2 b.f3 b.f4 b.f5 b.f6 b.f7 (by omega) hxb hvb
  rw [hg, hg']
  simp only [Option.bind_some]
  cases g with
  | true => rw [if_pos rfl, tallboylaw15_VerbStripes.j0L_eq, if_pos rfl]
  | false =>
    rw [if_neg (by decide)]
    cases g' with
    | true => rw [tallboylaw15_VerbStripes.j0L_eq, if_pos rfl]
    | false =>
      obtain ⟨h1, _, h2⟩ := hf rfl
      obtain ⟨h1', _, h2'⟩ := hf' rfl
      have big : ∀ x : ByteArray, x.size < 10000 → x.size ≤ 4611686018427387904 := fun x h => by omega
      rw [tallboylaw15_VerbStripes.j0L_eq, if_neg (by decide), own_eq _ _ _ _ _ _ _ _ h1]
      simp only [Option.bind_some]
      rw [stripes_eq _ _ _ _ _ _ _ _ (fun x hx => big x (h2 x hx)), check_eq]
      simp only [Option.bind_some]
      have hj : ∀ c : Bool, c = false → tallboylaw15_VerbStripes.j1L (stripesV a.f0 a.f1) c a.f0 a.f1 a.f2 a.f3 a.f4 a.f5 a.f6 a.f7 b.f0 b.f1 b.f2 b.f3 b.f4 b.f5 b.f6 b.f7 = some true := by
        intro c hc
        have hfl := first_loop a.f0 a.f1 a.f2 a.f3 a.f4 a.f5 a.f6 a.f7 b.f0 b.f1 b.f2 b.f3 b.f4 b.f5 b.f6 b.f7 (stripesV a.f0 a.f1) (rises _ _) (stripesV a.f0 a.f1).length 0 (by omega)
        rw [hc, tallboylaw15_VerbStripes.j1L_eq, if_neg (by decide), show (0 : Int) = ((0 : Nat) : Int) from rfl, hfl, tallboylaw15_VerbStripes.l0L_eq, if_neg (by omega), own_eq _ _ _ _ _ _ _ _ h1']
        simp only [Option.bind_some]
        rw [stripes_eq _ _ _ _ _ _ _ _ (fun x hx => big x (h2' x hx))]
        simp only [Option.bind_some, List.nil_append, List.length_nil, Nat.zero_add]
        rw [if_pos (by omega), if_pos (by omega)]
        by_cases ha : a.f0 = 15
        · rw [if_pos ha, tallboylaw15_VerbStripes.j4L_eq, if_pos rfl]
        · rw [if_neg ha, tallboylaw15_VerbStripes.j4L_eq]
          by_cases hb : b.f0 = 15
          · rw [if_pos (by simpa using hb)]
          · rw [if_neg (by simpa using hb)]
            refine last_loop _ _ _ _ _ _ _ _ _ _ (stripesV_len _ _) (stripesV_len _ _) (fun x hx => ?_) (both_eq _ _ _ _ ha hb)
            rcases List.mem_append.1 hx with hx | hx
            · exact big x (h2 x hx)
            · exact big x (h2' x hx)
      by_cases h0 : chk a.f0 a.f1 a.f2 a.f3 a.f4 a.f5 a.f6 a.f7 = 0
      · rw [if_pos h0]
        refine hj _ ?_
        have := some_stripe _ _ _ _ _ _ _ _ h0
        simpa using this
      · rw [if_neg h0]
        exact hj _ rfl
end Go.Proofs.Ytmogojefpjmhkaa.Pure
