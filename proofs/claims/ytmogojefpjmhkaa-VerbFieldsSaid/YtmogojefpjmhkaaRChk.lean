/- The document's verb.Check, Stripes and what else the laws on commands call: their values. Conditions: rows and texts shorter than 2^62. -/
import Derived.Test.YtmogojefpjmhkaaChk
import Derived.Test.YtmogojefpjmhkaaFnv
namespace Go.Proofs.Ytmogojefpjmhkaa.Pl
open Go Go.RowKit Go.Proofs.Ytmogojefpjmhkaa.P Go.Proofs.Ytmogojefpjmhkaa.Lim Go.Proofs.YtmogojefpjmhkaaW.PrintWords

theorem rj13_eq (k : Int) (keys : List ByteArray) (fl ex : Int) (v : ByteArray) (cas del : Int) (q : Bool) (b : Bool) : tallboyref15_Check.j13L b k keys fl ex v cas del q = some (if b = true then (if v.size > 2000 then 7 else 0) else 6) := by
  rw [tallboyref15_Check.j13L_eq]
  cases b with
  | false => rfl
  | true =>
    by_cases h : v.size > 2000
    · rw [if_pos rfl, if_pos rfl, if_pos (by omega), if_pos h]
    · rw [if_pos rfl, if_pos rfl, if_neg (by omega), if_neg h]
theorem rreads_eq (k : Int) : tallboyref15_Reads.f k = some (decide (1 ≤ k ∧ k ≤ 4)) := by
  unfold tallboyref15_Reads.f
  by_cases h1 : k ≥ 1
  · rw [if_pos h1]
    congr 1
    exact decide_eq_decide.2 (by omega)
  · rw [if_neg h1, decide_eq_false (by omega)]
theorem rstores_eq (k : Int) : tallboyref15_Stores.f k = some (storesB k) := by
  unfold tallboyref15_Stores.f storesB
  by_cases h1 : k ≥ 5
  · rw [if_pos h1]
    congr 1
    exact decide_eq_decide.2 (by omega)
  · rw [if_neg h1, decide_eq_false (by omega)]
section
variable (k a0 : Int) (keys : List ByteArray) (fl ex : Int) (v : ByteArray) (cas del : Int) (q : Bool) (b : Bool)
theorem rj12_eq : tallboyref15_Check.j12L k b a0 keys fl ex v cas del q = tallboyref15_Check.j13L (b && (!decide (1 ≤ k ∧ k ≤ 4) || !q)) a0 keys fl ex v cas del q := by
  rw [tallboyref15_Check.j12L_eq, rreads_eq]
  generalize decide (1 ≤ k ∧ k ≤ 4) = c
  cases c <;> cases b <;> simp
theorem rj11_eq (c : Bool) : tallboyref15_Check.j11L k b c a0 keys fl ex v cas del q = tallboyref15_Check.j12L k (b && (!c || decide (del = 0))) a0 keys fl ex v cas del q := by
  rw [tallboyref15_Check.j11L_eq, show (del == 0) = decide (del = 0) from rfl]
  cases c <;> cases b <;> simp
theorem rj10_eq : tallboyref15_Check.j10L k b a0 keys fl ex v cas del q = tallboyref15_Check.j12L k (b && (decide (k = 12 ∨ k = 13) || decide (del = 0))) a0 keys fl ex v cas del q := by
  rw [tallboyref15_Check.j10L_eq, rj11_eq, rj11_eq]
  by_cases h : k = 12
  · rw [if_pos h, decide_eq_true (p := k = 12 ∨ k = 13) (by omega)]
    rfl
  · rw [if_neg h]
    congr 2
    by_cases h3 : k = 13 <;> simp [h3, h]
theorem rj9_eq : tallboyref15_Check.j9L k b a0 keys fl ex v cas del q = tallboyref15_Check.j10L k (b && (decide (k = 10) || decide (cas = 0))) a0 keys fl ex v cas del q := by
  rw [tallboyref15_Check.j9L_eq, show (cas == 0) = decide (cas = 0) from rfl]
  by_cases h : k = 10
  · rw [if_pos h, decide_eq_true h]
    simp
  · rw [if_neg h, decide_eq_false h]
    cases b <;> simp
theorem rj8_eq (c : Bool) : tallboyref15_Check.j8L k b c a0 keys fl ex v cas del q = tallboyref15_Check.j9L k (b && (c || decide (ex = 0))) a0 keys fl ex v cas del q := by
  rw [tallboyref15_Check.j8L_eq, show (ex == 0) = decide (ex = 0) from rfl]
  cases c <;> cases b <;> simp
theorem rj7_eq (c : Bool) : tallboyref15_Check.j7L k b c a0 keys fl ex v cas del q = tallboyref15_Check.j8L k b (c || decide (k = 3 ∨ k = 4 ∨ k = 14)) a0 keys fl ex v cas del q := by
  rw [tallboyref15_Check.j7L_eq, show (k == 14) = decide (k = 14) from rfl]
  cases c with
  | true => simp
  | false =>
    rw [if_neg (by decide), Bool.false_or]
    by_cases h3 : k = 3
    · rw [if_pos h3, decide_eq_true (p := k = 3 ∨ k = 4 ∨ k = 14) (by omega)]
    · rw [if_neg h3]
      by_cases h4 : k = 4
      · rw [if_pos h4, decide_eq_true (p := k = 3 ∨ k = 4 ∨ k = 14) (by omega)]
      · rw [if_neg h4]
        congr 1
        exact decide_eq_decide.2 (by omega)
theorem rj6_eq (c : Bool) : tallboyref15_Check.j6L k b c a0 keys fl ex v cas del q = tallboyref15_Check.j7L k (b && (c || decide (fl = 0))) c a0 keys fl ex v cas del q := by
  rw [tallboyref15_Check.j6L_eq, show (fl == 0) = decide (fl = 0) from rfl]
  cases c <;> cases b <;> simp
theorem rj5_eq : tallboyref15_Check.j5L k b a0 keys fl ex v cas del q = tallboyref15_Check.j6L k b (wholeB k) a0 keys fl ex v cas del q := by
  rw [tallboyref15_Check.j5L_eq, rstores_eq, Option.bind_some]
  unfold storesB wholeB
  by_cases h : 5 ≤ k ∧ k ≤ 10
  · rw [decide_eq_true h, if_pos rfl]
    by_cases h8 : k = 8
    · rw [if_pos h8, decide_eq_false (p := k = 5 ∨ k = 6 ∨ k = 7 ∨ k = 10) (by omega)]
    · rw [if_neg h8]
      congr 1
      rw [Bool.eq_iff_iff]
      simp
      omega
  · rw [decide_eq_false h, if_neg (by decide), decide_eq_false (p := k = 5 ∨ k = 6 ∨ k = 7 ∨ k = 10) (by omega)]
theorem rj4L_eq : tallboyref15_Check.j4L k b a0 keys fl ex v cas del q = tallboyref15_Check.j5L k (b && (storesB k || decide (v = ByteArray.empty))) a0 keys fl ex v cas del q := by
  have hv : (v.toList == ([] : List UInt8)) = decide (v = ByteArray.empty) := by
    rw [Bool.eq_iff_iff]
    simp only [beq_iff_eq, decide_eq_true_eq, toList_nil]
    exact ByteArray.size_eq_zero_iff
  rw [tallboyref15_Check.j4L_eq, rstores_eq, Option.bind_some, hv]
  generalize storesB k = c
  cases c <;> cases b <;> simp
theorem rj4_eq : tallboyref15_Check.j4L k b k keys fl ex v cas del q = some (if (fieldsB k fl ex v cas del q && b) = true then (if v.size > 2000 then 7 else 0) else 6) := by
  rw [rj4L_eq, rj5_eq, rj6_eq, rj7_eq, rj8_eq, rj9_eq, rj10_eq, rj12_eq, rj13_eq]
  have he : endsB k = (wholeB k || decide (k = 3 ∨ k = 4 ∨ k = 14)) := by
    unfold endsB wholeB
    rw [Bool.eq_iff_iff]
    simp
    omega
  unfold fieldsB
  rw [he]
  generalize wholeB k = c1
  generalize storesB k = c2
  generalize decide (k = 3 ∨ k = 4 ∨ k = 14) = c3
  generalize decide (k = 12 ∨ k = 13) = c4
  generalize decide (k = 10) = c5
  generalize decide (1 ≤ k ∧ k ≤ 4) = c6
  generalize decide (fl = 0) = e1
  generalize decide (ex = 0) = e2
  generalize decide (v = ByteArray.empty) = e3
  generalize decide (cas = 0) = e4
  generalize decide (del = 0) = e5
  have e : (((((((b && (c2 || e3)) && (c1 || e1)) && ((c1 || c3) || e2)) && (c5 || e4)) && (c4 || e5)) && (!c6 || !q))) = ((c1 || e1) && (c2 || e3) && (c1 || c3 || e2) && (c5 || e4) && (c4 || e5) && (!c6 || !q) && b) := by
    generalize (c2 || e3) = x1
    generalize (c1 || e1) = x2
    generalize (c1 || c3 || e2) = x3
    generalize (c5 || e4) = x4
    generalize (c4 || e5) = x5
    generalize (!c6 || !q) = x6
    cases b <;> cases x1 <;> cases x2 <;> cases x3 <;> cases x4 <;> cases x5 <;> cases x6 <;> rfl
  rw [e]
end

theorem rcheck_loop (k : Int) (keys : List ByteArray) (hn : keys.length ≤ 4611686018427387904) (a0 : Int) (a2 a3 : Int) (v : ByteArray) (a5 a6 : Int) (a7 : Bool) (d : Nat) : ∀ (i : Nat) (ok : Bool), i + d = keys.length →
    tallboyref15_Check.l0L k (keys.length : Int) ok (i : Int) a0 keys a2 a3 v a5 a6 a7 = tallboyref15_Check.j4L k (ok && (keys.drop i).all keyP) a0 keys a2 a3 v a5 a6 a7 := by
  induction d with
  | zero =>
    intro i ok hi
    rw [tallboyref15_Check.l0L_eq, if_neg (by omega), List.drop_eq_nil_of_le (by omega)]
    simp
  | succ d ih =>
    intro i ok hi
    rw [tallboyref15_Check.l0L_eq, if_pos (by omega)]
    cases ok with
    | false => rw [if_neg (by decide)]; rfl
    | true =>
      have hl : i < keys.length := by omega
      rw [if_pos rfl, if_pos (by omega), if_pos (by omega), rdOf_get _ _ i hl, rkey_eq, Option.bind_some, w64 (by omega) (by omega), List.drop_eq_getElem_cons hl, List.all_cons]
      rw [show ((i : Int) + 1) = ((i + 1 : Nat) : Int) by omega, ih (i + 1) _ (by omega)]
      simp

theorem rcheck_eq (k : Int) (keys : List ByteArray) (fl ex : Int) (v : ByteArray) (cas del : Int) (q : Bool) (hn : keys.length ≤ 4611686018427387904) : tallboyref15_Check.L k keys fl ex v cas del q = some (chk k keys fl ex v cas del q) := by
  rw [tallboyref15_Check.L_eq]
  unfold chk
  have hloop := fun ok => rcheck_loop k keys hn k fl ex v cas del q keys.length 0 ok (by omega)
  simp only [List.drop_zero, show ((0 : Nat) : Int) = 0 from rfl] at hloop
  by_cases hk : 1 ≤ k ∧ k ≤ 15
  · rw [if_pos hk, if_neg (by omega), decide_eq_false (by omega), tallboyref15_Check.j0L_eq, if_neg (by decide)]
    have hN : ∀ ok : Bool, ok = nOk k keys.length → tallboyref15_Check.j2L k (keys.length : Int) ok k keys fl ex v cas del q = tallboyref15_Check.j4L k (nOk k keys.length && keys.all keyP) k keys fl ex v cas del q := by
      intro ok h
      rw [tallboyref15_Check.j2L_eq, hloop, h]
    have h4 : ∀ b : Bool, tallboyref15_Check.j4L k b k keys fl ex v cas del q = some (if (fieldsB k fl ex v cas del q && b) = true then (if v.size > 2000 then 7 else 0) else 6) := fun b => rj4_eq k keys fl ex v cas del q b
    have goalN : ∀ ok : Bool, ok = nOk k keys.length → tallboyref15_Check.j2L k (keys.length : Int) ok k keys fl ex v cas del q = some (if (fieldsB k fl ex v cas del q && nOk k keys.length && keys.all keyP) = true then (if v.size > 2000 then 7 else 0) else 6) := by
      intro ok h
      rw [hN ok h, h4, Bool.and_assoc]
    rw [rreads_eq]
    simp only [Option.bind_some]
    unfold nOk at goalN ⊢
    by_cases h14 : 1 ≤ k ∧ k ≤ 4
    · rw [decide_eq_true h14]
      simp only [if_true, if_pos h14] at goalN ⊢
      by_cases h1 : (keys.length : Int) ≥ 1
      · rw [if_pos h1, tallboyref15_Check.j1L_eq, if_neg (by omega)]
        exact goalN _ (decide_eq_decide.2 (by omega))
      · rw [if_neg h1, tallboyref15_Check.j1L_eq, if_neg (by omega)]
        exact goalN _ (decide_eq_false (by omega)).symm
    · rw [decide_eq_false h14]
      simp only [if_neg h14] at goalN ⊢
      rw [if_neg (by decide), tallboyref15_Check.j1L_eq]
      by_cases h5 : k = 15
      · simp only [if_pos h5] at goalN ⊢
        exact goalN _ (Bool.eq_iff_iff.2 (by simp))
      · simp only [if_neg h5] at goalN ⊢
        exact goalN _ (Bool.eq_iff_iff.2 (by simp; omega))
  · rw [if_neg hk]
    by_cases h1 : k < 1
    · rw [if_pos h1, tallboyref15_Check.j0L_eq, if_pos rfl]
    · rw [if_neg h1, decide_eq_true (by omega), tallboyref15_Check.j0L_eq, if_pos rfl]

/-! ### Stripes -/
def stripesV (k : Int) (keys : List ByteArray) : List Int := ([0, 1, 2, 3] : List Int).filter fun s => decide (k = 15) || keys.any fun x => decide ((stripeOf x : Int) = s)

theorem mark_eq : ∀ (keys : List ByteArray) (bs : List Bool), bs.length = 4 → (∀ x ∈ keys, x.size ≤ 4611686018427387904) →
    ∃ cs, Lm (fun k => verb_Stripes.mark k bs keys) (some cs) ∧ cs.length = 4 ∧ ∀ s : Nat, s < 4 → cs.getD s false = (bs.getD s false || keys.any fun x => decide (stripeOf x = s))
  | [], bs, hb, _ => ⟨bs, Lm.const _, hb, fun s _ => by simp⟩
  | x :: xs, bs, hb, hx => by
    obtain ⟨cs, h1, h2, h3⟩ := mark_eq xs (bs.set (stripeOf x) true) (by simpa using hb) (fun y hy => hx y (by simp [hy]))
    refine ⟨cs, ?_, h2, fun s hs => ?_⟩
    · have hsum := fnv_Sum.Llm x
      rw [sum_eq x (hx x (by simp))] at hsum
      have h4 := Lm.bind (h := fun k n => (fnv_Stripe.f n).bind fun s => if 0 ≤ s ∧ s < 4 then verb_Stripes.mark k (bs.set s.toNat true) xs else none) (w := fun n => (fnv_Stripe.f n).bind fun s => if 0 ≤ s ∧ s < 4 then (if s = (stripeOf x : Int) then some cs else lim fun k => verb_Stripes.mark k (bs.set s.toNat true) xs) else none) hsum (fun n => Lm.bind (Lm.const _) (fun s => Lm.ite (by
        by_cases e : s = (stripeOf x : Int)
        · rw [if_pos e, e, Int.toNat_natCast]
          exact h1
        · rw [if_neg e]
          exact lim_spec (fun k => verb_Stripes.mono_mark k xs _)) (Lm.const _)))
      rw [Option.bind_some, stripe_eq _ (fnvSum_lt x), Option.bind_some] at h4
      have hs4 := stripe_lt x
      unfold stripeOf at h4 hs4
      rw [if_pos (by omega), if_pos rfl] at h4
      exact h4
    · rw [h3 s hs, List.any_cons]
      have hs4 := stripe_lt x
      by_cases e : stripeOf x = s
      · subst e
        rw [decide_eq_true rfl]
        simp [List.getD_eq_getElem?_getD, hb, hs4]
      · rw [decide_eq_false e]
        simp [List.getD_eq_getElem?_getD, e]

theorem stripes_eq (k : Int) (keys : List ByteArray) (fl ex : Int) (v : ByteArray) (cas del : Int) (q : Bool) (hx : ∀ x ∈ keys, x.size ≤ 4611686018427387904) : verb_Stripes.L k keys fl ex v cas del q = some (stripesV k keys) := by
  obtain ⟨cs, h1, h2, h3⟩ := mark_eq keys [false, false, false, false] rfl hx
  have h4 := Lm.bind (h := fun _ bs => some (verb_Stripes.upto bs k 4)) (w := fun bs => some (verb_Stripes.upto bs k 4)) h1 (fun _ => Lm.const _)
  rw [Lm.unique (verb_Stripes.Llm k keys fl ex v cas del q) h4, Option.bind_some]
  congr 1
  unfold verb_Stripes.upto stripesV
  apply List.filter_congr
  intro s hs
  have hs' : ∃ n : Nat, n < 4 ∧ s = n := by
    simp at hs
    rcases hs with rfl | rfl | rfl | rfl
    · exact ⟨0, by decide, rfl⟩
    · exact ⟨1, by decide, rfl⟩
    · exact ⟨2, by decide, rfl⟩
    · exact ⟨3, by decide, rfl⟩
  obtain ⟨n, hn, rfl⟩ := hs'
  rw [Int.toNat_natCast, h3 n hn]
  have e : ([false, false, false, false] : List Bool).getD n false = false := by
    match n, hn with
    | 0, _ => rfl
    | 1, _ => rfl
    | 2, _ => rfl
    | 3, _ => rfl
  rw [e, Bool.false_or, Bool.or_comm]
  congr 1
  congr 1
  funext x
  exact decide_eq_decide.2 (by omega)

theorem rstripes_in (keys : List ByteArray) (hn : keys.length ≤ 4611686018427387904) (hx : ∀ x ∈ keys, x.size ≤ 4611686018427387904) (l : List Int) (s : Int) (a0 a2 a3 : Int) (v : ByteArray) (a5 a6 : Int) (a7 : Bool) (d : Nat) : ∀ (i : Nat) (b : Bool), i + d = keys.length →
    tallboyref15_Stripes.l1L l s b (i : Int) a0 keys a2 a3 v a5 a6 a7 = (if (b || (keys.drop i).any fun x => decide ((stripeOf x : Int) = s)) = true then (if l.length < 17592186044416 then (tallboyref15_Stripes.l0L (l ++ [s]) (wrap64 (s + 1)) a0 keys a2 a3 v a5 a6 a7) else (none)) else (tallboyref15_Stripes.l0L l (wrap64 (s + 1)) a0 keys a2 a3 v a5 a6 a7)) := by
  induction d with
  | zero =>
    intro i b hi
    rw [tallboyref15_Stripes.l1L_eq, if_neg (by omega), List.drop_eq_nil_of_le (by omega)]
    simp
  | succ d ih =>
    intro i b hi
    have hl : i < keys.length := by omega
    rw [tallboyref15_Stripes.l1L_eq, if_pos (by omega), w64 (by omega) (by omega), show ((i : Int) + 1) = ((i + 1 : Nat) : Int) by omega]
    cases b with
    | true =>
      rw [if_pos rfl, ih (i + 1) true (by omega)]
      simp
    | false =>
      rw [if_neg (by decide), if_pos (by omega), rdOf_get _ _ i hl, rsum_eq _ (hx _ (List.getElem_mem hl)), Option.bind_some, rstripe_eq _ (fnvSum_lt _), Option.bind_some, ih (i + 1) _ (by omega), List.drop_eq_getElem_cons hl, List.any_cons]
      rfl

theorem rstripes_eq (k : Int) (keys : List ByteArray) (fl ex : Int) (v : ByteArray) (cas del : Int) (q : Bool) (hn : keys.length ≤ 4611686018427387904) (hx : ∀ x ∈ keys, x.size ≤ 4611686018427387904) : tallboyref15_Stripes.L k keys fl ex v cas del q = some (stripesV k keys) := by
  rw [tallboyref15_Stripes.L_eq]
  have hin := fun (l : List Int) (s : Int) (b : Bool) => rstripes_in keys hn hx l s k fl ex v cas del q keys.length 0 b (by omega)
  simp only [List.drop_zero, show ((0 : Nat) : Int) = 0 from rfl] at hin
  have hk : (k == 15) = decide (k = 15) := rfl
  have step : ∀ (l : List Int) (s : Int), 0 ≤ s → s < 4 → l.length < 10 → tallboyref15_Stripes.l0L l s k keys fl ex v cas del q = tallboyref15_Stripes.l0L (l ++ (if (decide (k = 15) || keys.any fun x => decide ((stripeOf x : Int) = s)) = true then [s] else [])) (s + 1) k keys fl ex v cas del q := by
    intro l s h0 h4 hl
    rw [tallboyref15_Stripes.l0L_eq, if_pos h4, hin, w64 (by omega) (by omega), hk]
    split
    · rw [if_pos (by omega)]
    · rw [List.append_nil]
  have fin : ∀ l : List Int, tallboyref15_Stripes.l0L l 4 k keys fl ex v cas del q = some l := by
    intro l
    rw [tallboyref15_Stripes.l0L_eq, if_neg (by decide)]
  have ln : ∀ (c : Bool) (s : Int), (if c = true then [s] else ([] : List Int)).length ≤ 1 := by intro c s; split <;> simp
  have l0 := ln (decide (k = 15) || keys.any fun x => decide ((stripeOf x : Int) = 0)) 0
  have l1 := ln (decide (k = 15) || keys.any fun x => decide ((stripeOf x : Int) = 1)) 1
  have l2 := ln (decide (k = 15) || keys.any fun x => decide ((stripeOf x : Int) = 2)) 2
  rw [step [] 0 (by decide) (by decide) (by simp), show (0 : Int) + 1 = 1 from rfl, step _ 1 (by decide) (by decide) (by simp only [List.length_append, List.length_nil]; omega), show (1 : Int) + 1 = 2 from rfl, step _ 2 (by decide) (by decide) (by simp only [List.length_append, List.length_nil]; omega), show (2 : Int) + 1 = 3 from rfl, step _ 3 (by decide) (by decide) (by simp only [List.length_append, List.length_nil]; omega), show (3 : Int) + 1 = 4 from rfl, fin]
  congr 1
  unfold stripesV
  simp only [List.filter_cons, List.filter_nil, List.nil_append]
  generalize (decide (k = 15) || keys.any fun x => decide ((stripeOf x : Int) = 0)) = c0
  generalize (decide (k = 15) || keys.any fun x => decide ((stripeOf x : Int) = 1)) = c1
  generalize (decide (k = 15) || keys.any fun x => decide ((stripeOf x : Int) = 2)) = c2
  generalize (decide (k = 15) || keys.any fun x => decide ((stripeOf x : Int) = 3)) = c3
  cases c0 <;> cases c1 <;> cases c2 <;> cases c3 <;> rfl

theorem stripesV_len (k : Int) (keys : List ByteArray) : (stripesV k keys).length ≤ 4 := by
  unfold stripesV
  exact Nat.le_trans (List.length_filter_le _ _) (by decide)

/-! ### Same rows of numbers -/
theorem same_loop (l m : List Int) (hl : l.length = m.length) (hn : l.length ≤ 4611686018427387904) (d : Nat) : ∀ i : Nat, i + d = l.length → tallboyref06_Same.l0L l m (i : Int) = some (decide (l.drop i = m.drop i)) := by
  induction d with
  | zero =>
    intro i hi
    rw [tallboyref06_Same.l0L_eq, if_neg (by omega), List.drop_eq_nil_of_le (by omega), List.drop_eq_nil_of_le (by omega)]
    simp
  | succ d ih =>
    intro i hi
    have h1 : i < l.length := by omega
    have h2 : i < m.length := by omega
    rw [tallboyref06_Same.l0L_eq, if_pos (by omega), if_pos (by omega), if_pos (by omega), w64 (by omega) (by omega), List.drop_eq_getElem_cons h1, List.drop_eq_getElem_cons h2]
    have e1 : rd l (i : Int) = l[i] := by unfold rd; rw [Int.toNat_natCast, List.getD_eq_getElem?_getD, List.getElem?_eq_getElem h1]; rfl
    have e2 : rd m (i : Int) = m[i] := by unfold rd; rw [Int.toNat_natCast, List.getD_eq_getElem?_getD, List.getElem?_eq_getElem h2]; rfl
    rw [e1, e2, show ((i : Int) + 1) = ((i + 1 : Nat) : Int) by omega, ih (i + 1) (by omega)]
    by_cases h : l[i] = m[i]
    · rw [if_pos h, h]
      congr 1
      exact decide_eq_decide.2 ⟨fun e => by rw [e], fun e => (List.cons.inj e).2⟩
    · rw [if_neg h, decide_eq_false (fun e => h (List.cons.inj e).1)]
theorem same_eq (l m : List Int) (hn : l.length ≤ 4611686018427387904) : tallboyref06_Same.L l m = some (decide (l = m)) := by
  rw [tallboyref06_Same.L_eq]
  by_cases h : l.length = m.length
  · rw [if_pos (by omega), show (0 : Int) = ((0 : Nat) : Int) from rfl, same_loop l m h hn l.length 0 (by omega)]
    rfl
  · rw [if_neg (by omega), decide_eq_false (fun e => h (by rw [e]))]

/-! ### Great -/
theorem great_loop (keys : List ByteArray) (hn : keys.length ≤ 4611686018427387904) (hx : ∀ x ∈ keys, x.size ≤ 140737488351232) (a0 a2 a3 : Int) (v : ByteArray) (a5 a6 : Int) (a7 : Bool) (d : Nat) : ∀ (i m : Nat), i + d = keys.length → m ≤ 140737488361232 →
    ∃ g, tallboylaw15_Great.l0L (m : Int) (i : Int) a0 keys a2 a3 v a5 a6 a7 = some g ∧ (g = false → keys.length ≤ 100 ∧ m < 10000 ∧ ∀ x ∈ keys.drop i, x.size < 10000) := by
  induction d with
  | zero =>
    intro i m hi hm
    rw [tallboylaw15_Great.l0L_eq, if_neg (by omega)]
    by_cases h : (m : Int) ≥ 10000
    · exact ⟨true, by rw [if_pos h], fun h => by cases h⟩
    · refine ⟨_, by rw [if_neg h], fun h2 => ?_⟩
      have := of_decide_eq_false h2
      exact ⟨by omega, by omega, by rw [List.drop_eq_nil_of_le (by omega)]; intro x hx; simp at hx⟩
  | succ d ih =>
    intro i m hi hm
    have hl : i < keys.length := by omega
    rw [tallboylaw15_Great.l0L_eq, if_pos (by omega)]
    by_cases h : (m : Int) < 10000
    · rw [if_pos h, if_pos (by omega), rdOf_get _ _ i hl]
      have hs := hx _ (List.getElem_mem hl)
      rw [w64 (by omega) (by omega), w64 (by omega) (by omega), show ((i : Int) + 1) = ((i + 1 : Nat) : Int) by omega, show ((m : Int) + (keys[i].size : Int)) = ((m + keys[i].size : Nat) : Int) by omega]
      obtain ⟨g, hg, hf⟩ := ih (i + 1) (m + keys[i].size) (by omega) (by omega)
      refine ⟨g, hg, fun h2 => ?_⟩
      obtain ⟨f1, f2, f3⟩ := hf h2
      refine ⟨f1, by omega, ?_⟩
      rw [List.drop_eq_getElem_cons hl]
      intro x hx'
      rcases List.mem_cons.1 hx' with rfl | hx'
      · omega
      · exact f3 x hx'
    · exact ⟨true, by rw [if_neg h, if_pos (by omega)], fun h => by cases h⟩

theorem great_eq (k : Int) (keys : List ByteArray) (fl ex : Int) (v : ByteArray) (cas del : Int) (q : Bool) (hn : keys.length ≤ 4611686018427387904) (hx : ∀ x ∈ keys, x.size ≤ 140737488351232) (hv : v.size ≤ 140737488351232) :
    ∃ g, tallboylaw15_Great.L k keys fl ex v cas del q = some g ∧ (g = false → keys.length ≤ 100 ∧ v.size < 10000 ∧ ∀ x ∈ keys, x.size < 10000) := by
  rw [tallboylaw15_Great.L_eq]
  exact great_loop keys hn hx k fl ex v cas del q keys.length 0 v.size (by omega) (by omega)

theorem own_eq (k : Int) (keys : List ByteArray) (fl ex : Int) (v : ByteArray) (cas del : Int) (q : Bool) (h : keys.length ≤ 100) : tallboylaw15_Own.f k keys fl ex v cas del q = some (k, keys, fl, ex, v, cas, del, q) := by
  unfold tallboylaw15_Own.f
  simp only [Option.bind_some, List.nil_append, List.length_nil, Nat.zero_add]
  rw [if_pos (by omega)]
end Go.Proofs.Ytmogojefpjmhkaa.Pl
