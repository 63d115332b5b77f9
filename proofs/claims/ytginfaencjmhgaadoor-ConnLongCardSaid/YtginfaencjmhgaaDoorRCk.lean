/- The document's verb.Check and what else the laws on commands call: their values. Conditions: rows and texts shorter than 2^62. -/
import Derived.Test.YtginfaencjmhgaaDoorChk
namespace Go.Proofs.YtginfaencjmhgaaDoor.Pl
open Go Go.RowKit Go.Proofs.YtginfaencjmhgaaDoor.P Go.Proofs.YtginfaencjmhgaaDoor.Lim Go.Proofs.YtginfaencjmhgaaDoorW.PrintWords

theorem rj13_eq (k : Int) (keys : List ByteArray) (fl ex : Int) (v : ByteArray) (cas del : Int) (q : Bool) (b : Bool) : tallboyref15_Check.j13L b k keys fl ex v cas del q = some (if b = true then (if v.size > 2000 then 7 else 0) else 6) := by
  rw [tallboyref15_Check.j13L_eq]
  cases b with
  | false => rfl
  | true =>
    by_cases h : v.size > 2000
    · rw [if_pos rfl, if_pos rfl, if_pos (by omega), if_pos h]
    · rw [if_pos rfl, if_pos rfl, if_neg (by omega), if_neg h]
theorem rreads_d (k : Int) : tallboyref15_Reads.f k = some (decide (1 ≤ k ∧ k ≤ 4)) := by
  unfold tallboyref15_Reads.f
  by_cases h1 : k ≥ 1
  · rw [if_pos h1]
    congr 1
    exact decide_eq_decide.2 (by omega)
  · rw [if_neg h1, decide_eq_false (by omega)]
theorem rstores_eq (k : Int) : tallboyref15_Stores.f k = some (storesB k) := by
  unfold tallboyref15_Stores.f storesB
  by_cases h1 : k ≥ 5
  · rw [if_pos h1]
    congr 1
    exact decide_eq_decide.2 (by omega)
  · rw [if_neg h1, decide_eq_false (by omega)]
section
variable (k a0 : Int) (keys : List ByteArray) (fl ex : Int) (v : ByteArray) (cas del : Int) (q : Bool) (b : Bool)
theorem rj12_eq : tallboyref15_Check.j12L k b a0 keys fl ex v cas del q = tallboyref15_Check.j13L (b && (!decide (1 ≤ k ∧ k ≤ 4) || !q)) a0 keys fl ex v cas del q := by
  rw [tallboyref15_Check.j12L_eq, rreads_d]
  generalize decide (1 ≤ k ∧ k ≤ 4) = c
  cases c <;> cases b <;> simp
theorem rj11_eq (c : Bool) : tallboyref15_Check.j11L k b c a0 keys fl ex v cas del q = tallboyref15_Check.j12L k (b && (!c || decide (del = 0))) a0 keys fl ex v cas del q := by
  rw [tallboyref15_Check.j11L_eq, show (del == 0) = decide (del = 0) from rfl]
  cases c <;> cases b <;> simp
theorem rj10_eq : tallboyref15_Check.j10L k b a0 keys fl ex v cas del q = tallboyref15_Check.j12L k (b && (decide (k = 12 ∨ k = 13) || decide (del = 0))) a0 keys fl ex v cas del q := by
  rw [tallboyref15_Check.j10L_eq, rj11_eq, rj11_eq]
  by_cases h : k = 12
  · rw [if_pos h, decide_eq_true (p := k = 12 ∨ k = 13) (by omega)]
    rfl
  · rw [if_neg h]
    congr 2
    by_cases h3 : k = 13 <;> simp [h3, h]
theorem rj9_eq : tallboyref15_Check.j9L k b a0 keys fl ex v cas del q = tallboyref15_Check.j10L k (b && (decide (k = 10) || decide (cas = 0))) a0 keys fl ex v cas del q := by
  rw [tallboyref15_Check.j9L_eq, show (cas == 0) = decide (cas = 0) from rfl]
  by_cases h : k = 10
  · rw [if_pos h, decide_eq_true h]
    simp
  · rw [if_neg h, decide_eq_false h]
    cases b <;> simp
theorem rj8_eq (c : Bool) : tallboyref15_Check.j8L k b c a0 keys fl ex v cas del q = tallboyref15_Check.j9L k (b && (c || decide (ex = 0))) a0 keys fl ex v cas del q := by
  rw [tallboyref15_Check.j8L_eq, show (ex == 0) = decide (ex = 0) from rfl]
  cases c <;> cases b <;> simp
theorem rj7_eq (c : Bool) : tallboyref15_Check.j7L k b c a0 keys fl ex v cas del q = tallboyref15_Check.j8L k b (c || decide (k = 3 ∨ k = 4 ∨ k = 14)) a0 keys fl ex v cas del q := by
  rw [tallboyref15_Check.j7L_eq, show (k == 14) = decide (k = 14) from rfl]
  cases c with
  | true => simp
  | false =>
    rw [if_neg (by decide), Bool.false_or]
    by_cases h3 : k = 3
    · rw [if_pos h3, decide_eq_true (p := k = 3 ∨ k = 4 ∨ k = 14) (by omega)]
    · rw [if_neg h3]
      by_cases h4 : k = 4
      · rw [if_pos h4, decide_eq_true (p := k = 3 ∨ k = 4 ∨ k = 14) (by omega)]
      · rw [if_neg h4]
        congr 1
        exact decide_eq_decide.2 (by omega)
theorem rj6_eq (c : Bool) : tallboyref15_Check.j6L k b c a0 keys fl ex v cas del q = tallboyref15_Check.j7L k (b && (c || decide (fl = 0))) c a0 keys fl ex v cas del q := by
  rw [tallboyref15_Check.j6L_eq, show (fl == 0) = decide (fl = 0) from rfl]
  cases c <;> cases b <;> simp
theorem rj5_eq : tallboyref15_Check.j5L k b a0 keys fl ex v cas del q = tallboyref15_Check.j6L k b (wholeB k) a0 keys fl ex v cas del q := by
  rw [tallboyref15_Check.j5L_eq, rstores_eq, Option.bind_some]
  unfold storesB wholeB
  by_cases h : 5 ≤ k ∧ k ≤ 10
  · rw [decide_eq_true h, if_pos rfl]
    by_cases h8 : k = 8
    · rw [if_pos h8, decide_eq_false (p := k = 5 ∨ k = 6 ∨ k = 7 ∨ k = 10) (by omega)]
    · rw [if_neg h8]
      congr 1
      rw [Bool.eq_iff_iff]
      simp
      omega
  · rw [decide_eq_false h, if_neg (by decide), decide_eq_false (p := k = 5 ∨ k = 6 ∨ k = 7 ∨ k = 10) (by omega)]
theorem rj4L_eq : tallboyref15_Check.j4L k b a0 keys fl ex v cas del q = tallboyref15_Check.j5L k (b && (storesB k || decide (v = ByteArray.empty))) a0 keys fl ex v cas del q := by
  have hv : (v.toList == ([] : List UInt8)) = decide (v = ByteArray.empty) := by
    rw [Bool.eq_iff_iff]
    simp only [beq_iff_eq, decide_eq_true_eq, toList_nil]
    exact ByteArray.size_eq_zero_iff
  rw [tallboyref15_Check.j4L_eq, rstores_eq, Option.bind_some, hv]
  generalize storesB k = c
  cases c <;> cases b <;> simp
theorem rj4_eq : tallboyref15_Check.j4L k b k keys fl ex v cas del q = some (if (fieldsB k fl ex v cas del q && b) = true then (if v.size > 2000 then 7 else 0) else 6) := by
  rw [rj4L_eq, rj5_eq, rj6_eq, rj7_eq, rj8_eq, rj9_eq, rj10_eq, rj12_eq, rj13_eq]
  have he : endsB k = (wholeB k || decide (k = 3 ∨ k = 4 ∨ k = 14)) := by
    unfold endsB wholeB
    rw [Bool.eq_iff_iff]
    simp
    omega
  unfold fieldsB
  rw [he]
  generalize wholeB k = c1
  generalize storesB k = c2
  generalize decide (k = 3 ∨ k = 4 ∨ k = 14) = c3
  generalize decide (k = 12 ∨ k = 13) = c4
  generalize decide (k = 10) = c5
  generalize decide (1 ≤ k ∧ k ≤ 4) = c6
  generalize decide (fl = 0) = e1
  generalize decide (ex = 0) = e2
  generalize decide (v = ByteArray.empty) = e3
  generalize decide (cas = 0) = e4
  generalize decide (del = 0) = e5
  have e : (((((((b && (c2 || e3)) && (c1 || e1)) && ((c1 || c3) || e2)) && (c5 || e4)) && (c4 || e5)) && (!c6 || !q))) = ((c1 || e1) && (c2 || e3) && (c1 || c3 || e2) && (c5 || e4) && (c4 || e5) && (!c6 || !q) && b) := by
    generalize (c2 || e3) = x1
    generalize (c1 || e1) = x2
    generalize (c1 || c3 || e2) = x3
    generalize (c5 || e4) = x4
    generalize (c4 || e5) = x5
    generalize (!c6 || !q) = x6
    cases b <;> cases x1 <;> cases x2 <;> cases x3 <;> cases x4 <;> cases x5 <;> cases x6 <;> rfl
  rw [e]
end

theorem rcheck_loop (k : Int) (keys : List ByteArray) (hn : keys.length ≤ 4611686018427387904) (a0 : Int) (a2 a3 : Int) (v : ByteArray) (a5 a6 : Int) (a7 : Bool) (d : Nat) : ∀ (i : Nat) (ok : Bool), i + d = keys.length →
    tallboyref15_Check.l0L k (keys.length : Int) ok (i : Int) a0 keys a2 a3 v a5 a6 a7 = tallboyref15_Check.j4L k (ok && (keys.drop i).all keyP) a0 keys a2 a3 v a5 a6 a7 := by
  induction d with
  | zero =>
    intro i ok hi
    rw [tallboyref15_Check.l0L_eq, if_neg (by omega), List.drop_eq_nil_of_le (by omega)]
    simp
  | succ d ih =>
    intro i ok hi
    rw [tallboyref15_Check.l0L_eq, if_pos (by omega)]
    cases ok with
    | false => rw [if_neg (by decide)]; rfl
    | true =>
      have hl : i < keys.length := by omega
      rw [if_pos rfl, if_pos (by omega), if_pos (by omega), rdOf_get _ _ i hl, rkey_eq, Option.bind_some, w64 (by omega) (by omega), List.drop_eq_getElem_cons hl, List.all_cons]
      rw [show ((i : Int) + 1) = ((i + 1 : Nat) : Int) by omega, ih (i + 1) _ (by omega)]
      simp

theorem rcheck_eq (k : Int) (keys : List ByteArray) (fl ex : Int) (v : ByteArray) (cas del : Int) (q : Bool) (hn : keys.length ≤ 4611686018427387904) : tallboyref15_Check.L k keys fl ex v cas del q = some (chk k keys fl ex v cas del q) := by
  rw [tallboyref15_Check.L_eq]
  unfold chk
  have hloop := fun ok => rcheck_loop k keys hn k fl ex v cas del q keys.length 0 ok (by omega)
  simp only [List.drop_zero, show ((0 : Nat) : Int) = 0 from rfl] at hloop
  by_cases hk : 1 ≤ k ∧ k ≤ 15
  · rw [if_pos hk, if_neg (by omega), decide_eq_false (by omega), tallboyref15_Check.j0L_eq, if_neg (by decide)]
    have hN : ∀ ok : Bool, ok = nOk k keys.length → tallboyref15_Check.j2L k (keys.length : Int) ok k keys fl ex v cas del q = tallboyref15_Check.j4L k (nOk k keys.length && keys.all keyP) k keys fl ex v cas del q := by
      intro ok h
      rw [tallboyref15_Check.j2L_eq, hloop, h]
    have h4 : ∀ b : Bool, tallboyref15_Check.j4L k b k keys fl ex v cas del q = some (if (fieldsB k fl ex v cas del q && b) = true then (if v.size > 2000 then 7 else 0) else 6) := fun b => rj4_eq k keys fl ex v cas del q b
    have goalN : ∀ ok : Bool, ok = nOk k keys.length → tallboyref15_Check.j2L k (keys.length : Int) ok k keys fl ex v cas del q = some (if (fieldsB k fl ex v cas del q && nOk k keys.length && keys.all keyP) = true then (if v.size > 2000 then 7 else 0) else 6) := by
      intro ok h
      rw [hN ok h, h4, Bool.and_assoc]
    rw [rreads_d]
    simp only [Option.bind_some]
    unfold nOk at goalN ⊢
    by_cases h14 : 1 ≤ k ∧ k ≤ 4
    · rw [decide_eq_true h14]
      simp only [if_true, if_pos h14] at goalN ⊢
      by_cases h1 : (keys.length : Int) ≥ 1
      · rw [if_pos h1, tallboyref15_Check.j1L_eq, if_neg (by omega)]
        exact goalN _ (decide_eq_decide.2 (by omega))
      · rw [if_neg h1, tallboyref15_Check.j1L_eq, if_neg (by omega)]
        exact goalN _ (decide_eq_false (by omega)).symm
    · rw [decide_eq_false h14]
      simp only [if_neg h14] at goalN ⊢
      rw [if_neg (by decide), tallboyref15_Check.j1L_eq]
      by_cases h5 : k = 15
      · simp only [if_pos h5] at goalN ⊢
        exact goalN _ (Bool.eq_iff_iff.2 (by simp))
      · simp only [if_neg h5] at goalN ⊢
        exact goalN _ (Bool.eq_iff_iff.2 (by simp; omega))
  · rw [if_neg hk]
    by_cases h1 : k < 1
    · rw [if_pos h1, tallboyref15_Check.j0L_eq, if_pos rfl]
    · rw [if_neg h1, decide_eq_true (by omega), tallboyref15_Check.j0L_eq, if_pos rfl]

end Go.Proofs.YtginfaencjmhgaaDoor.Pl
