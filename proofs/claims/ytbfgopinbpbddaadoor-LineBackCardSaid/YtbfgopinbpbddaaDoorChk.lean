/- What is wrong with a command: the program's verb.Check and the document's agree, on every command. No condition but a row's length below 2^62. -/
import Derived.Test.YtbfgopinbpbddaaDoorKey
namespace Go.Proofs.YtbfgopinbpbddaaDoor.Pl
open Go Go.RowKit Go.Proofs.YtbfgopinbpbddaaDoor.P Go.Proofs.YtbfgopinbpbddaaDoor.Lim Go.Proofs.YtbfgopinbpbddaaDoorW.PrintWords

theorem clo_eq (s : ByteArray) : verb_Check_1.L s = some (!keyP s) := by
  rw [verb_Check_1.L_eq, key_eq]
  rfl
theorem cf_go : ∀ (l : List ByteArray) (i : Int), 0 ≤ i → ∃ r, Lm (fun k => slices_ContainsFunc_string_string.go k l i) (some r) ∧ (decide (0 ≤ r) = l.any fun s => !keyP s)
  | [], i, _ => ⟨-1, Lm.const _, rfl⟩
  | x :: xs, i, h => by
    obtain ⟨r, hr, e⟩ := cf_go xs (i + 1) (by omega)
    have h1 := verb_Check_1.Llm x
    rw [clo_eq] at h1
    by_cases hk : (!keyP x) = true
    · refine ⟨i, ?_, ?_⟩
      · have h2 := Lm.bind (h := fun k b => if b = true then some i else slices_ContainsFunc_string_string.go k xs (i + 1)) (w := fun b => if b = true then some i else some r) h1 (fun b => Lm.ite (Lm.const _) hr)
        simp only [Option.bind_some, if_pos hk] at h2
        exact h2
      · rw [List.any_cons, hk, decide_eq_true h]
        rfl
    · refine ⟨r, ?_, ?_⟩
      · have h2 := Lm.bind (h := fun k b => if b = true then some i else slices_ContainsFunc_string_string.go k xs (i + 1)) (w := fun b => if b = true then some i else some r) h1 (fun b => Lm.ite (Lm.const _) hr)
        simp only [Option.bind_some, if_neg hk] at h2
        exact h2
      · rw [List.any_cons, Bool.not_eq_true _ |>.mp hk, e]
        rfl
theorem cf_eq (l : List ByteArray) : slices_ContainsFunc_string_string.L l = some (l.any fun s => !keyP s) := by
  obtain ⟨r, hr, e⟩ := cf_go l 0 (Int.le_refl _)
  have h1 := Lm.bind (h := fun _ i => some (decide (0 ≤ i))) (w := fun i => some (decide (0 ≤ i))) hr (fun _ => Lm.const _)
  rw [← e]
  exact Lm.unique (slices_ContainsFunc_string_string.Llm l) h1

def nOk (k : Int) (n : Nat) : Bool := if 1 ≤ k ∧ k ≤ 4 then decide (1 ≤ n ∧ n ≤ 8) else if k = 15 then decide (n = 0) else decide (n = 1)
def storesB (k : Int) : Bool := decide (5 ≤ k ∧ k ≤ 10)
def wholeB (k : Int) : Bool := decide (k = 5 ∨ k = 6 ∨ k = 7 ∨ k = 10)
def endsB (k : Int) : Bool := decide (k = 3 ∨ k = 4 ∨ k = 5 ∨ k = 6 ∨ k = 7 ∨ k = 10 ∨ k = 14)
/-- A command's fields are those of its kind. -/
def fieldsB (k fl ex : Int) (v : ByteArray) (cas del : Int) (q : Bool) : Bool :=
  (wholeB k || decide (fl = 0)) && (storesB k || decide (v = ByteArray.empty)) && (endsB k || decide (ex = 0)) && (decide (k = 10) || decide (cas = 0)) && (decide (k = 12 ∨ k = 13) || decide (del = 0)) && (!decide (1 ≤ k ∧ k ≤ 4) || !q)
def chk (k : Int) (keys : List ByteArray) (fl ex : Int) (v : ByteArray) (cas del : Int) (q : Bool) : Int :=
  if 1 ≤ k ∧ k ≤ 15 then (if (fieldsB k fl ex v cas del q && nOk k keys.length && keys.all keyP) = true then (if v.size > 2000 then 7 else 0) else 6) else 70

theorem keys_any (l : List ByteArray) : (l.any fun s => !keyP s) = !(l.all keyP) := by
  induction l with
  | nil => rfl
  | cons x xs ih => rw [List.any_cons, List.all_cons, ih, Bool.not_and]

/-- What is left behind the fields: the keys, then the value's length. -/
def rest (same : Bool) (k : Int) (keys : List ByteArray) (v : ByteArray) : Int := if (same && nOk k keys.length && keys.all keyP) = true then (if v.size > 2000 then 7 else 0) else 6

theorem j9_eq (x : Bool) (a0 : Int) (l : List ByteArray) (a2 a3 : Int) (v : ByteArray) (a5 a6 : Int) (a7 : Bool) : verb_Check.j9L x a0 l a2 a3 v a5 a6 a7 = some (if x = true then 6 else if v.size > 2000 then 7 else 0) := by
  rw [verb_Check.j9L_eq]
  cases x with
  | true => rfl
  | false =>
    show (if (v.size : Int) > 2000 then some 7 else some 0) = some (if v.size > 2000 then (7 : Int) else 0)
    by_cases h : v.size > 2000
    · rw [if_pos (by omega), if_pos h]
    · rw [if_neg (by omega), if_neg h]

theorem keysN (k : Int) (n : Nat) : verb_keys.f k (n : Int) = some (nOk k n) := by
  have hr : verb_reads.f k = some (decide (1 ≤ k ∧ k ≤ 4)) := by
    unfold verb_reads.f
    by_cases h1 : k ≥ 1
    · rw [if_pos h1]
      congr 1
      exact decide_eq_decide.2 (by omega)
    · rw [if_neg h1, decide_eq_false (by omega)]
  unfold verb_keys.f nOk
  rw [hr]
  simp only [Option.bind_some]
  by_cases h14 : 1 ≤ k ∧ k ≤ 4
  · rw [decide_eq_true h14]
    simp only [if_true, if_pos h14]
    by_cases hn : (n : Int) ≥ 1
    · rw [if_pos hn]
      congr 1
      exact decide_eq_decide.2 (by omega)
    · rw [if_neg hn, decide_eq_false (by omega)]
  · rw [decide_eq_false h14]
    simp only [if_neg h14]
    by_cases h5 : k = 15
    · simp only [if_pos h5]
      rw [Bool.eq_iff_iff.2 (show ((n : Int) == 0) = true ↔ decide (n = 0) = true by simp)]
      rfl
    · simp only [if_neg h5]
      rw [Bool.eq_iff_iff.2 (show ((n : Int) == 1) = true ↔ decide (n = 1) = true by simp; omega)]
      rfl

theorem j8_eq (k : Int) (same : Bool) (a0 : Int) (l : List ByteArray) (a2 a3 : Int) (v : ByteArray) (a5 a6 : Int) (a7 : Bool) : verb_Check.j8L k same a0 l a2 a3 v a5 a6 a7 = some (rest same k l v) := by
  rw [verb_Check.j8L_eq, keysN, cf_eq, keys_any]
  unfold rest
  cases same with
  | false => rw [if_neg (by decide), j9_eq]; rfl
  | true =>
    rw [if_pos rfl]
    simp only [Option.bind_some]
    cases hn : nOk k l.length with
    | false => rw [if_neg (by decide), j9_eq]; rfl
    | true =>
      rw [if_pos rfl, j9_eq]
      cases l.all keyP <;> rfl

theorem j7_eq (k a0 : Int) (l : List ByteArray) (a2 a3 : Int) (v : ByteArray) (a5 a6 : Int) (a7 : Bool) (b0 : Int) (m : List ByteArray) (b2 b3 : Int) (u : ByteArray) (b5 b6 : Int) (b7 : Bool) :
    verb_Check.j7L k a0 l a2 a3 v a5 a6 a7 b0 m b2 b3 u b5 b6 b7 = some (rest (decide (b2 = a2) && decide (u = v) && decide (b3 = a3) && decide (b5 = a5) && decide (b6 = a6) && (b7 == a7)) k l v) := by
  rw [verb_Check.j7L_eq]
  simp only [j8_eq, toList_inj]
  by_cases h2 : b2 = a2 <;> by_cases h4 : u = v <;> by_cases h3 : b3 = a3 <;> by_cases h5 : b5 = a5 <;> by_cases h6 : b6 = a6 <;> simp [h2, h3, h4, h5, h6]

theorem empty_eq (v : ByteArray) : (⟨#[]⟩ : ByteArray) = v ↔ v = ByteArray.empty := ⟨fun h => h ▸ rfl, fun h => h ▸ rfl⟩

theorem check_eq (k : Int) (keys : List ByteArray) (fl ex : Int) (v : ByteArray) (cas del : Int) (q : Bool) : verb_Check.L k keys fl ex v cas del q = some (chk k keys fl ex v cas del q) := by
  rw [verb_Check.L_eq]
  unfold chk
  by_cases hk : 1 ≤ k ∧ k ≤ 15
  · rw [if_pos hk]
    have hr : ∀ same : Bool, same = fieldsB k fl ex v cas del q → some (rest same k keys v) = some (if (fieldsB k fl ex v cas del q && nOk k keys.length && keys.all keyP) = true then (if v.size > 2000 then 7 else 0) else 6) := by
      intro same h
      rw [h]
      rfl
    have h15 : k = 1 ∨ k = 2 ∨ k = 3 ∨ k = 4 ∨ k = 5 ∨ k = 6 ∨ k = 7 ∨ k = 8 ∨ k = 9 ∨ k = 10 ∨ k = 11 ∨ k = 12 ∨ k = 13 ∨ k = 14 ∨ k = 15 := by omega
    rcases h15 with rfl | rfl | rfl | rfl | rfl | rfl | rfl | rfl | rfl | rfl | rfl | rfl | rfl | rfl | rfl <;>
      (conv => lhs; simp [verb_kind.f, verb_Stores.f, verb_ends.L_eq, verb_ends.j0L_eq, verb_reads.f, verb_Check.j0L_eq, verb_Check.j1L_eq, verb_Check.j2L_eq, verb_Check.j3L_eq, verb_Check.j4L_eq, verb_Check.j5L_eq, verb_Check.j6L_eq, j7_eq]
       refine hr _ ?_
       simp [fieldsB, storesB, wholeB, endsB, empty_eq, eq_comm (a := (0 : Int))])
  · rw [if_neg hk]
    unfold verb_kind.f
    by_cases h1 : k ≥ 1
    · rw [if_pos h1]
      simp only [Option.bind_some]
      rw [if_neg (by simp; omega)]
    · rw [if_neg h1]
      rfl
end Go.Proofs.YtbfgopinbpbddaaDoor.Pl
