/- The line that asks for a command, by the program and by the document: both are a name and words behind single blanks. Plain Lean; conditions: bounds that each theorem names. -/
import Derived.Test.YtbfgopinbpbddaaDoorRCk
import Derived.Test.YtbfgopinbpbddaaDoorDg2
import Derived.Test.YtbfgopinbpbddaaDoorLmW
import Derived.Lib.ItoaLen
namespace Go.Proofs.YtbfgopinbpbddaaDoor.Pl
open Go Go.RowKit Go.Proofs.YtbfgopinbpbddaaDoor.P Go.Proofs.YtbfgopinbpbddaaDoor.Lim Go.Proofs.YtbfgopinbpbddaaDoorW.PrintWords
set_option linter.unusedSimpArgs false
def bl : ByteArray := ⟨#[32]⟩
def nrp : ByteArray := ⟨#[110, 111, 114, 101, 112, 108, 121]⟩
def tl (s : ByteArray) (ws : List ByteArray) : ByteArray := ws.foldl (fun a x => (a ++ bl) ++ x) s
theorem tl_nil (s : ByteArray) : tl s [] = s := rfl
theorem tl_cons (s x : ByteArray) (ws : List ByteArray) : tl s (x :: ws) = tl ((s ++ bl) ++ x) ws := rfl
theorem tl_data (ws : List ByteArray) : ∀ s : ByteArray, (tl s ws).data.toList = s.data.toList ++ Lib.joinTail [32] (ws.map (·.data.toList)) := by
  induction ws with
  | nil => intro s; simp [tl, Lib.joinTail]
  | cons x xs ih =>
    intro s
    rw [tl_cons, ih, ByteArray.data_append, ByteArray.data_append, Array.toList_append, Array.toList_append]
    simp [Lib.joinTail, bl]
theorem tl_join (s : ByteArray) (ws : List ByteArray) : (⟨(Lib.join ((s :: ws).map (·.data.toList)) [32]).toArray⟩ : ByteArray) = tl s ws := by
  apply ba_ext
  rw [tl_data, List.map_cons, Lib.join_cons]
theorem tl_size (ws : List ByteArray) : ∀ s : ByteArray, (∀ x ∈ ws, x.size ≤ 40) → (tl s ws).size ≤ s.size + 41 * ws.length := by
  induction ws with
  | nil => intro s _; simp [tl]
  | cons x xs ih =>
    intro s h
    rw [tl_cons]
    have h1 := ih ((s ++ bl) ++ x) (fun y hy => h y (List.mem_cons_of_mem _ hy))
    have h2 := h x List.mem_cons_self
    have h3 : bl.size = 1 := rfl
    rw [ByteArray.size_append, ByteArray.size_append] at h1
    rw [List.length_cons]
    omega
theorem join_eq (s : ByteArray) (ws : List ByteArray) (h1 : ws.length ≤ 1000) (hs : s.size ≤ 1000) (h2 : ∀ x ∈ ws, x.size ≤ 40) : strings_Join.f (s :: ws) bl = some (tl s ws) := by
  unfold strings_Join.f
  have hz := tl_size ws s h2
  have e := tl_join s ws
  have hlen : (Lib.join ((s :: ws).map (·.data.toList)) [32]).length = (tl s ws).size := by
    rw [← e]
    simp [ByteArray.size]
  rw [show bl.data.toList = [32] from rfl, hlen, if_pos ⟨by rw [List.length_cons]; omega, by omega⟩, e]
theorem text_le (u : Nat) (h : u < 18446744073709551616) : (textV u).size ≤ 20 := by
  rw [text_size]
  exact Lib.nDigits_le20 u h
theorem stext_le (v : Int) (h0 : -9223372036854775808 ≤ v) (h1 : v ≤ 9223372036854775807) : (stextV v).size ≤ 21 := by
  by_cases h : v < 0
  · rw [stext_neg v h, ByteArray.size_append]
    have := text_le (-v).toNat (by omega)
    have e : (⟨#[45]⟩ : ByteArray).size = 1 := rfl
    omega
  · rw [stext_pos v (by omega)]
    have := text_le v.toNat (by omega)
    omega
def nameV (k : Int) : ByteArray := if 1 ≤ k ∧ k ≤ 15 then rdOf ByteArray.empty verb_names.l k else ⟨#[]⟩
theorem name_eq (k : Int) : verb_Name.f k = some (nameV k) := by
  unfold verb_Name.f nameV
  split <;> rfl
theorem names_le : ∀ x ∈ verb_names.l, x.size ≤ 9 := by decide
theorem name_le (k : Int) : (nameV k).size ≤ 9 := by
  unfold nameV
  split
  · unfold rdOf
    rw [List.getD_eq_getElem?_getD]
    cases h : verb_names.l[k.toNat]? with
    | none => decide
    | some x => exact names_le x (List.mem_of_getElem? h)
  · decide
/-- The words behind the keys. -/
def wTail (k fl ex : Int) (v : ByteArray) (cas del : Int) (q : Bool) : List ByteArray :=
  ((if storesB k = true then [textV fl.toNat, stextV ex, textV v.size] else []) ++ (if k = 10 then [textV cas.toNat] else if k = 14 then [stextV ex] else if k = 12 ∨ k = 13 then [textV del.toNat] else [])) ++ (if q = true then [nrp] else [])
def wAll (k : Int) (keys : List ByteArray) (fl ex : Int) (v : ByteArray) (cas del : Int) (q : Bool) : List ByteArray := ((if k = 3 ∨ k = 4 then [stextV ex] else []) ++ keys) ++ wTail k fl ex v cas del q
def endW (s : ByteArray) : ByteArray × Int := if s.size > 160 then (⟨#[]⟩, 7) else (s, 0)
def writeV (k : Int) (keys : List ByteArray) (fl ex : Int) (v : ByteArray) (cas del : Int) (q : Bool) : ByteArray × Int :=
  if chk k keys fl ex v cas del q = 0 then endW (tl (nameV k) (wAll k keys fl ex v cas del q)) else (⟨#[]⟩, chk k keys fl ex v cas del q)
theorem chk0 {k : Int} {keys : List ByteArray} {fl ex : Int} {v : ByteArray} {cas del : Int} {q : Bool} (h : chk k keys fl ex v cas del q = 0) :
    (1 ≤ k ∧ k ≤ 15) ∧ keys.length ≤ 8 ∧ (∀ x ∈ keys, keyP x = true) ∧ v.size ≤ 2000 ∧ nOk k keys.length = true ∧ fieldsB k fl ex v cas del q = true := by
  unfold chk at h
  split at h
  · rename_i hk
    split at h
    · rename_i hf
      rw [Bool.and_eq_true, Bool.and_eq_true] at hf
      obtain ⟨⟨f1, f2⟩, f3⟩ := hf
      split at h
      · cases h
      · rename_i hv
        refine ⟨hk, ?_, fun x hx => List.all_eq_true.1 f3 x hx, by omega, f2, f1⟩
        unfold nOk at f2
        split at f2
        · exact (of_decide_eq_true f2).2
        · split at f2 <;> have := of_decide_eq_true f2 <;> omega
    · cases h
  · cases h
theorem key_le {x : ByteArray} (h : keyP x = true) : 1 ≤ x.size ∧ x.size ≤ 32 := by
  unfold keyP at h
  rw [Bool.and_eq_true] at h
  exact of_decide_eq_true h.1
section
variable {k fl ex : Int} {v : ByteArray} {cas del : Int} {q : Bool}
end
theorem u64_of {n : Int} (h : 0 ≤ n ∧ n ≤ 18446744073709551615) : IntKind.u64.wrap n = ((n.toNat : Nat) : Int) := by
  rw [IntKind.wrap_u64]
  omega
section
variable {k fl ex : Int} {keys : List ByteArray} {v : ByteArray} {cas del : Int} {q : Bool}
theorem w4 (n : ByteArray) (ws : List ByteArray) (h1 : ws.length ≤ 1000) (hs : n.size ≤ 1000) (h2 : ∀ x ∈ ws, x.size ≤ 40) : line_Write.j4L (n :: ws) = some (endW (tl n ws)) := by
  rw [line_Write.j4L_eq]
  have e := join_eq n ws h1 hs h2
  unfold bl at e
  rw [e, Option.bind_some]
  unfold endW
  by_cases h : (tl n ws).size > 160
  · rw [if_pos (by omega), if_pos h]
  · rw [if_neg (by omega), if_neg h]
theorem w3 (n : ByteArray) (ws : List ByteArray) (h1 : ws.length ≤ 900) (hs : n.size ≤ 1000) (h2 : ∀ x ∈ ws, x.size ≤ 40) :
    line_Write.j3L (n :: ws) k keys fl ex v cas del q = some (endW (tl n (ws ++ if q = true then [nrp] else []))) := by
  rw [line_Write.j3L_eq]
  cases q with
  | true =>
    rw [if_pos rfl, if_pos (by rw [List.length_cons]; omega), if_pos rfl, List.cons_append]
    exact w4 n _ (by rw [List.length_append]; simp; omega) hs (fun x hx => by
      rcases List.mem_append.1 hx with h | h
      · exact h2 x h
      · rw [List.mem_singleton.1 h]
        decide)
  | false =>
    rw [if_neg (by decide), if_neg (by decide), List.append_nil]
    exact w4 n ws (by omega) hs h2
theorem stores_eq (k : Int) : verb_Stores.f k = some (storesB k) := by
  unfold verb_Stores.f storesB
  by_cases h : k ≥ 5
  · rw [if_pos h]
    congr 1
    rw [Bool.eq_iff_iff, decide_eq_true_iff, decide_eq_true_iff]
    omega
  · rw [if_neg h]
    congr 1
    symm
    rw [decide_eq_false_iff_not]
    omega
theorem timed_eq (k : Int) : line_timed.f k = some (decide (k = 3 ∨ k = 4)) := by
  unfold line_timed.f
  by_cases h : k = 3
  · rw [if_pos h]
    congr 1
    symm
    rw [decide_eq_true_iff]
    omega
  · rw [if_neg h]
    congr 1
    rw [Bool.eq_iff_iff, beq_iff_eq, decide_eq_true_iff]
    omega
theorem more_le {ws vs : List ByteArray} (h : ∀ x ∈ ws, x.size ≤ 40) (g : ∀ x ∈ vs, x.size ≤ 40) : ∀ x ∈ ws ++ vs, x.size ≤ 40 := fun x hx => (List.mem_append.1 hx).elim (h x) (g x)
theorem one_le {y : ByteArray} (h : y.size ≤ 40) : ∀ x ∈ [y], x.size ≤ 40 := fun x hx => by
  have : x = y := by simpa using hx
  subst this
  exact h
theorem w1 (n : ByteArray) (ws : List ByteArray) (h1 : ws.length ≤ 800) (hs : n.size ≤ 1000) (h2 : ∀ x ∈ ws, x.size ≤ 40)
    (hex : -9223372036854775808 ≤ ex ∧ ex ≤ 9223372036854775807) (hcas : 0 ≤ cas ∧ cas ≤ 18446744073709551615) (hdel : 0 ≤ del ∧ del ≤ 18446744073709551615) :
    line_Write.j1L (n :: ws) k keys fl ex v cas del q = some (endW (tl n ((ws ++ (if k = 10 then [textV cas.toNat] else if k = 14 then [stextV ex] else if k = 12 ∨ k = 13 then [textV del.toNat] else [])) ++ (if q = true then [nrp] else [])))) := by
  have e1 : digits_Text.f cas = some (textV cas.toNat) := by
    have := text_eq cas.toNat (by omega)
    rwa [Int.toNat_of_nonneg hcas.1] at this
  have e2 : digits_Text.f del = some (textV del.toNat) := by
    have := text_eq del.toNat (by omega)
    rwa [Int.toNat_of_nonneg hdel.1] at this
  have t2 := stext_le ex hex.1 hex.2
  have t4 := text_le cas.toNat (by omega)
  have t5 := text_le del.toNat (by omega)
  have hl : (n :: ws).length < 8796093022208 := by rw [List.length_cons]; omega
  have go : ∀ y : ByteArray, y.size ≤ 40 → line_Write.j3L ((n :: ws) ++ [y]) k keys fl ex v cas del q = some (endW (tl n ((ws ++ [y]) ++ (if q = true then [nrp] else [])))) := fun y hy => by
    rw [List.cons_append]
    exact w3 n _ (by rw [List.length_append]; simp; omega) hs (more_le h2 (one_le hy))
  have go0 := w3 (k := k) (keys := keys) (fl := fl) (ex := ex) (v := v) (cas := cas) (del := del) (q := q) n ws (by omega) hs h2
  have j2 : ∀ b : Bool, line_Write.j2L (n :: ws) b k keys fl ex v cas del q = if b = true then some (endW (tl n ((ws ++ [textV del.toNat]) ++ (if q = true then [nrp] else [])))) else some (endW (tl n (ws ++ (if q = true then [nrp] else [])))) := fun b => by
    rw [line_Write.j2L_eq, e2, Option.bind_some, if_pos hl, go _ (by omega), go0]
  rw [line_Write.j1L_eq, e1, stext_eq ex hex.1 hex.2, Option.bind_some, Option.bind_some, if_pos hl, if_pos hl, go _ (by omega), go _ (by omega), j2, j2]
  by_cases h10 : k = 10
  · rw [if_pos h10, if_pos h10]
  · rw [if_neg h10, if_neg h10]
    by_cases h14 : k = 14
    · rw [if_pos h14, if_pos h14]
    · rw [if_neg h14, if_neg h14]
      by_cases h12 : k = 12
      · rw [if_pos h12, if_pos (beq_iff_eq.2 h12), if_pos (Or.inl h12)]
      · rw [if_neg h12]
        by_cases h13 : k = 13
        · rw [if_pos (beq_iff_eq.2 h13), if_pos (Or.inr h13)]
        · rw [if_neg (by rw [beq_iff_eq]; exact h13), if_neg (show ¬ (k = 12 ∨ k = 13) from fun h => h.elim h12 h13), List.append_nil]
theorem w0 (n : ByteArray) (ws : List ByteArray) (h1 : ws.length ≤ 100) (hs : n.size ≤ 1000) (h2 : ∀ x ∈ ws, x.size ≤ 40) (hk : keys.length ≤ 8) (hkeys : ∀ x ∈ keys, x.size ≤ 40)
    (hfl : 0 ≤ fl ∧ fl ≤ 4294967295) (hex : -9223372036854775808 ≤ ex ∧ ex ≤ 9223372036854775807) (hcas : 0 ≤ cas ∧ cas ≤ 18446744073709551615) (hdel : 0 ≤ del ∧ del ≤ 18446744073709551615) (hv : v.size ≤ 2000) :
    line_Write.j0L (n :: ws) k keys fl ex v cas del q = some (endW (tl n ((ws ++ keys) ++ wTail k fl ex v cas del q))) := by
  have e1 : digits_Text.f (IntKind.u64.wrap fl) = some (textV fl.toNat) := by
    rw [u64_of (by omega)]
    exact text_eq fl.toNat (by omega)
  have e3 : digits_Text.f (IntKind.u64.wrap (v.size : Int)) = some (textV v.size) := by
    rw [u64_of (by omega), Int.toNat_natCast]
    exact text_eq v.size (by omega)
  have t1 := text_le fl.toNat (by omega)
  have t2 := stext_le ex hex.1 hex.2
  have t3 := text_le v.size (by omega)
  rw [line_Write.j0L_eq, if_pos (by rw [List.length_cons]; omega), Option.bind_some, stores_eq, Option.bind_some, e1, stext_eq ex hex.1 hex.2, e3]
  simp only [Option.bind_some]
  unfold wTail
  by_cases h : storesB k = true
  · rw [if_pos h, if_pos h, if_pos (by simp; omega), List.cons_append, List.cons_append, w1 n _ (by simp; omega) hs (more_le (more_le h2 hkeys) (by
      intro x hx
      simp only [List.mem_cons, List.not_mem_nil, or_false] at hx
      rcases hx with rfl | rfl | rfl <;> omega)) hex hcas hdel]
    simp only [List.append_assoc]
  · rw [if_neg h, if_neg h, List.cons_append, w1 n _ (by simp; omega) hs (more_le h2 hkeys) hex hcas hdel]
    simp only [List.append_assoc, List.nil_append]
theorem write_eq (hfl : 0 ≤ fl ∧ fl ≤ 4294967295) (hex : -9223372036854775808 ≤ ex ∧ ex ≤ 9223372036854775807) (hcas : 0 ≤ cas ∧ cas ≤ 18446744073709551615) (hdel : 0 ≤ del ∧ del ≤ 18446744073709551615) :
    line_Write.L k keys fl ex v cas del q = some (writeV k keys fl ex v cas del q) := by
  rw [line_Write.L_eq, check_eq, Option.bind_some]
  unfold writeV
  by_cases h : chk k keys fl ex v cas del q = 0
  · obtain ⟨hk, hn, hkey, hv, _, _⟩ := chk0 h
    have hkeys : ∀ x ∈ keys, x.size ≤ 40 := fun x hx => by have := key_le (hkey x hx); omega
    have t2 := stext_le ex hex.1 hex.2
    have t0 := name_le k
    rw [if_pos h, if_pos h, name_eq, timed_eq]
    simp only [Option.bind_some]
    unfold wAll
    by_cases ht : k = 3 ∨ k = 4
    · rw [if_pos (decide_eq_true ht), if_pos ht, stext_eq ex hex.1 hex.2, Option.bind_some, if_pos (by simp), List.cons_append, List.nil_append, w0 _ _ (by simp) (by omega) (one_le (by omega)) hn hkeys hfl hex hcas hdel hv]
    · rw [if_neg (by rw [decide_eq_true_iff]; exact ht), if_neg ht, w0 _ _ (by simp) (by omega) (fun x hx => by cases hx) hn hkeys hfl hex hcas hdel hv]
  · rw [if_neg h, if_neg h]
/-! The document's. -/
theorem r4 (s : ByteArray) : tallboyref17_Write.j4L s = some (endW s) := by
  rw [tallboyref17_Write.j4L_eq]
  unfold endW
  by_cases h : s.size > 160
  · rw [if_pos (by omega), if_pos h]
  · rw [if_neg (by omega), if_neg h]
theorem r3 (s : ByteArray) (hs : s.size ≤ 1000000) : tallboyref17_Write.j3L s k keys fl ex v cas del q = some (endW (tl s (if q = true then [nrp] else []))) := by
  rw [tallboyref17_Write.j3L_eq]
  cases q with
  | true =>
    rw [if_pos rfl, if_pos (by omega), if_pos rfl, r4, tl_cons, tl_nil]
    congr 2
    apply ba_ext
    simp [bl, nrp, ByteArray.data_append]
  | false => rw [if_neg (by decide), if_neg (by decide), tl_nil, r4]
end
end Go.Proofs.YtbfgopinbpbddaaDoor.Pl
