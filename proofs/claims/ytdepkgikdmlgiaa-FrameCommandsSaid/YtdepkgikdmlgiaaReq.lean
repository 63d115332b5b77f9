/- The request for a command: the program's Request and the document's are one and the same plain function of the command. Conditions: the command's numbers are of their kinds, its row of keys is shorter than 2^62. -/
import Derived.Test.YtdepkgikdmlgiaaCmd
namespace Go.Proofs.Ytdepkgikdmlgiaa.Pl
set_option linter.unusedVariables false
open Go Go.RowKit Go.Proofs.Ytdepkgikdmlgiaa.P Go.Proofs.Ytdepkgikdmlgiaa.Lim Go.Proofs.YtdepkgikdmlgiaaW.PrintWords

def askG : List S112 → Int → Bool → Int
  | [], _, _ => 0
  | r :: t, x, q => if r.f2 = x then (if q = true then r.f1 else r.f0) else askG t x q
theorem asks_loop (tab : List S112) (hl : tab.length ≤ 1000) (x a0 : Int) (l : List ByteArray) (a2 a3 : Int) (v : ByteArray) (a5 a6 : Int) (q : Bool) (d : Nat) : ∀ i : Nat, i + d = tab.length → frame_asks.l0L x tab (tab.length : Int) (i : Int) a0 l a2 a3 v a5 a6 q = some (askG (tab.drop i) x q) := by
  induction d with
  | zero =>
    intro i hi
    rw [frame_asks.l0L_eq, if_neg (by omega), List.drop_eq_nil_of_le (by omega)]
    rfl
  | succ d ih =>
    intro i hi
    have hlt : i < tab.length := by omega
    have e : (rd_T112 tab (i : Int)) = tab[i] := by
      unfold rd_T112
      rw [Int.toNat_natCast, List.getD_eq_getElem?_getD, List.getElem?_eq_getElem hlt]
      rfl
    have nx := ih (i + 1) (by omega)
    rw [show ((i + 1 : Nat) : Int) = (i : Int) + 1 by omega] at nx
    rw [frame_asks.l0L_eq, if_pos (by omega), if_pos (by omega), if_pos (by omega), e, List.drop_eq_getElem_cons hlt]
    show _ = some (if tab[i].f2 = x then (if q = true then tab[i].f1 else tab[i].f0) else askG (tab.drop (i + 1)) x q)
    by_cases h : tab[i].f2 = x
    · rw [if_pos h, if_pos h, frame_asks.j2L_eq]
      cases q with
      | true => rfl
      | false => rw [if_neg (by decide), if_pos h, if_neg (by decide)]
    · rw [if_neg h, if_neg h, frame_asks.j2L_eq, if_neg (by decide), if_neg h, w64 (by omega) (by omega)]
      exact nx
def wantV (k : Int) : Int := if k = 10 then 5 else k
def tabV : List S112 := (frame_table.f).getD []
theorem asks_eq (k : Int) (l : List ByteArray) (a2 a3 : Int) (v : ByteArray) (a5 a6 : Int) (q : Bool) : frame_asks.L k l a2 a3 v a5 a6 q = some (askG tabV (wantV k) q) := by
  rw [frame_asks.L_eq]
  unfold wantV
  have T : frame_table.f = some tabV := rfl
  have J : ∀ x, frame_asks.j0L x k l a2 a3 v a5 a6 q = some (askG tabV x q) := by
    intro x
    rw [frame_asks.j0L_eq, T, Option.bind_some]
    exact asks_loop tabV (by decide) x k l a2 a3 v a5 a6 q tabV.length 0 (by omega)
  split <;> exact J _

def plainB (k : Int) (n : Nat) (ex cas : Int) (q : Bool) : Bool := decide (-2147483648 ≤ ex) && decide (ex ≤ 2147483647) && decide (n ≤ 1) && !decide (k = 4) && (!decide (k = 14) || !q) && (!decide (k = 10) || (!q && !decide (cas = 0)))
theorem pj_eq (x : Bool) (k : Int) (l : List ByteArray) (a2 ex : Int) (v : ByteArray) (cas a6 : Int) (q : Bool) : frame_plain.j0L x k l a2 ex v cas a6 q = some (!x && (!decide (k = 4) && (!decide (k = 14) || !q) && (!decide (k = 10) || (!q && !decide (cas = 0))))) := by
  rw [frame_plain.j0L_eq]
  cases x with
  | true => rfl
  | false =>
    rw [if_neg (by decide)]
    by_cases h4 : k = 4
    · rw [if_pos h4, decide_eq_true h4]
      rfl
    · rw [if_neg h4, decide_eq_false h4]
      by_cases h14 : k = 14
      · rw [if_pos h14, decide_eq_true h14, decide_eq_false (show ¬ k = 10 by omega)]
        cases q <;> rfl
      · rw [if_neg h14, decide_eq_false h14]
        by_cases h10 : k = 10
        · rw [if_pos h10, decide_eq_true h10]
          by_cases hc : cas = 0
          · rw [decide_eq_true hc, hc]
            cases q <;> rfl
          · rw [decide_eq_false hc, show (cas != 0) = true by simpa using hc]
            cases q <;> rfl
        · rw [if_neg h10, decide_eq_false h10]
          rfl
theorem plain_eq (k : Int) (l : List ByteArray) (a2 ex : Int) (v : ByteArray) (cas a6 : Int) (q : Bool) : frame_plain.L k l a2 ex v cas a6 q = some (plainB k l.length ex cas q) := by
  rw [frame_plain.L_eq]
  unfold plainB
  by_cases h1 : ex < -2147483648
  · rw [if_pos h1, pj_eq, decide_eq_true h1, decide_eq_false (show ¬ (-2147483648 ≤ ex) by omega)]
    simp only [Bool.not_true, Bool.false_and]
  · rw [if_neg h1, decide_eq_true (show (-2147483648 ≤ ex) by omega)]
    by_cases h2 : ex > 2147483647
    · rw [if_pos h2, pj_eq, decide_eq_true h2, decide_eq_false (show ¬ (ex ≤ 2147483647) by omega)]
      simp only [Bool.not_true, Bool.false_and, Bool.and_false]
    · rw [if_neg h2, pj_eq, decide_eq_true (show (ex ≤ 2147483647) by omega)]
      by_cases h3 : (l.length : Int) > 1
      · rw [decide_eq_true h3, decide_eq_false (show ¬ (l.length ≤ 1) by omega)]
        simp only [Bool.not_true, Bool.false_and, Bool.and_false]
      · rw [decide_eq_false h3, decide_eq_true (show l.length ≤ 1 by omega)]
        simp only [Bool.not_false, Bool.true_and, Bool.and_true, Bool.and_assoc]

theorem numV_size (n : Nat) (v : Int) : (numV n v).size = n := by
  unfold numV
  rw [strOfNums_size, putg_length, List.length_replicate]
def xtV (k fl ex del : Int) : ByteArray :=
  if extV k = 4 then numV 4 (wrap32 ex % 4294967296) else if extV k = 8 then numV 4 (IntKind.u64.wrap fl) ++ numV 4 (wrap32 ex % 4294967296)
  else if extV k = 20 then numV 8 del ++ numV 8 0 ++ numV 4 4294967295 else ⟨#[]⟩
def keyV (l : List ByteArray) : ByteArray := l.headD ⟨#[]⟩
def badR (e : Int) : Bool × Int × Int × Int × Int × ByteArray × ByteArray × ByteArray × Int := (false, 0, 0, 0, 0, ⟨#[]⟩, ⟨#[]⟩, ⟨#[]⟩, e)
def rqV (k : Int) (keys : List ByteArray) (fl ex : Int) (v : ByteArray) (cas del : Int) (q : Bool) (oq : Int) : Bool × Int × Int × Int × Int × ByteArray × ByteArray × ByteArray × Int :=
  if chk k keys fl ex v cas del q = 0 then (if plainB k keys.length ex cas q = true then (false, askG tabV (wantV k) q, 0, oq, cas, xtV k fl ex del, keyV keys, v, 0) else badR 6) else badR (chk k keys fl ex v cas del q)
theorem chk_len (k : Int) (keys : List ByteArray) (fl ex : Int) (v : ByteArray) (cas del : Int) (q : Bool) (h : chk k keys fl ex v cas del q = 0) : 1 ≤ k ∧ k ≤ 15 ∧ (k = 15 → keys.length = 0) ∧ (k ≠ 15 → 1 ≤ keys.length) := by
  unfold chk at h
  by_cases hk : 1 ≤ k ∧ k ≤ 15
  · rw [if_pos hk] at h
    by_cases hb : (fieldsB k fl ex v cas del q && nOk k keys.length && keys.all keyP) = true
    · rw [Bool.and_eq_true, Bool.and_eq_true] at hb
      have hn := hb.1.2
      unfold nOk at hn
      refine ⟨hk.1, hk.2, fun h15 => ?_, fun h15 => ?_⟩
      · rw [if_neg (show ¬ (1 ≤ k ∧ k ≤ 4) by omega), if_pos h15] at hn
        exact of_decide_eq_true hn
      · by_cases h4 : 1 ≤ k ∧ k ≤ 4
        · rw [if_pos h4] at hn
          exact (of_decide_eq_true hn).1
        · rw [if_neg h4, if_neg h15] at hn
          have := of_decide_eq_true hn
          omega
    · rw [if_neg hb] at h
      cases h
  · rw [if_neg hk] at h
    cases h
theorem join_eq (keys : List ByteArray) (h : keys.length ≤ 1) : strings_Join.f keys (⟨#[]⟩ : ByteArray) = some (keyV keys) := by
  unfold strings_Join.f
  match keys, h with
  | [], _ => rfl
  | [x], _ => rfl
theorem freq_eq (k : Int) (keys : List ByteArray) (fl ex : Int) (v : ByteArray) (cas del : Int) (q : Bool) (oq : Int) : frame_Request.L k keys fl ex v cas del q oq = some (rqV k keys fl ex v cas del q oq) := by
  rw [frame_Request.L_eq, check_eq, Option.bind_some]
  unfold rqV
  by_cases hc : chk k keys fl ex v cas del q = 0
  · rw [if_pos hc, if_pos hc, plain_eq, Option.bind_some]
    by_cases hp : plainB k keys.length ex cas q = true
    · have hl : keys.length ≤ 1 := by
        unfold plainB at hp
        simp only [Bool.and_eq_true, decide_eq_true_eq] at hp
        exact hp.1.1.1.2
      rw [if_pos hp, if_pos hp, asks_eq, Option.bind_some, join_eq keys hl, Option.bind_some, num4, Option.bind_some, fext_eq, Option.bind_some]
      unfold xtV
      by_cases h4 : extV k = 4
      · rw [if_pos h4, if_pos h4]
      · rw [if_neg h4, if_neg h4]
        by_cases h8 : extV k = 8
        · rw [if_pos h8, if_pos h8, num4, Option.bind_some, if_pos (by rw [numV_size, numV_size]; omega)]
        · rw [if_neg h8, if_neg h8]
          by_cases h20 : extV k = 20
          · rw [if_pos h20, if_pos h20, num8, Option.bind_some, num8, Option.bind_some, if_pos (by rw [numV_size, numV_size]; omega), num4, Option.bind_some, if_pos (by rw [ByteArray.size_append, numV_size, numV_size, numV_size]; omega)]
          · rw [if_neg h20, if_neg h20]
    · rw [if_neg hp, if_neg hp]
      rfl
  · rw [if_neg hc, if_neg hc]
    rfl

theorem same_loop (l : List ByteArray) (hl : l.length ≤ 4611686018427387904) (k : Int) (fl ex : Int) (v : ByteArray) (cas del : Int) (q : Bool) (d : Nat) : ∀ i : Nat, i + d = l.length → tallboyref17_SameCommands.l0L (i : Int) k l fl ex v cas del q k l fl ex v cas del q = some true := by
  induction d with
  | zero =>
    intro i hi
    rw [tallboyref17_SameCommands.l0L_eq, if_neg (by omega)]
    simp
  | succ d ih =>
    intro i hi
    have nx := ih (i + 1) (by omega)
    rw [show ((i + 1 : Nat) : Int) = (i : Int) + 1 by omega] at nx
    rw [tallboyref17_SameCommands.l0L_eq, if_pos (by omega), if_pos (by omega), if_pos (by omega), if_pos rfl, w64 (by omega) (by omega)]
    exact nx
theorem same_eq (l : List ByteArray) (hl : l.length ≤ 4611686018427387904) (k : Int) (fl ex : Int) (v : ByteArray) (cas del : Int) (q : Bool) : tallboyref17_SameCommands.L k l fl ex v cas del q k l fl ex v cas del q = some true := by
  rw [tallboyref17_SameCommands.L_eq, if_pos rfl]
  exact same_loop l hl k fl ex v cas del q l.length 0 (by omega)
theorem own_eq (k : Int) (keys : List ByteArray) (fl ex : Int) (v : ByteArray) (cas del : Int) (q : Bool) (h : keys.length ≤ 100) : tallboylaw15_Own.f k keys fl ex v cas del q = some (k, keys, fl, ex, v, cas, del, q) := by
  unfold tallboylaw15_Own.f
  simp only [Option.bind_some, List.nil_append, List.length_nil, Nat.zero_add]
  rw [if_pos (by omega)]
end Go.Proofs.Ytdepkgikdmlgiaa.Pl
