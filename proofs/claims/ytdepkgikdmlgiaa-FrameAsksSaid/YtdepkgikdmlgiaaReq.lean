/- The request for a command: the program's Request and the document's are one and the same plain function of the command. Conditions: the command's numbers are of their kinds, its row of keys is shorter than 2^62. -/
import Derived.Test.YtdepkgikdmlgiaaCmd
namespace Go.Proofs.Ytdepkgikdmlgiaa.Pl
set_option linter.unusedVariables false
open Go Go.RowKit Go.Proofs.Ytdepkgikdmlgiaa.P Go.Proofs.Ytdepkgikdmlgiaa.Lim Go.Proofs.YtdepkgikdmlgiaaW.PrintWords

def askG : List S112 → Int → Bool → Int
  | [], _, _ => 0
  | r :: t, x, q => if r.f2 = x then (if q = true then r.f1 else r.f0) else askG t x q
theorem asks_loop (tab : List S112) (hl : tab.length ≤ 1000) (x a0 : Int) (l : List ByteArray) (a2 a3 : Int) (v : ByteArray) (a5 a6 : Int) (q : Bool) (d : Nat) : ∀ i : Nat, i + d = tab.length → frame_asks.l0L x tab (tab.length : Int) (i : Int) a0 l a2 a3 v a5 a6 q = some (askG (tab.drop i) x q) := by
  induction d with
  | zero =>
    intro i hi
    rw [frame_asks.l0L_eq, if_neg (by omega), List.drop_eq_nil_of_le (by omega)]
    rfl
  | succ d ih =>
    intro i hi
    have hlt : i < tab.length := by omega
    have e : (rd_T112 tab (i : Int)) = tab[i] := by
      unfold rd_T112
      rw [Int.toNat_natCast, List.getD_eq_getElem?_getD, List.getElem?_eq_getElem hlt]
      rfl
    have nx := ih (i + 1) (by omega)
    rw [show ((i + 1 : Nat) : Int) = (i : Int) + 1 by omega] at nx
    rw [frame_asks.l0L_eq, if_pos (by omega), if_pos (by omega), if_pos (by omega), e, List.drop_eq_getElem_cons hlt]
    show _ = some (if tab[i].f2 = x then (if q = true then tab[i].f1 else tab[i].f0) else askG (tab.drop (i + 1)) x q)
    by_cases h : tab[i].f2 = x
    · rw [if_pos h, if_pos h, frame_asks.j2L_eq]
      cases q with
      | true => rfl
      | false => rw [if_neg (by decide), if_pos h, if_neg (by decide)]
    · rw [if_neg h, if_neg h, frame_asks.j2L_eq, if_neg (by decide), if_neg h, w64 (by omega) (by omega)]
      exact nx
def wantV (k : Int) : Int := if k = 10 then 5 else k
def tabV : List S112 := (frame_table.f).getD []
theorem asks_eq (k : Int) (l : List ByteArray) (a2 a3 : Int) (v : ByteArray) (a5 a6 : Int) (q : Bool) : frame_asks.L k l a2 a3 v a5 a6 q = some (askG tabV (wantV k) q) := by
  rw [frame_asks.L_eq]
  unfold wantV
  have T : frame_table.f = some tabV := rfl
  have J : ∀ x, frame_asks.j0L x k l a2 a3 v a5 a6 q = some (askG tabV x q) := by
    intro x
    rw [frame_asks.j0L_eq, T, Option.bind_some]
    exact asks_loop tabV (by decide) x k l a2 a3 v a5 a6 q tabV.length 0 (by omega)
  split <;> exact J _

def plainB (k : Int) (n : Nat) (ex cas : Int) (q : Bool) : Bool := decide (-2147483648 ≤ ex) && decide (ex ≤ 2147483647) && decide (n ≤ 1) && !decide (k = 4) && (!decide (k = 14) || !q) && (!decide (k = 10) || (!q && !decide (cas = 0)))
theorem pj_eq (x : Bool) (k : Int) (l : List ByteArray) (a2 ex : Int) (v : ByteArray) (cas a6 : Int) (q : Bool) : frame_plain.j0L x k l a2 ex v cas a6 q = some (!x && (!decide (k = 4) && (!decide (k = 14) || !q) && (!decide (k = 10) || (!q && !decide (cas = 0))))) := by
  rw [frame_plain.j0L_eq]
  cases x with
  | true => rfl
  | false =>
    rw [if_neg (by decide)]
    by_cases h4 : k = 4
    · rw [if_pos h4, decide_eq_true h4]
      rfl
    · rw [if_neg h4, decide_eq_false h4]
      by_cases h14 : k = 14
      · rw [if_pos h14, decide_eq_true h14, decide_eq_false (show ¬ k = 10 by omega)]
        cases q <;> rfl
      · rw [if_neg h14, decide_eq_false h14]
        by_cases h10 : k = 10
        · rw [if_pos h10, decide_eq_true h10]
          by_cases hc : cas = 0
          · rw [decide_eq_true hc, hc]
            cases q <;> rfl
          · rw [decide_eq_false hc, show (cas != 0) = true by simpa using hc]
            cases q <;> rfl
        · rw [if_neg h10, decide_eq_false h10]
          rfl
theorem plain_eq (k : Int) (l : List ByteArray) (a2 ex : Int) (v : ByteArray) (cas a6 : Int) (q : Bool) : frame_plain.L k l a2 ex v cas a6 q = some (plainB k l.length ex cas q) := by
  rw [frame_plain.L_eq]
  unfold plainB
  by_cases h1 : ex < -2147483648
  · rw [if_pos h1, pj_eq, decide_eq_true h1, decide_eq_false (show ¬ (-2147483648 ≤ ex) by omega)]
    simp only [Bool.not_true, Bool.false_and]
  · rw [if_neg h1, decide_eq_true (show (-2147483648 ≤ ex) by omega)]
    by_cases h2 : ex > 2147483647
    · rw [if_pos h2, pj_eq, decide_eq_true h2, decide_eq_false (show ¬ (ex ≤ 2147483647) by omega)]
      simp only [Bool.not_true, Bool.false_and, Bool.and_false]
    · rw [if_neg h2, pj_eq, decide_eq_true (show (ex ≤ 2147483647) by omega)]
      by_cases h3 : (l.length : Int) > 1
      · rw [decide_eq_true h3, decide_eq_false (show ¬ (l.length ≤ 1) by omega)]
        simp only [Bool.not_true, Bool.false_and, Bool.and_false]
      · rw [decide_eq_false h3, decide_eq_true (show l.length ≤ 1 by omega)]
        simp only [Bool.not_false, Bool.true_and, Bool.and_true, Bool.and_assoc]

theorem numV_size (n : Nat) (v : Int) : (numV n v).size = n := by
  unfold numV
  rw [strOfNums_size, putg_length, List.length_replicate]
def xtV (k fl ex del : Int) : ByteArray :=
  if extV k = 4 then numV 4 (wrap32 ex % 4294967296) else if extV k = 8 then numV 4 (IntKind.u64.wrap fl) ++ numV 4 (wrap32 ex % 4294967296)
  else if extV k = 20 then numV 8 del ++ numV 8 0 ++ numV 4 4294967295 else ⟨#[]⟩
def keyV (l : List ByteArray) : ByteArray := l.headD ⟨#[]⟩
def badR (e : Int) : Bool × Int × Int × Int × Int × ByteArray × ByteArray × ByteArray × Int := (false, 0, 0, 0, 0, ⟨#[]⟩, ⟨#[]⟩, ⟨#[]⟩, e)
def rqV (k : Int) (keys : List ByteArray) (fl ex : Int) (v : ByteArray) (cas del : Int) (q : Bool) (oq : Int) : Bool × Int × Int × Int × Int × ByteArray × ByteArray × ByteArray × Int :=
  if chk k keys fl ex v cas del q = 0 then (if plainB k keys.length ex cas q = true then (false, askG tabV (wantV k) q, 0, oq, cas, xtV k fl ex del, keyV keys, v, 0) else badR 6) else badR (chk k keys fl ex v cas del q)
theorem chk_len (k : Int) (keys : List ByteArray) (fl ex : Int) (v : ByteArray) (cas del : Int) (q : Bool) (h : chk k keys fl ex v cas del q = 0) : 1 ≤ k ∧ k ≤ 15 ∧ (k = 15 → keys.length = 0) ∧ (k ≠ 15 → 1 ≤ keys.length) := by
  unfold chk at h
  by_cases hk : 1 ≤ k ∧ k ≤ 15
  · rw [if_pos hk] at h
    by_cases hb : (fieldsB k fl ex v cas del q && nOk k keys.length && keys.all keyP) = true
    · rw [Bool.and_eq_true, Bool.and_eq_true] at hb
      have hn := hb.1.2
      unfold nOk at hn
      refine ⟨hk.1, hk.2, fun h15 => ?_, fun h15 => ?_⟩
      · rw [if_neg (show ¬ (1 ≤ k ∧ k ≤ 4) by omega), if_pos h15] at hn
        exact of_decide_eq_true hn
      · by_cases h4 : 1 ≤ k ∧ k ≤ 4
        · rw [if_pos h4] at hn
          exact (of_decide_eq_true hn).1
        · rw [if_neg h4, if_neg h15] at hn
          have := of_decide_eq_true hn
          omega
    · rw [if_neg hb] at h
      cases h
  · rw [if_neg hk] at h
    cases h
theorem join_eq (keys : List ByteArray) (h : keys.length ≤ 1) : strings_Join.f keys (⟨#[]⟩ : ByteArray) = some (keyV keys) := by
  unfold strings_Join.f
  match keys, h with
  | [], _ => rfl
  | [x], _ => rfl
theorem w32_rng (ex : Int) : 0 ≤ wrap32 ex % 4294967296 ∧ wrap32 ex % 4294967296 < 18446744073709551616 := by omega
theorem freq_eq (k : Int) (keys : List ByteArray) (fl ex : Int) (v : ByteArray) (cas del : Int) (q : Bool) (oq : Int) : frame_Request.L k keys fl ex v cas del q oq = some (rqV k keys fl ex v cas del q oq) := by
  rw [frame_Request.L_eq, check_eq, Option.bind_some]
  unfold rqV
  by_cases hc : chk k keys fl ex v cas del q = 0
  · rw [if_pos hc, if_pos hc, plain_eq, Option.bind_some]
    by_cases hp : plainB k keys.length ex cas q = true
    · have hl : keys.length ≤ 1 := by
        unfold plainB at hp
        simp only [Bool.and_eq_true, decide_eq_true_eq] at hp
        exact hp.1.1.1.2
      rw [if_pos hp, if_pos hp, asks_eq, Option.bind_some, join_eq keys hl, Option.bind_some, num4, Option.bind_some, fext_eq, Option.bind_some]
      unfold xtV
      by_cases h4 : extV k = 4
      · rw [if_pos h4, if_pos h4]
      · rw [if_neg h4, if_neg h4]
        by_cases h8 : extV k = 8
        · rw [if_pos h8, if_pos h8, num4, Option.bind_some, if_pos (by rw [numV_size, numV_size]; omega)]
        · rw [if_neg h8, if_neg h8]
          by_cases h20 : extV k = 20
          · rw [if_pos h20, if_pos h20, num8, Option.bind_some, num8, Option.bind_some, if_pos (by rw [numV_size, numV_size]; omega), num4, Option.bind_some, if_pos (by rw [ByteArray.size_append, numV_size, numV_size, numV_size]; omega)]
          · rw [if_neg h20, if_neg h20]
    · rw [if_neg hp, if_neg hp]
      rfl
  · rw [if_neg hc, if_neg hc]
    rfl

def rk (x : Int) (q : Bool) : Nat → Int → Int
  | 0, c => c
  | n + 1, c => rk x q n (if (opV (n : Int)).1 = x ∧ (opV (n : Int)).2 = q then (n : Int) else c)
theorem ask_same : ∀ n : Nat, n < 16 → 1 ≤ n → ∀ q : Bool, rk (n : Int) q 31 0 = askG tabV (n : Int) q := by decide +kernel
theorem rl_eq (x7 x9 : Int) (k : Int) (keys : List ByteArray) (fl ex : Int) (v : ByteArray) (cas del : Int) (q : Bool) (f0 : Bool) (f2 f3 f4 : Int) (f5 f6 f7 : ByteArray) (n : Nat) : ∀ (c : Int), n ≤ 31 →
    tallboyref29_Request.l0L x7 x9 ((n : Int) - 1) k keys fl ex v cas del q f0 c f2 f3 f4 f5 f6 f7 = tallboyref29_Request.l0L x7 x9 (-1) k keys fl ex v cas del q f0 (rk x9 q n c) f2 f3 f4 f5 f6 f7 := by
  induction n with
  | zero => intro c _; rfl
  | succ n ih =>
    intro c hn
    have hm : (((n + 1 : Nat) : Int) - 1) = (n : Int) := by omega
    have hw : wrap64 ((n : Int) - 1) = (n : Int) - 1 := w64 (by omega) (by omega)
    have h2 : (n : Int) % 256 = (n : Int) := by omega
    rw [hm]
    refine (tallboyref29_Request.l0L_eq x7 x9 (n : Int) k keys fl ex v cas del q f0 c f2 f3 f4 f5 f6 f7).trans ?_
    rw [if_pos (show (n : Int) ≥ 0 by omega), h2, op_eq (n : Int) (by omega) (by omega), Option.bind_some, hw]
    show _ = tallboyref29_Request.l0L x7 x9 (-1) k keys fl ex v cas del q f0 (rk x9 q n (if (opV (n : Int)).1 = x9 ∧ (opV (n : Int)).2 = q then (n : Int) else c)) f2 f3 f4 f5 f6 f7
    by_cases h : (opV (n : Int)).1 = x9
    · rw [if_pos h]
      by_cases hq : (opV (n : Int)).2 = q
      · rw [if_pos (show ((opV (n : Int)).2 == q) = true by simpa using hq), if_pos (show (opV (n : Int)).1 = x9 ∧ (opV (n : Int)).2 = q from ⟨h, hq⟩)]
        exact ih _ (by omega)
      · rw [if_neg (show ¬ ((opV (n : Int)).2 == q) = true by simpa using hq), if_neg (show ¬ ((opV (n : Int)).1 = x9 ∧ (opV (n : Int)).2 = q) from fun g => hq g.2)]
        exact ih _ (by omega)
    · rw [if_neg h, if_neg (show ¬ ((opV (n : Int)).1 = x9 ∧ (opV (n : Int)).2 = q) from fun g => h g.1)]
      exact ih _ (by omega)
theorem rj4r_eq (k : Int) (keys : List ByteArray) (fl ex : Int) (v : ByteArray) (cas del : Int) (q : Bool) (op oq : Int) (ky : ByteArray) (hf : 0 ≤ fl ∧ fl < 4294967296) (hd : 0 ≤ del ∧ del < 18446744073709551616) :
    tallboyref29_Request.j4L k keys fl ex v cas del q false op 0 oq cas ⟨#[]⟩ ky v = some (false, op, 0, oq, cas, xtV k fl ex del, ky, v, 0) := by
  rw [tallboyref29_Request.j4L_eq, rext_eq, Option.bind_some]
  have E : tallboyref29_Put.L (wrap32 ex % 4294967296) 4 = some (numV 4 (wrap32 ex % 4294967296)) := rput_eq _ 4 (by decide) (w32_rng ex).1 (w32_rng ex).2
  unfold xtV
  by_cases h8 : extV k = 8
  · rw [if_pos h8, put4, Option.bind_some, E, Option.bind_some, if_pos (by rw [numV_size, numV_size]; omega), if_neg (show ¬ extV k = 4 by omega), if_pos h8]
  · rw [if_neg h8]
    by_cases h4 : extV k = 4
    · rw [if_pos h4, E, Option.bind_some, if_pos h4]
    · rw [if_neg h4, if_neg h4, if_neg h8]
      by_cases h20 : extV k = 20
      · rw [if_pos h20, put8 del hd.1 hd.2, Option.bind_some, put8 0 (by decide) (by decide), Option.bind_some, if_pos (by rw [numV_size, numV_size]; omega), show tallboyref29_Put.L 4294967295 4 = some (numV 4 4294967295) from rput_eq _ 4 (by decide) (by decide) (by decide), Option.bind_some, if_pos (by rw [ByteArray.size_append, numV_size, numV_size, numV_size]; omega), if_pos h20]
      · rw [if_neg h20, if_neg h20]
def plainC (k ex cas : Int) (q : Bool) : Bool := !decide (k = 4) && decide (-2147483648 ≤ ex) && decide (ex ≤ 2147483647) && (!decide (k = 10) || !decide (cas = 0)) && (!q || (!decide (k = 14) && !decide (k = 10)))
theorem rj0r_eq (oq x7 k : Int) (keys : List ByteArray) (fl ex : Int) (v : ByteArray) (cas del : Int) (q : Bool) :
    tallboyref29_Request.j0L oq x7 k keys fl ex v cas del q = tallboyref29_Request.j1L oq x7 (!(decide ((keys.length : Int) = x7) && plainC k ex cas q)) k keys fl ex v cas del q := by
  rw [tallboyref29_Request.j0L_eq]
  unfold plainC
  by_cases hl : (keys.length : Int) = x7
  · rw [if_pos hl, decide_eq_true hl]
    by_cases h4 : k = 4
    · rw [if_pos h4, decide_eq_true h4]
      rfl
    · rw [if_neg h4, decide_eq_false h4]
      by_cases e1 : ex < -2147483648
      · rw [if_pos e1, decide_eq_false (show ¬ (-2147483648 ≤ ex) by omega)]
        rfl
      · rw [if_neg e1, decide_eq_true (show (-2147483648 ≤ ex) by omega)]
        by_cases e2 : ex > 2147483647
        · rw [if_pos e2, decide_eq_false (show ¬ (ex ≤ 2147483647) by omega)]
          rfl
        · rw [if_neg e2, decide_eq_true (show (ex ≤ 2147483647) by omega)]
          by_cases h10 : k = 10
          · rw [if_pos h10, decide_eq_true h10, decide_eq_false (show ¬ k = 14 by omega), show (k == 10) = true by simpa using h10, if_neg (show ¬ k = 14 by omega)]
            by_cases hc : cas = 0
            · rw [if_pos hc, decide_eq_true hc]
              rfl
            · rw [if_neg hc, decide_eq_false hc]
              cases q <;> rfl
          · rw [if_neg h10, decide_eq_false h10, show (k == 10) = false by simpa using h10]
            by_cases h14 : k = 14
            · rw [if_pos h14, decide_eq_true h14]
              cases q <;> rfl
            · rw [if_neg h14, decide_eq_false h14]
              cases q <;> rfl
  · rw [if_neg hl, decide_eq_false hl]
    rfl
theorem plain_same (k : Int) (n : Nat) (ex cas : Int) (q : Bool) (x7 : Int) (h : decide (n ≤ 1) = decide ((n : Int) = x7)) : (decide ((n : Int) = x7) && plainC k ex cas q) = plainB k n ex cas q := by
  unfold plainB plainC
  rw [← h]
  by_cases h14 : k = 14
  · rw [decide_eq_true h14, decide_eq_false (show ¬ k = 10 by omega), decide_eq_false (show ¬ k = 4 by omega)]
    cases decide (n ≤ 1) <;> cases decide (-2147483648 ≤ ex) <;> cases decide (ex ≤ 2147483647) <;> cases q <;> rfl
  · rw [decide_eq_false h14]
    cases decide (n ≤ 1) <;> cases decide (-2147483648 ≤ ex) <;> cases decide (ex ≤ 2147483647) <;> cases q <;> cases decide (k = 4) <;> cases decide (k = 10) <;> cases decide (cas = 0) <;> rfl
theorem rreq_eq (k : Int) (keys : List ByteArray) (fl ex : Int) (v : ByteArray) (cas del : Int) (q : Bool) (oq : Int) (hn : keys.length ≤ 4611686018427387904) (hf : 0 ≤ fl ∧ fl < 4294967296) (hd : 0 ≤ del ∧ del < 18446744073709551616) :
    tallboyref29_Request.L k keys fl ex v cas del q oq = some (rqV k keys fl ex v cas del q oq) := by
  rw [tallboyref29_Request.L_eq, rcheck_eq _ _ _ _ _ _ _ _ hn, Option.bind_some]
  unfold rqV
  by_cases hc : chk k keys fl ex v cas del q = 0
  · rw [if_pos hc, if_pos hc]
    obtain ⟨c1, c2, c3, c4⟩ := chk_len _ _ _ _ _ _ _ _ hc
    have key : ∀ x7 : Int, (x7 = if k = 15 then 0 else 1) → tallboyref29_Request.j0L oq x7 k keys fl ex v cas del q = some (if plainB k keys.length ex cas q = true then (false, askG tabV (wantV k) q, 0, oq, cas, xtV k fl ex del, keyV keys, v, 0) else badR 6) := by
      intro x7 hx
      have hlen : decide (keys.length ≤ 1) = decide ((keys.length : Int) = x7) := by
        refine decide_eq_decide.2 ?_
        by_cases h15 : k = 15
        · rw [hx, if_pos h15, c3 h15]
          decide
        · have := c4 h15
          rw [hx, if_neg h15]
          omega
      rw [rj0r_eq, plain_same _ _ _ _ _ _ hlen, tallboyref29_Request.j1L_eq]
      by_cases hp : plainB k keys.length ex cas q = true
      · have hl : keys.length ≤ 1 := by
          unfold plainB at hp
          simp only [Bool.and_eq_true, decide_eq_true_eq] at hp
          exact hp.1.1.1.2
        rw [hp, if_neg (by decide), if_pos rfl]
        have S : ∀ w : Int, 1 ≤ w → w ≤ 15 → tallboyref29_Request.j2L oq x7 w k keys fl ex v cas del q = some (false, askG tabV w q, 0, oq, cas, xtV k fl ex del, keyV keys, v, 0) := by
          intro w w1 w2
          have A := ask_same w.toNat (by omega) (by omega) q
          rw [Int.toNat_of_nonneg (by omega)] at A
          rw [tallboyref29_Request.j2L_eq]
          refine (rl_eq x7 w k keys fl ex v cas del q false 0 oq cas ⟨#[]⟩ ⟨#[]⟩ v 31 0 (by decide)).trans ?_
          rw [A, tallboyref29_Request.l0L_eq, if_neg (by decide)]
          by_cases h15 : k = 15
          · have h0 := c3 h15
            rw [if_neg (show ¬ x7 = 1 by rw [hx, if_pos h15]; decide), rj4r_eq _ _ _ _ _ _ _ _ _ _ _ hf hd, List.length_eq_zero_iff.1 h0]
            rfl
          · have h1 := c4 h15
            rw [if_pos (show x7 = 1 by rw [hx, if_neg h15]), if_pos (show 0 < (keys.length : Int) by omega), rj4r_eq _ _ _ _ _ _ _ _ _ _ _ hf hd]
            match keys, h1 with
            | y :: ys, _ => rfl
        unfold wantV
        by_cases h10 : k = 10
        · rw [if_pos h10, if_pos h10]
          exact S 5 (by decide) (by decide)
        · rw [if_neg h10, if_neg h10]
          exact S k c1 c2
      · rw [Bool.not_eq_true] at hp
        rw [hp, if_pos (show (!false) = true from rfl), if_neg (by decide)]
        rfl
    by_cases h15 : k = 15
    · rw [if_pos h15]
      exact key 0 (by rw [if_pos h15])
    · rw [if_neg h15]
      exact key 1 (by rw [if_neg h15])
  · rw [if_neg hc, if_neg hc]
    rfl
theorem same_loop (l : List ByteArray) (hl : l.length ≤ 4611686018427387904) (k : Int) (fl ex : Int) (v : ByteArray) (cas del : Int) (q : Bool) (d : Nat) : ∀ i : Nat, i + d = l.length → tallboyref17_SameCommands.l0L (i : Int) k l fl ex v cas del q k l fl ex v cas del q = some true := by
  induction d with
  | zero =>
    intro i hi
    rw [tallboyref17_SameCommands.l0L_eq, if_neg (by omega)]
    simp
  | succ d ih =>
    intro i hi
    have nx := ih (i + 1) (by omega)
    rw [show ((i + 1 : Nat) : Int) = (i : Int) + 1 by omega] at nx
    rw [tallboyref17_SameCommands.l0L_eq, if_pos (by omega), if_pos (by omega), if_pos (by omega), if_pos rfl, w64 (by omega) (by omega)]
    exact nx
theorem same_eq (l : List ByteArray) (hl : l.length ≤ 4611686018427387904) (k : Int) (fl ex : Int) (v : ByteArray) (cas del : Int) (q : Bool) : tallboyref17_SameCommands.L k l fl ex v cas del q k l fl ex v cas del q = some true := by
  rw [tallboyref17_SameCommands.L_eq, if_pos rfl]
  exact same_loop l hl k fl ex v cas del q l.length 0 (by omega)
theorem own_eq (k : Int) (keys : List ByteArray) (fl ex : Int) (v : ByteArray) (cas del : Int) (q : Bool) (h : keys.length ≤ 100) : tallboylaw15_Own.f k keys fl ex v cas del q = some (k, keys, fl, ex, v, cas, del, q) := by
  unfold tallboylaw15_Own.f
  simp only [Option.bind_some, List.nil_append, List.length_nil, Nat.zero_add]
  rw [if_pos (by omega)]
end Go.Proofs.Ytdepkgikdmlgiaa.Pl
