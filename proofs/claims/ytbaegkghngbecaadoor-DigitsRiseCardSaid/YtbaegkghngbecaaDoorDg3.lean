/- Digits and the number that they say: what is written reads back; lengths and the order of texts. No condition but bounds of 64 bits. -/
import Derived.Test.YtbaegkghngbecaaDoorDg2
import Derived.Test.YtbaegkghngbecaaDoorLmW
namespace Go.Proofs.YtbaegkghngbecaaDoor.Pl
set_option linter.unusedVariables false
open Go Go.RowKit Go.Proofs.YtbaegkghngbecaaDoor.P Go.Proofs.YtbaegkghngbecaaDoor.Lim Go.Proofs.YtbaegkghngbecaaDoorW.PrintWords

/-- The number that digits say, behind a. -/
def valL (a : Nat) (l : List UInt8) : Nat := l.foldl (fun a c => a * 10 + (c.toNat - 48)) a
theorem val_nil (a : Nat) : valL a [] = a := rfl
theorem val_cons (a : Nat) (c : UInt8) (l : List UInt8) : valL a (c :: l) = valL (a * 10 + (c.toNat - 48)) l := by
  unfold valL
  rw [List.foldl_cons]
theorem val_append (a : Nat) (l m : List UInt8) : valL a (l ++ m) = valL (valL a l) m := by
  unfold valL
  rw [List.foldl_append]
theorem val_ge (l : List UInt8) : ∀ a, a * 10 ^ l.length ≤ valL a l := by
  induction l with
  | nil => intro a; simp [val_nil]
  | cons c l ih =>
    intro a
    have h := ih (a * 10 + (c.toNat - 48))
    rw [val_cons, List.length_cons, Nat.pow_succ]
    refine Nat.le_trans ?_ h
    rw [show a * (10 ^ l.length * 10) = (a * 10) * 10 ^ l.length by rw [Nat.mul_comm (10 ^ l.length) 10, Nat.mul_assoc]]
    exact Nat.mul_le_mul_right _ (by omega)
theorem dg_rng {b : UInt8} (h : digits_Parse.dg b = true) : 48 ≤ b.toNat ∧ b.toNat ≤ 57 := by
  rw [dg_iff, Bool.and_eq_true, decide_eq_true_eq, decide_eq_true_eq] at h
  exact h
theorem val_lt (l : List UInt8) : ∀ a, l.all digits_Parse.dg = true → valL a l < (a + 1) * 10 ^ l.length := by
  induction l with
  | nil => intro a _; simp [val_nil]
  | cons c l ih =>
    intro a h
    rw [List.all_cons, Bool.and_eq_true] at h
    have hc := dg_rng h.1
    have h2 := ih (a * 10 + (c.toNat - 48)) h.2
    rw [val_cons, List.length_cons, Nat.pow_succ]
    refine Nat.lt_of_lt_of_le h2 ?_
    rw [show (a + 1) * (10 ^ l.length * 10) = ((a + 1) * 10) * 10 ^ l.length by rw [Nat.mul_comm (10 ^ l.length) 10, Nat.mul_assoc]]
    exact Nat.mul_le_mul_right _ (by omega)
theorem dig_u8 (d : Nat) (h : d < 10) : (UInt8.ofNat (48 + d)).toNat = 48 + d := by
  rw [UInt8.toNat_ofNat']
  omega
theorem dig_dg (d : Nat) (h : d < 10) : digits_Parse.dg (UInt8.ofNat (48 + d)) = true := by
  rw [dg_iff, dig_u8 d h, decide_eq_true (by omega), decide_eq_true (by omega)]
  rfl
theorem dec_small (u : Nat) (h : u < 10) : Lib.decDigits u = [UInt8.ofNat (48 + u)] := Lib.decDigits_one h
theorem dec_big (u : Nat) (h : ¬ u < 10) : Lib.decDigits u = Lib.decDigits (u / 10) ++ [UInt8.ofNat (48 + u % 10)] := by
  rw [Lib.decDigits, dif_neg h]
theorem dec_dg (n : Nat) : ∀ u, u ≤ n → (Lib.decDigits u).all digits_Parse.dg = true ∧ valL 0 (Lib.decDigits u) = u ∧ Lib.decDigits u ≠ [] := by
  induction n with
  | zero =>
    intro u hu
    obtain rfl : u = 0 := by omega
    rw [dec_small 0 (by decide)]
    exact ⟨by decide, by decide, by simp⟩
  | succ n ih =>
    intro u hu
    by_cases h : u < 10
    · rw [dec_small u h, List.all_cons, dig_dg u h, val_cons, val_nil, dig_u8 u h]
      exact ⟨rfl, by omega, by simp⟩
    · obtain ⟨g1, g2, g3⟩ := ih (u / 10) (by omega)
      rw [dec_big u h, List.all_append, g1, List.all_cons, dig_dg _ (by omega), val_append, g2, val_cons, val_nil, dig_u8 _ (by omega)]
      exact ⟨rfl, by omega, by simp⟩
theorem dec_all (u : Nat) : (Lib.decDigits u).all digits_Parse.dg = true := (dec_dg u u (Nat.le_refl _)).1
theorem dec_val (u : Nat) : valL 0 (Lib.decDigits u) = u := (dec_dg u u (Nat.le_refl _)).2.1
theorem nd_mono (n : Nat) : ∀ a b, b ≤ n → a ≤ b → Lib.nDigits a ≤ Lib.nDigits b := by
  induction n with
  | zero =>
    intro a b hb hab
    obtain rfl : a = b := by omega
    exact Nat.le_refl _
  | succ n ih =>
    intro a b hb hab
    by_cases h : a < 10
    · rw [Lib.nDigits_small h]
      exact Lib.nDigits_pos b
    · rw [Lib.nDigits_big h, Lib.nDigits_big (show ¬ b < 10 by omega)]
      exact Nat.succ_le_succ (ih _ _ (by omega) (by omega))
theorem less_val (x : List UInt8) : ∀ (y : List UInt8) (a : Nat), x.length = y.length → x.all digits_Parse.dg = true → y.all digits_Parse.dg = true → Op.bytesLess x y = decide (valL a x < valL a y) := by
  induction x with
  | nil =>
    intro y a hl _ _
    cases y with
    | nil => rw [decide_eq_false (Nat.lt_irrefl _)]; rfl
    | cons d y => cases hl
  | cons c x ih =>
    intro y a hl hx hy
    cases y with
    | nil => cases hl
    | cons d y =>
      rw [List.all_cons, Bool.and_eq_true] at hx hy
      have hc := dg_rng hx.1
      have hd := dg_rng hy.1
      have hl' : x.length = y.length := Nat.succ.inj hl
      show (decide (c < d) || (c == d && Op.bytesLess x y)) = _
      rw [val_cons, val_cons]
      by_cases h : c = d
      · subst h
        have h1 : decide (c < c) = false := decide_eq_false (by simp)
        rw [h1, beq_self_eq_true, Bool.false_or, Bool.true_and, ih y _ hl' hx.2 hy.2]
      · have h2 : (c == d) = false := beq_eq_false_iff_ne.2 h
        have h5 : ¬ c.toNat = d.toNat := fun g => h (UInt8.toNat_inj.1 g)
        rw [h2, Bool.false_and, Bool.or_false]
        refine decide_eq_decide.2 ?_
        rw [UInt8.lt_iff_toNat_lt]
        have lo := fun m z (hz : z.all digits_Parse.dg = true) => val_lt z m hz
        constructor
        · intro g
          have g1 := val_lt x (a * 10 + (c.toNat - 48)) hx.2
          have g2 := val_ge y (a * 10 + (d.toNat - 48))
          refine Nat.lt_of_lt_of_le g1 (Nat.le_trans ?_ g2)
          rw [hl']
          exact Nat.mul_le_mul_right _ (by omega)
        · intro g
          by_cases hlt : c.toNat < d.toNat
          · exact hlt
          · have g1 := val_lt y (a * 10 + (d.toNat - 48)) hy.2
            have g2 := val_ge x (a * 10 + (c.toNat - 48))
            exfalso
            refine Nat.lt_irrefl _ (Nat.lt_of_lt_of_le (Nat.lt_of_lt_of_le g1 (Nat.le_trans ?_ g2)) (Nat.le_of_lt g))
            rw [← hl']
            exact Nat.mul_le_mul_right _ (by omega)
theorem works_ok (h : tallboylaw02_works.f 40 = some true) : tallboylaw02_works.L = some true := tallboylaw02_works.Llm.2 40 true h
end Go.Proofs.YtbaegkghngbecaaDoor.Pl
