/- Digits and the number that they say: what is written reads back; lengths and the order of texts. No condition but bounds of 64 bits. -/
import Derived.Test.YtbaegkghngbecaaDoorDg2
import Derived.Test.YtbaegkghngbecaaDoorLmW
namespace Go.Proofs.YtbaegkghngbecaaDoor.Pl
set_option linter.unusedVariables false
open Go Go.RowKit Go.Proofs.YtbaegkghngbecaaDoor.P Go.Proofs.YtbaegkghngbecaaDoor.Lim Go.Proofs.YtbaegkghngbecaaDoorW.PrintWords

/-- The number that digits say, behind a. -/
def valL (a : Nat) (l : List UInt8) : Nat := l.foldl (fun a c => a * 10 + (c.toNat - 48)) a
theorem val_nil (a : Nat) : valL a [] = a := rfl
theorem val_cons (a : Nat) (c : UInt8) (l : List UInt8) : valL a (c :: l) = valL (a * 10 + (c.toNat - 48)) l := by
  unfold valL
  rw [List.foldl_cons]
theorem val_append (a : Nat) (l m : List UInt8) : valL a (l ++ m) = valL (valL a l) m := by
  unfold valL
  rw [List.foldl_append]
theorem val_ge (l : List UInt8) : ∀ a, a * 10 ^ l.length ≤ valL a l := by
  induction l with
  | nil => intro a; simp [val_nil]
  | cons c l ih =>
    intro a
    have h := ih (a * 10 + (c.toNat - 48))
    rw [val_cons, List.length_cons, Nat.pow_succ]
    refine Nat.le_trans ?_ h
    rw [show a * (10 ^ l.length * 10) = (a * 10) * 10 ^ l.length by rw [Nat.mul_comm (10 ^ l.length) 10, Nat.mul_assoc]]
    exact Nat.mul_le_mul_right _ (by omega)
theorem val_le (l : List UInt8) (a : Nat) : a ≤ valL a l := Nat.le_trans (Nat.le_mul_of_pos_right a (Nat.pow_pos (by decide))) (val_ge l a)
theorem dg_rng {b : UInt8} (h : digits_Parse.dg b = true) : 48 ≤ b.toNat ∧ b.toNat ≤ 57 := by
  rw [dg_iff, Bool.and_eq_true, decide_eq_true_eq, decide_eq_true_eq] at h
  exact h
theorem pm_eq (l : List UInt8) : ∀ a, a ≤ 18446744073709551615 → l.all digits_Parse.dg = true → Lib.parseUintM 18446744073709551615 a l = if valL a l ≤ 18446744073709551615 then .ok (valL a l) else .range := by
  induction l with
  | nil =>
    intro a ha _
    rw [val_nil, if_pos ha]
    rfl
  | cons c l ih =>
    intro a ha h
    rw [List.all_cons, Bool.and_eq_true] at h
    have hc := dg_rng h.1
    have hge := val_le l (a * 10 + (c.toNat - 48))
    rw [val_cons, Lib.parseUintM, if_pos hc]
    by_cases h1 : 1844674407370955162 ≤ a
    · rw [if_pos h1, if_neg (by omega)]
    · rw [if_neg h1]
      by_cases h2 : 18446744073709551615 < a * 10 + (c.toNat - 48)
      · rw [if_pos h2, if_neg (by omega)]
      · rw [if_neg h2]
        exact ih _ (by omega) h.2
theorem prs_dig (l : List UInt8) (h : l.all digits_Parse.dg = true) (h0 : l ≠ []) (h20 : l.length ≤ 20) (hv : valL 0 l ≤ 18446744073709551615) : prsV l = ((valL 0 l : Int), 0) := by
  unfold prsV digits_Parse.fin Lib.parseUintB
  rw [if_pos h, if_neg h0, if_neg (by omega), if_neg h0, pm_eq l 0 (by decide) h, if_pos hv]
theorem prs_ok (l : List UInt8) (h : (prsV l).2 = 0) : l.all digits_Parse.dg = true ∧ l ≠ [] ∧ l.length ≤ 20 ∧ valL 0 l ≤ 18446744073709551615 ∧ (prsV l).1 = (valL 0 l : Int) := by
  unfold prsV digits_Parse.fin Lib.parseUintB at *
  by_cases ha : l.all digits_Parse.dg = true
  · rw [if_pos ha] at h ⊢
    by_cases h0 : l = []
    · rw [if_pos h0] at h
      cases h
    · rw [if_neg h0] at h ⊢
      by_cases h20 : 20 < l.length
      · rw [if_pos h20] at h
        cases h
      · rw [if_neg h20, if_neg h0, pm_eq l 0 (by decide) ha] at h ⊢
        by_cases hv : valL 0 l ≤ 18446744073709551615
        · rw [if_pos hv] at h ⊢
          exact ⟨ha, h0, by omega, hv, rfl⟩
        · rw [if_neg hv] at h
          cases h
  · rw [if_neg ha] at h
    cases h
theorem dig_u8 (d : Nat) (h : d < 10) : (UInt8.ofNat (48 + d)).toNat = 48 + d := by
  rw [UInt8.toNat_ofNat']
  omega
theorem dig_dg (d : Nat) (h : d < 10) : digits_Parse.dg (UInt8.ofNat (48 + d)) = true := by
  rw [dg_iff, dig_u8 d h, decide_eq_true (by omega), decide_eq_true (by omega)]
  rfl
theorem dec_small (u : Nat) (h : u < 10) : Lib.decDigits u = [UInt8.ofNat (48 + u)] := Lib.decDigits_one h
theorem dec_big (u : Nat) (h : ¬ u < 10) : Lib.decDigits u = Lib.decDigits (u / 10) ++ [UInt8.ofNat (48 + u % 10)] := by
  rw [Lib.decDigits, dif_neg h]
theorem dec_dg (n : Nat) : ∀ u, u ≤ n → (Lib.decDigits u).all digits_Parse.dg = true ∧ valL 0 (Lib.decDigits u) = u ∧ Lib.decDigits u ≠ [] := by
  induction n with
  | zero =>
    intro u hu
    obtain rfl : u = 0 := by omega
    rw [dec_small 0 (by decide)]
    exact ⟨by decide, by decide, by simp⟩
  | succ n ih =>
    intro u hu
    by_cases h : u < 10
    · rw [dec_small u h, List.all_cons, dig_dg u h, val_cons, val_nil, dig_u8 u h]
      exact ⟨rfl, by omega, by simp⟩
    · obtain ⟨g1, g2, g3⟩ := ih (u / 10) (by omega)
      rw [dec_big u h, List.all_append, g1, List.all_cons, dig_dg _ (by omega), val_append, g2, val_cons, val_nil, dig_u8 _ (by omega)]
      exact ⟨rfl, by omega, by simp⟩
theorem dec_all (u : Nat) : (Lib.decDigits u).all digits_Parse.dg = true := (dec_dg u u (Nat.le_refl _)).1
theorem dec_val (u : Nat) : valL 0 (Lib.decDigits u) = u := (dec_dg u u (Nat.le_refl _)).2.1
theorem nd_mono (n : Nat) : ∀ a b, b ≤ n → a ≤ b → Lib.nDigits a ≤ Lib.nDigits b := by
  induction n with
  | zero =>
    intro a b hb hab
    obtain rfl : a = b := by omega
    exact Nat.le_refl _
  | succ n ih =>
    intro a b hb hab
    by_cases h : a < 10
    · rw [Lib.nDigits_small h]
      exact Lib.nDigits_pos b
    · rw [Lib.nDigits_big h, Lib.nDigits_big (show ¬ b < 10 by omega)]
      exact Nat.succ_le_succ (ih _ _ (by omega) (by omega))
theorem works_ok (h : tallboylaw02_works.f 40 = some true) : tallboylaw02_works.L = some true := tallboylaw02_works.Llm.2 40 true h
end Go.Proofs.YtbaegkghngbecaaDoor.Pl
