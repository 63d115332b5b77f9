/- Digits and the number that they say: what is written reads back. No condition but bounds of 64 bits. -/
import Derived.Test.YtdgpagocccabdaaDoorRdg
namespace Go.Proofs.YtdgpagocccabdaaDoor.Pl
set_option linter.unusedVariables false
open Go Go.RowKit Go.Proofs.YtdgpagocccabdaaDoor.P Go.Proofs.YtdgpagocccabdaaDoor.Lim Go.Proofs.YtdgpagocccabdaaDoorW.PrintWords

/-- The number that digits say, behind a. -/
def valL (a : Nat) (l : List UInt8) : Nat := l.foldl (fun a c => a * 10 + (c.toNat - 48)) a
theorem val_nil (a : Nat) : valL a [] = a := rfl
theorem val_cons (a : Nat) (c : UInt8) (l : List UInt8) : valL a (c :: l) = valL (a * 10 + (c.toNat - 48)) l := by
  unfold valL
  rw [List.foldl_cons]
theorem val_append (a : Nat) (l m : List UInt8) : valL a (l ++ m) = valL (valL a l) m := by
  unfold valL
  rw [List.foldl_append]
theorem val_ge (l : List UInt8) : ∀ a, a * 10 ^ l.length ≤ valL a l := by
  induction l with
  | nil => intro a; simp [val_nil]
  | cons c l ih =>
    intro a
    have h := ih (a * 10 + (c.toNat - 48))
    rw [val_cons, List.length_cons, Nat.pow_succ]
    refine Nat.le_trans ?_ h
    rw [show a * (10 ^ l.length * 10) = (a * 10) * 10 ^ l.length by rw [Nat.mul_comm (10 ^ l.length) 10, Nat.mul_assoc]]
    exact Nat.mul_le_mul_right _ (by omega)
theorem val_le (l : List UInt8) (a : Nat) : a ≤ valL a l := Nat.le_trans (Nat.le_mul_of_pos_right a (Nat.pow_pos (by decide))) (val_ge l a)
theorem dg_rng {b : UInt8} (h : digits_Parse.dg b = true) : 48 ≤ b.toNat ∧ b.toNat ≤ 57 := by
  rw [dg_iff, Bool.and_eq_true, decide_eq_true_eq, decide_eq_true_eq] at h
  exact h
theorem pm_eq (l : List UInt8) : ∀ a, a ≤ 18446744073709551615 → l.all digits_Parse.dg = true → Lib.parseUintM 18446744073709551615 a l = if valL a l ≤ 18446744073709551615 then .ok (valL a l) else .range := by
  induction l with
  | nil =>
    intro a ha _
    rw [val_nil, if_pos ha]
    rfl
  | cons c l ih =>
    intro a ha h
    rw [List.all_cons, Bool.and_eq_true] at h
    have hc := dg_rng h.1
    have hge := val_le l (a * 10 + (c.toNat - 48))
    rw [val_cons, Lib.parseUintM, if_pos hc]
    by_cases h1 : 1844674407370955162 ≤ a
    · rw [if_pos h1, if_neg (by omega)]
    · rw [if_neg h1]
      by_cases h2 : 18446744073709551615 < a * 10 + (c.toNat - 48)
      · rw [if_pos h2, if_neg (by omega)]
      · rw [if_neg h2]
        exact ih _ (by omega) h.2
theorem prs_dig (l : List UInt8) (h : l.all digits_Parse.dg = true) (h0 : l ≠ []) (h20 : l.length ≤ 20) (hv : valL 0 l ≤ 18446744073709551615) : prsV l = ((valL 0 l : Int), 0) := by
  unfold prsV digits_Parse.fin Lib.parseUintB
  rw [if_pos h, if_neg h0, if_neg (by omega), if_neg h0, pm_eq l 0 (by decide) h, if_pos hv]
theorem prs_bad (l : List UInt8) (h : l.all digits_Parse.dg = false) : prsV l = (0, 6) := by
  unfold prsV
  rw [if_neg (by rw [h]; decide)]

theorem dig_u8 (d : Nat) (h : d < 10) : (UInt8.ofNat (48 + d)).toNat = 48 + d := by
  rw [UInt8.toNat_ofNat']
  omega
theorem dig_dg (d : Nat) (h : d < 10) : digits_Parse.dg (UInt8.ofNat (48 + d)) = true := by
  rw [dg_iff, dig_u8 d h, decide_eq_true (by omega), decide_eq_true (by omega)]
  rfl
theorem dec_small (u : Nat) (h : u < 10) : Lib.decDigits u = [UInt8.ofNat (48 + u)] := Lib.decDigits_one h
theorem dec_big (u : Nat) (h : ¬ u < 10) : Lib.decDigits u = Lib.decDigits (u / 10) ++ [UInt8.ofNat (48 + u % 10)] := by
  rw [Lib.decDigits, dif_neg h]
theorem dec_dg (n : Nat) : ∀ u, u ≤ n → (Lib.decDigits u).all digits_Parse.dg = true ∧ valL 0 (Lib.decDigits u) = u ∧ Lib.decDigits u ≠ [] := by
  induction n with
  | zero =>
    intro u hu
    obtain rfl : u = 0 := by omega
    rw [dec_small 0 (by decide)]
    exact ⟨by decide, by decide, by simp⟩
  | succ n ih =>
    intro u hu
    by_cases h : u < 10
    · rw [dec_small u h, List.all_cons, dig_dg u h, val_cons, val_nil, dig_u8 u h]
      exact ⟨rfl, by omega, by simp⟩
    · obtain ⟨g1, g2, g3⟩ := ih (u / 10) (by omega)
      rw [dec_big u h, List.all_append, g1, List.all_cons, dig_dg _ (by omega), val_append, g2, val_cons, val_nil, dig_u8 _ (by omega)]
      exact ⟨rfl, by omega, by simp⟩
theorem dec_all (u : Nat) : (Lib.decDigits u).all digits_Parse.dg = true := (dec_dg u u (Nat.le_refl _)).1
theorem dec_val (u : Nat) : valL 0 (Lib.decDigits u) = u := (dec_dg u u (Nat.le_refl _)).2.1
theorem dec_ne (u : Nat) : Lib.decDigits u ≠ [] := (dec_dg u u (Nat.le_refl _)).2.2
theorem dec_len (u : Nat) (h : u < 18446744073709551616) : (Lib.decDigits u).length ≤ 20 := by
  rw [Lib.decDigits_length]
  exact Lib.nDigits_le20 u h
theorem prs_dec (u : Nat) (h : u < 18446744073709551616) : prsV (Lib.decDigits u) = ((u : Int), 0) := by
  rw [prs_dig _ (dec_all u) (dec_ne u) (dec_len u h) (by rw [dec_val]; omega), dec_val]
end Go.Proofs.YtdgpagocccabdaaDoor.Pl
