/- What is a key: the program's fnv.Key and the document's agree, on every text. No condition. -/
import Derived.Test.YtginfaencjmhgaaDoorPl
import Derived.Test.YtginfaencjmhgaaDoorLm1
namespace Go.Proofs.YtginfaencjmhgaaDoor.Pl
open Go Go.RowKit Go.Proofs.YtginfaencjmhgaaDoor.P Go.Proofs.YtginfaencjmhgaaDoor.Lim Go.Proofs.YtginfaencjmhgaaDoorW.PrintWords

def okByte (b : UInt8) : Bool := decide (33 ≤ b.toNat) && decide (b.toNat ≤ 126)
def keyP (s : ByteArray) : Bool := decide (1 ≤ s.size ∧ s.size ≤ 32) && s.data.toList.all okByte

theorem key_loop (s : ByteArray) (hs : s.size ≤ 32) (d : Nat) : ∀ i : Nat, i + d = s.size → fnv_Key.l0L s (s.size : Int) (i : Int) = some ((s.data.toList.drop i).all okByte) := by
  induction d with
  | zero =>
    intro i hi
    rw [fnv_Key.l0L_eq, if_neg (by omega), List.drop_eq_nil_of_le (by rw [size_eq]; omega)]
    rfl
  | succ d ih =>
    intro i hi
    have hl : i < s.data.toList.length := by rw [size_eq]; omega
    rw [fnv_Key.l0L_eq, if_pos (by omega), if_pos (by omega), if_pos (by omega), drop_bytes s i hl, List.all_cons, bt_get s i hl]
    unfold okByte
    by_cases h1 : (s.data.toList[i].toNat : Int) < 33
    · rw [if_pos h1, decide_eq_false (by omega)]
      rfl
    · rw [if_neg h1]
      by_cases h2 : (s.data.toList[i].toNat : Int) > 126
      · rw [if_pos h2, decide_eq_false (p := s.data.toList[i].toNat ≤ 126) (by omega), Bool.and_false]
        rfl
      · rw [if_neg h2, decide_eq_true (by omega), decide_eq_true (by omega), w64 (by omega) (by omega)]
        exact ih (i + 1) (by omega)

theorem key_eq (s : ByteArray) : fnv_Key.L s = some (keyP s) := by
  rw [fnv_Key.L_eq]
  unfold keyP
  by_cases h0 : s.size = 0
  · rw [if_pos ((toList_nil s).2 h0), fnv_Key.j0L_eq, if_pos rfl, decide_eq_false (by omega)]
    rfl
  · rw [if_neg (fun h => h0 ((toList_nil s).1 h))]
    by_cases h1 : s.size ≤ 32
    · rw [decide_eq_false (by omega), fnv_Key.j0L_eq, if_neg (by decide), show (0 : Int) = ((0 : Nat) : Int) from rfl, key_loop s h1 s.size 0 (by omega), decide_eq_true (by omega)]
      rfl
    · rw [decide_eq_true (by omega), fnv_Key.j0L_eq, if_pos rfl, decide_eq_false (by omega)]
      rfl

theorem rkey_loop (s : ByteArray) (hs : s.size ≤ 32) (d : Nat) : ∀ (i : Nat) (ok : Bool), i + d = s.size → tallboyref04_Key.l0L s ok (i : Int) = some (ok && (s.data.toList.drop i).all okByte) := by
  induction d with
  | zero =>
    intro i ok hi
    rw [tallboyref04_Key.l0L_eq, if_neg (by omega), List.drop_eq_nil_of_le (by rw [size_eq]; omega)]
    simp
  | succ d ih =>
    intro i ok hi
    have hl : i < s.data.toList.length := by rw [size_eq]; omega
    rw [tallboyref04_Key.l0L_eq, if_pos (by omega)]
    cases ok with
    | false => rw [if_neg (by decide)]; rfl
    | true =>
      rw [if_pos rfl, if_pos (by omega), drop_bytes s i hl, List.all_cons, bt_get s i hl]
      rw [show okByte (s.data.toList[i]) = (decide (33 ≤ (s.data.toList[i]).toNat) && decide ((s.data.toList[i]).toNat ≤ 126)) from rfl]
      rw [w64 (by omega) (by omega)]
      by_cases h1 : (s.data.toList[i].toNat : Int) ≥ 33
      · rw [if_pos h1]
        have := ih (i + 1) (decide ((s.data.toList[i].toNat : Int) ≤ 126)) (by omega)
        rw [show ((i : Int) + 1) = ((i + 1 : Nat) : Int) by omega, this]
        generalize s.data.toList[i].toNat = n at h1
        have hd : decide ((n : Int) ≤ 126) = decide (n ≤ 126) := decide_eq_decide.2 (by omega)
        rw [decide_eq_true (p := 33 ≤ n) (by omega), hd]
        simp
      · rw [if_neg h1]
        have := ih (i + 1) false (by omega)
        rw [show ((i : Int) + 1) = ((i + 1 : Nat) : Int) by omega, this, decide_eq_false (p := 33 ≤ s.data.toList[i].toNat) (by omega)]
        rfl

theorem rkey_stop (s : ByteArray) : tallboyref04_Key.l0L s false 0 = some false := by
  rw [tallboyref04_Key.l0L_eq]
  split
  · rw [if_neg (by decide)]
  · rfl

theorem rkey_eq (s : ByteArray) : tallboyref04_Key.L s = some (keyP s) := by
  rw [tallboyref04_Key.L_eq]
  unfold keyP
  by_cases h0 : 1 ≤ s.size
  · rw [if_pos (by omega), tallboyref04_Key.j0L_eq]
    by_cases h1 : s.size ≤ 32
    · rw [decide_eq_true (by omega), show (0 : Int) = ((0 : Nat) : Int) from rfl, rkey_loop s h1 s.size 0 true (by omega), decide_eq_true ⟨h0, h1⟩]
      rfl
    · rw [decide_eq_false (by omega), rkey_stop, decide_eq_false (by omega)]
      rfl
  · rw [if_neg (by omega), tallboyref04_Key.j0L_eq, rkey_stop, decide_eq_false (by omega)]
    rfl
end Go.Proofs.YtginfaencjmhgaaDoor.Pl
