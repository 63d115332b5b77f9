/- The numbers of texts: the program's fnv.Sum and Stripe and the document's agree. No condition but a text's length below 2^62. -/
import Derived.Test.YtmogojefpjmhkaaPl
import Derived.Test.YtmogojefpjmhkaaLm1
import Derived.Laws.BitsAllLaws
namespace Go.Proofs.Ytmogojefpjmhkaa.Pl
open Go Go.RowKit Go.Proofs.Ytmogojefpjmhkaa.P Go.Proofs.Ytmogojefpjmhkaa.Lim Go.Proofs.YtmogojefpjmhkaaW.PrintWords

def mix (h : Nat) (b : UInt8) : Nat := ((h ^^^ b.toNat) * 16777619) % 4294967296
def fnvMore (h : Nat) (l : List UInt8) : Nat := l.foldl mix h
def fnvSum (s : ByteArray) : Nat := fnvMore 2166136261 s.data.toList
def stripeOf (s : ByteArray) : Nat := fnvSum s / 65536 % 4

theorem mix_lt (h : Nat) (b : UInt8) : mix h b < 4294967296 := Nat.mod_lt _ (by decide)
theorem fnvMore_lt (h : Nat) (l : List UInt8) (hh : h < 4294967296) : fnvMore h l < 4294967296 := by
  induction l generalizing h with
  | nil => exact hh
  | cons b l ih => exact ih (mix h b) (mix_lt h b)
theorem fnvSum_lt (s : ByteArray) : fnvSum s < 4294967296 := fnvMore_lt _ _ (by decide)
theorem stripe_lt (s : ByteArray) : stripeOf s < 4 := Nat.mod_lt _ (by decide)
theorem byte_lt (b : UInt8) : b.toNat < 4294967296 := Nat.lt_trans (UInt8.toNat_lt b) (by decide)
theorem xor_int (h : Nat) (b : UInt8) (hh : h < 4294967296) : Go.bits .xor .u32 (h : Int) ((b.toNat : Int) % 4294967296) = ((h ^^^ b.toNat : Nat) : Int) := by
  rw [Int.emod_eq_of_lt (by omega) (by have := byte_lt b; omega)]
  exact u32_xor_nat h b.toNat hh (byte_lt b)

theorem more_loop (s : ByteArray) (hs : s.size ≤ 4611686018427387904) (d : Nat) : ∀ (i h : Nat), i + d = s.size → h < 4294967296 → fnv_More.l0L (h : Int) s (s.size : Int) (i : Int) = some ((fnvMore h (s.data.toList.drop i) : Nat) : Int) := by
  induction d with
  | zero =>
    intro i h hi hh
    rw [fnv_More.l0L_eq, if_neg (by omega), List.drop_eq_nil_of_le (by rw [size_eq]; omega)]
    rfl
  | succ d ih =>
    intro i h hi hh
    have hl : i < s.data.toList.length := by rw [size_eq]; omega
    rw [fnv_More.l0L_eq, if_pos (by omega), if_pos (by omega), if_pos (by omega), drop_bytes s i hl, bt_get s i hl, xor_int h _ hh, w64 (by omega) (by omega)]
    have e : (((h ^^^ (s.data.toList[i]).toNat : Nat) : Int) * 16777619 % 4294967296) = ((mix h (s.data.toList[i]) : Nat) : Int) := by
      unfold mix
      omega
    rw [e, show ((i : Int) + 1) = ((i + 1 : Nat) : Int) by omega, ih (i + 1) _ (by omega) (mix_lt _ _)]
    rfl

theorem more_eq (h : Nat) (hh : h < 4294967296) (s : ByteArray) (hs : s.size ≤ 4611686018427387904) : fnv_More.L (h : Int) s = some ((fnvMore h s.data.toList : Nat) : Int) := by
  rw [fnv_More.L_eq, show (0 : Int) = ((0 : Nat) : Int) from rfl, more_loop s hs s.size 0 h (by omega) hh]
  rfl
theorem sum_eq (s : ByteArray) (hs : s.size ≤ 4611686018427387904) : fnv_Sum.L s = some ((fnvSum s : Nat) : Int) := by
  rw [fnv_Sum.L_eq, show (2166136261 : Int) = ((2166136261 : Nat) : Int) from rfl, more_eq _ (by decide) s hs]
  rfl

theorem stripe_eq (n : Nat) (hn : n < 4294967296) : fnv_Stripe.f (n : Int) = some ((n / 65536 % 4 : Nat) : Int) := by
  unfold fnv_Stripe.f
  have e : ((n : Int) / 65536) = ((n / 65536 : Nat) : Int) := by omega
  rw [e, show (3 : Int) = ((3 : Nat) : Int) from rfl, u32_and_nat (n / 65536) 3 (by omega) (by decide), show (3 : Nat) = 2 ^ 2 - 1 from rfl, Nat.and_two_pow_sub_one_eq_mod, w64 (by omega) (by omega)]
end Go.Proofs.Ytmogojefpjmhkaa.Pl
