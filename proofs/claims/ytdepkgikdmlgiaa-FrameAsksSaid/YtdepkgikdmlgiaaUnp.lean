/- Numbers in bytes, and what Unpack computes: the program's and the document's are one and the same plain function of the bytes. Condition: a text of at most 140737488351232 bytes. -/
import Derived.Test.YtdepkgikdmlgiaaPl
import Derived.Test.YtdepkgikdmlgiaaLmU
import Derived.Laws.BitsAllLaws
namespace Go.Proofs.Ytdepkgikdmlgiaa.Pl
open Go Go.RowKit Go.Proofs.Ytdepkgikdmlgiaa.P Go.Proofs.Ytdepkgikdmlgiaa.Lim Go.Proofs.YtdepkgikdmlgiaaW.PrintWords

def tk (v : Nat) (l : List UInt8) : Nat := l.foldl (fun v b => v * 256 + b.toNat) v
theorem tk_nil (v : Nat) : tk v [] = v := rfl
theorem tk_cons (v : Nat) (b : UInt8) (l : List UInt8) : tk v (b :: l) = tk (v * 256 + b.toNat) l := rfl
theorem or_low (v b : Nat) (hv : v < 72057594037927936) (hb : b < 256) : Go.bits .or .u64 (IntKind.u64.wrap ((v : Int) * 256)) (IntKind.u64.wrap (b : Int)) = ((v * 256 + b : Nat) : Int) := by
  rw [IntKind.wrap_u64, IntKind.wrap_u64, Int.emod_eq_of_lt (by omega) (by omega), Int.emod_eq_of_lt (by omega) (by omega), show ((v : Int) * 256) = ((v * 256 : Nat) : Int) by omega, u64_or_nat _ _ (by omega) (by omega)]
  have h := Nat.two_pow_add_eq_or_of_lt (i := 8) (b := b) (by omega) v
  rw [Nat.mul_comm v 256]
  exact congrArg Int.ofNat h.symm
theorem lt7 (v i : Nat) (hi : i ≤ 7) (h : v < 256 ^ i) : v < 72057594037927936 := Nat.lt_of_lt_of_le h (Nat.pow_le_pow_right (by decide) hi : 256 ^ i ≤ 256 ^ 7)
theorem ftake_loop (s : ByteArray) (hs : s.size ≤ 8) (d : Nat) : ∀ (i v : Nat), i + d = s.size → v < 256 ^ i → frame_take.l0L s (v : Int) (s.size : Int) (i : Int) = some ((tk v (s.data.toList.drop i) : Nat) : Int) := by
  induction d with
  | zero =>
    intro i v hi hv
    rw [frame_take.l0L_eq, if_neg (by omega), List.drop_eq_nil_of_le (by rw [size_eq]; omega), tk_nil]
  | succ d ih =>
    intro i v hi hv
    have hl : i < s.data.toList.length := by rw [size_eq]; omega
    have hb := (s.data.toList[i]'hl).toNat_lt
    have hv' := lt7 v i (by omega) hv
    rw [frame_take.l0L_eq, if_pos (by omega), if_pos (by omega), if_pos (by omega), bt_get s i hl, or_low v _ hv' (by omega), w64 (by omega) (by omega), show ((i : Int) + 1) = ((i + 1 : Nat) : Int) by omega, ih (i + 1) _ (by omega) (by rw [Nat.pow_succ]; omega), drop_bytes s i hl, tk_cons]
theorem ftake_eq (s : ByteArray) (hs : s.size ≤ 8) : frame_take.L s = some ((tk 0 s.data.toList : Nat) : Int) := by
  rw [frame_take.L_eq]
  exact ftake_loop s hs s.size 0 0 (by omega) (by decide)
theorem rtake_loop (s : ByteArray) (hs : s.size ≤ 8) (d : Nat) : ∀ (i v : Nat), i + d = s.size → v < 256 ^ i → tallboyref29_Take.l0L s (v : Int) (i : Int) = some ((tk v (s.data.toList.drop i) : Nat) : Int) := by
  induction d with
  | zero =>
    intro i v hi hv
    rw [tallboyref29_Take.l0L_eq, if_neg (by omega), List.drop_eq_nil_of_le (by rw [size_eq]; omega), tk_nil]
  | succ d ih =>
    intro i v hi hv
    have hl : i < s.data.toList.length := by rw [size_eq]; omega
    have hb := (s.data.toList[i]'hl).toNat_lt
    have hv' := lt7 v i (by omega) hv
    have e : IntKind.u64.wrap (IntKind.u64.wrap ((v : Int) * 256) + IntKind.u64.wrap ((s.data.toList[i].toNat : Nat) : Int)) = ((v * 256 + s.data.toList[i].toNat : Nat) : Int) := by
      rw [IntKind.wrap_u64, IntKind.wrap_u64, IntKind.wrap_u64]
      omega
    rw [tallboyref29_Take.l0L_eq, if_pos (by omega), if_pos (by omega), bt_get s i hl, e, w64 (by omega) (by omega), show ((i : Int) + 1) = ((i + 1 : Nat) : Int) by omega, ih (i + 1) _ (by omega) (by rw [Nat.pow_succ]; omega), drop_bytes s i hl, tk_cons]
theorem rtake_eq (s : ByteArray) (hs : s.size ≤ 8) : tallboyref29_Take.L s = some ((tk 0 s.data.toList : Nat) : Int) := by
  rw [tallboyref29_Take.L_eq]
  exact rtake_loop s hs s.size 0 0 (by omega) (by decide)

end Go.Proofs.Ytdepkgikdmlgiaa.Pl
