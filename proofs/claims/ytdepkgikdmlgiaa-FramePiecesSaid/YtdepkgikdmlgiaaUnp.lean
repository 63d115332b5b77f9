/- Numbers in bytes, and what Unpack computes: the program's and the document's are one and the same plain function of the bytes. Condition: a text of at most 140737488351232 bytes. -/
import Derived.Test.YtdepkgikdmlgiaaPl
import Derived.Test.YtdepkgikdmlgiaaLmU
import Derived.Laws.BitsAllLaws
namespace Go.Proofs.Ytdepkgikdmlgiaa.Pl
open Go Go.RowKit Go.Proofs.Ytdepkgikdmlgiaa.P Go.Proofs.Ytdepkgikdmlgiaa.Lim Go.Proofs.YtdepkgikdmlgiaaW.PrintWords

def tk (v : Nat) (l : List UInt8) : Nat := l.foldl (fun v b => v * 256 + b.toNat) v
theorem tk_nil (v : Nat) : tk v [] = v := rfl
theorem tk_cons (v : Nat) (b : UInt8) (l : List UInt8) : tk v (b :: l) = tk (v * 256 + b.toNat) l := rfl
theorem tk_lt (l : List UInt8) : ∀ (v i : Nat), v < 256 ^ i → tk v l < 256 ^ (i + l.length) := by
  induction l with
  | nil => intro v i h; exact h
  | cons b l ih =>
    intro v i h
    rw [tk_cons, List.length_cons, show i + (l.length + 1) = (i + 1) + l.length by omega]
    refine ih _ _ ?_
    have hb := b.toNat_lt
    rw [Nat.pow_succ]
    omega
theorem or_low (v b : Nat) (hv : v < 72057594037927936) (hb : b < 256) : Go.bits .or .u64 (IntKind.u64.wrap ((v : Int) * 256)) (IntKind.u64.wrap (b : Int)) = ((v * 256 + b : Nat) : Int) := by
  rw [IntKind.wrap_u64, IntKind.wrap_u64, Int.emod_eq_of_lt (by omega) (by omega), Int.emod_eq_of_lt (by omega) (by omega), show ((v : Int) * 256) = ((v * 256 : Nat) : Int) by omega, u64_or_nat _ _ (by omega) (by omega)]
  have h := Nat.two_pow_add_eq_or_of_lt (i := 8) (b := b) (by omega) v
  rw [Nat.mul_comm v 256]
  exact congrArg Int.ofNat h.symm
theorem lt7 (v i : Nat) (hi : i ≤ 7) (h : v < 256 ^ i) : v < 72057594037927936 := Nat.lt_of_lt_of_le h (Nat.pow_le_pow_right (by decide) hi : 256 ^ i ≤ 256 ^ 7)
theorem ftake_loop (s : ByteArray) (hs : s.size ≤ 8) (d : Nat) : ∀ (i v : Nat), i + d = s.size → v < 256 ^ i → frame_take.l0L s (v : Int) (s.size : Int) (i : Int) = some ((tk v (s.data.toList.drop i) : Nat) : Int) := by
  induction d with
  | zero =>
    intro i v hi hv
    rw [frame_take.l0L_eq, if_neg (by omega), List.drop_eq_nil_of_le (by rw [size_eq]; omega), tk_nil]
  | succ d ih =>
    intro i v hi hv
    have hl : i < s.data.toList.length := by rw [size_eq]; omega
    have hb := (s.data.toList[i]'hl).toNat_lt
    have hv' := lt7 v i (by omega) hv
    rw [frame_take.l0L_eq, if_pos (by omega), if_pos (by omega), if_pos (by omega), bt_get s i hl, or_low v _ hv' (by omega), w64 (by omega) (by omega), show ((i : Int) + 1) = ((i + 1 : Nat) : Int) by omega, ih (i + 1) _ (by omega) (by rw [Nat.pow_succ]; omega), drop_bytes s i hl, tk_cons]
theorem ftake_eq (s : ByteArray) (hs : s.size ≤ 8) : frame_take.L s = some ((tk 0 s.data.toList : Nat) : Int) := by
  rw [frame_take.L_eq]
  exact ftake_loop s hs s.size 0 0 (by omega) (by decide)
abbrev FrT := Bool × Int × Int × Int × Int × ByteArray × ByteArray × ByteArray × Int × Int
def badF (e : Int) : FrT := (false, 0, 0, 0, 0, ⟨#[]⟩, ⟨#[]⟩, ⟨#[]⟩, 0, e)
def sb (s : ByteArray) (i j : Nat) : Nat := tk 0 (s.extract i j).data.toList
theorem sb_lt (s : ByteArray) (i j n : Nat) (h : j - i ≤ n) : sb s i j < 256 ^ n := by
  refine Nat.lt_of_lt_of_le (tk_lt _ 0 0 (by decide)) (Nat.pow_le_pow_right (by decide) ?_)
  rw [Nat.zero_add, size_eq, ByteArray.size_extract]
  omega
theorem ftake_sb (s : ByteArray) (i j : Nat) (h : j - i ≤ 8) : frame_take.L (s.extract i j) = some ((sb s i j : Nat) : Int) := ftake_eq _ (by rw [ByteArray.size_extract]; omega)
theorem bt_rng (s : ByteArray) (i : Int) : 0 ≤ bt s i ∧ bt s i < 256 := by
  unfold bt
  split
  · have := (s[i.toNat]).toNat_lt
    omega
  · omega
theorem ex_ex (s : ByteArray) (a e i j : Nat) (h : a + j ≤ e) : (s.extract a e).extract i j = s.extract (a + i) (a + j) := by
  apply ByteArray.ext
  rw [ByteArray.data_extract, ByteArray.data_extract, ByteArray.data_extract, Array.extract_extract, Nat.min_eq_left h]

/-- What the bytes behind the first three tests are. -/
def unpV (s : ByteArray) : FrT :=
  if (bt s 5 = 0 ∧ (bt s 0 = 129 ∨ sb s 6 8 = 0)) ∧ (sb s 2 4 : Int) + bt s 4 ≤ sb s 8 12 then
    (if (sb s 2 4 : Int) ≤ 250 ∧ bt s 4 ≤ 20 ∧ (sb s 8 12 : Int) - sb s 2 4 - bt s 4 ≤ 1048576 then
      (if (s.size : Int) < 24 + sb s 8 12 then badF 3
       else (bt s 0 == 129, bt s 1, (sb s 6 8 : Int), (sb s 12 16 : Int), (sb s 16 24 : Int), s.extract 24 (24 + (bt s 4).toNat), s.extract (24 + (bt s 4).toNat) (24 + (bt s 4).toNat + sb s 2 4), s.extract (24 + (bt s 4).toNat + sb s 2 4) (24 + sb s 8 12), 24 + (sb s 8 12 : Int), 0))
     else badF 7)
  else badF 6
def unp (s : ByteArray) : FrT := if s.size ≠ 0 ∧ bt s 0 ≠ 128 ∧ bt s 0 ≠ 129 then badF 6 else if s.size < 24 then badF 3 else unpV s

theorem unp_in (s : ByteArray) (h : ¬ (s.size ≠ 0 ∧ bt s 0 ≠ 128 ∧ bt s 0 ≠ 129)) : unp s = (if s.size < 24 then badF 3 else unpV s) := if_neg h
theorem unp_bad (s : ByteArray) (h : s.size ≠ 0 ∧ bt s 0 ≠ 128 ∧ bt s 0 ≠ 129) : unp s = badF 6 := if_pos h
def okH (s : ByteArray) : Prop := (bt s 5 = 0 ∧ (bt s 0 = 129 ∨ sb s 6 8 = 0)) ∧ (sb s 2 4 : Int) + bt s 4 ≤ sb s 8 12
theorem unpV_bad (s : ByteArray) (h : ¬ okH s) : unpV s = badF 6 := if_neg h
theorem unpV_in (s : ByteArray) (e : Nat) (he : bt s 4 = (e : Int)) (h : okH s) : unpV s = (if (sb s 2 4 : Int) ≤ 250 ∧ (e : Int) ≤ 20 ∧ (sb s 8 12 : Int) - sb s 2 4 - e ≤ 1048576 then (if (s.size : Int) < 24 + sb s 8 12 then badF 3 else (bt s 0 == 129, bt s 1, (sb s 6 8 : Int), (sb s 12 16 : Int), (sb s 16 24 : Int), s.extract 24 (24 + e), s.extract (24 + e) (24 + e + sb s 2 4), s.extract (24 + e + sb s 2 4) (24 + sb s 8 12), 24 + (sb s 8 12 : Int), 0)) else badF 7) := by
  unfold unpV
  rw [if_pos (show _ ∧ _ from h), he, Int.toNat_natCast]
theorem unpV_by (s : ByteArray) (e : Nat) (he : bt s 4 = (e : Int)) (x : Bool) (hx : x = false ↔ okH s) : some (if x = false then (if (sb s 2 4 : Int) ≤ 250 ∧ (e : Int) ≤ 20 ∧ (sb s 8 12 : Int) - sb s 2 4 - e ≤ 1048576 then (if (s.size : Int) < 24 + sb s 8 12 then badF 3 else (bt s 0 == 129, bt s 1, (sb s 6 8 : Int), (sb s 12 16 : Int), (sb s 16 24 : Int), s.extract 24 (24 + e), s.extract (24 + e) (24 + e + sb s 2 4), s.extract (24 + e + sb s 2 4) (24 + sb s 8 12), 24 + (sb s 8 12 : Int), 0)) else badF 7) else badF 6) = some (unpV s) := by
  by_cases hP : okH s
  · rw [if_pos (hx.2 hP), unpV_in s e he hP]
  · rw [if_neg (fun h => hP (hx.1 h)), unpV_bad s hP]

theorem fits_eq (a b c : Int) : frame_fits.f a b c = some (decide (a ≤ 250 ∧ b ≤ 20 ∧ c ≤ 1048576)) := by
  unfold frame_fits.f
  by_cases h1 : a ≤ 250
  · by_cases h2 : b ≤ 20
    · simp [h1, h2]
    · simp [h1, h2]
  · simp [h1]
theorem fj1_eq (s : ByteArray) (hs : s.size ≤ 140737488351232) (ky al e : Nat) (v : Int) (x : Bool) (a : Bool) (o st oq cs : Int) (p q r : ByteArray) (h1 : ky < 65536) (h2 : al < 4294967296) (h3 : e < 256) (hv : v = (al : Int) - ky - e) (h24 : 24 ≤ s.size) (hx : x = false → ky + e ≤ al) :
    frame_Unpack.j1L s (ky : Int) (e : Int) (al : Int) v x a o st oq cs p q r = some (if x = false then (if (ky : Int) ≤ 250 ∧ (e : Int) ≤ 20 ∧ (al : Int) - ky - e ≤ 1048576 then (if (s.size : Int) < 24 + al then badF 3 else (a, o, st, oq, cs, s.extract 24 (24 + e), s.extract (24 + e) (24 + e + ky), s.extract (24 + e + ky) (24 + al), 24 + (al : Int), 0)) else badF 7) else badF 6) := by
  rw [frame_Unpack.j1L_eq]
  cases x with
  | true => rfl
  | false =>
    have hle := hx rfl
    rw [if_neg (by decide), if_pos rfl, fits_eq, Option.bind_some, ← hv]
    by_cases hf : (ky : Int) ≤ 250 ∧ (e : Int) ≤ 20 ∧ v ≤ 1048576
    · rw [decide_eq_true hf, if_pos rfl, if_pos hf, w64 (i := 24 + (al : Int)) (by omega) (by omega)]
      by_cases hz : (s.size : Int) < 24 + al
      · rw [if_pos hz, if_pos hz]
        rfl
      · have hsz : (s.extract 24 (24 + (al : Int)).toNat).size = al := by
          rw [ByteArray.size_extract]
          omega
        have ha : (24 + (al : Int)).toNat = 24 + al := by omega
        rw [if_neg hz, if_neg hz, hsz, w64 (i := (e : Int) + ky) (by omega) (by omega), if_pos (by omega), if_pos (by omega), if_pos (by omega), if_pos (by omega), if_pos (by omega), if_pos (by omega), if_pos (by omega), ha, show ((e : Int) + ky).toNat = e + ky by omega, Int.toNat_natCast, ex_ex _ _ _ _ _ (by omega), ex_ex _ _ _ _ _ (by omega), ex_ex _ _ _ _ _ (by omega), Nat.add_zero, Nat.add_assoc 24 e ky]
    · rw [decide_eq_false hf, if_neg (by decide), if_neg hf]
      rfl
set_option maxHeartbeats 2000000 in
theorem fj0_eq (s : ByteArray) (hs : s.size ≤ 140737488351232) : frame_Unpack.j0L s false = some (if s.size < 24 then badF 3 else unpV s) := by
  rw [frame_Unpack.j0L_eq, if_neg (by decide)]
  by_cases h24 : s.size < 24
  · rw [if_pos (by omega), if_pos h24]
    rfl
  · rw [if_neg (by omega), if_neg h24]
    have b4 := bt_rng s 4
    have k1 : sb s 2 4 < 65536 := sb_lt s 2 4 2 (by decide)
    have k2 : sb s 8 12 < 4294967296 := sb_lt s 8 12 4 (by decide)
    have k3 : sb s 6 8 < 65536 := sb_lt s 6 8 2 (by decide)
    have k4 : sb s 12 16 < 4294967296 := sb_lt s 12 16 4 (by decide)
    obtain ⟨e, he⟩ : ∃ e : Nat, bt s 4 = (e : Int) := ⟨(bt s 4).toNat, by omega⟩
    have w1 : wrap64 ((sb s 2 4 : Nat) : Int) = (sb s 2 4 : Int) := w64 (by omega) (by omega)
    have w2 : wrap64 ((sb s 8 12 : Nat) : Int) = (sb s 8 12 : Int) := w64 (by omega) (by omega)
    have w3 : wrap64 (e : Int) = (e : Int) := w64 (by omega) (by omega)
    have w4 : wrap64 ((sb s 8 12 : Nat) - (sb s 2 4 : Nat) : Int) = (sb s 8 12 : Int) - sb s 2 4 := w64 (by omega) (by omega)
    have w5 : wrap64 ((sb s 8 12 : Nat) - (sb s 2 4 : Nat) - (e : Int)) = (sb s 8 12 : Int) - sb s 2 4 - e := w64 (by omega) (by omega)
    have w6 : IntKind.u16.wrap ((sb s 6 8 : Nat) : Int) = (sb s 6 8 : Int) := by rw [IntKind.wrap_u16]; omega
    have w7 : ((sb s 12 16 : Nat) : Int) % 4294967296 = (sb s 12 16 : Int) := by omega
    have g1 : ((s.size : Nat) : Int) ≥ 24 := by omega
    simp only [show (0 : Int) < (s.size : Int) by omega, show (1 : Int) < (s.size : Int) by omega, show (8 : Int) ≤ (s.size : Int) by omega, show (16 : Int) ≤ (s.size : Int) by omega, show (24 : Int) ≤ (s.size : Int) by omega, show (4 : Int) ≤ (s.size : Int) by omega, show (4 : Int) < (s.size : Int) by omega, show (12 : Int) ≤ (s.size : Int) by omega, show (5 : Int) < (s.size : Int) by omega,
      show ((6 : Nat) ≤ 8) = True by decide, show ((12 : Nat) ≤ 16) = True by decide, show ((16 : Nat) ≤ 24) = True by decide, show ((2 : Nat) ≤ 4) = True by decide, show ((8 : Nat) ≤ 12) = True by decide, if_true, ftake_sb s _ _ (by decide : 8 - 6 ≤ 8), ftake_sb s _ _ (by decide : 16 - 12 ≤ 8), ftake_sb s _ _ (by decide : 24 - 16 ≤ 8), ftake_sb s _ _ (by decide : 4 - 2 ≤ 8), ftake_sb s _ _ (by decide : 12 - 8 ≤ 8), Option.bind_some, he, w1, w2, w3, w4, w5, w6, w7]
    have J := fun x hx a o st oq cs => fj1_eq s hs (sb s 2 4) (sb s 8 12) e ((sb s 8 12 : Int) - sb s 2 4 - e) x a o st oq cs ⟨#[]⟩ ⟨#[]⟩ ⟨#[]⟩ k1 k2 (by omega) rfl (by omega) hx
    have hlt : ((sb s 8 12 : Int) - sb s 2 4 - e < 0) ↔ ¬ ((sb s 2 4 : Int) + e ≤ sb s 8 12) := by omega
    by_cases c5 : bt s 5 = 0
    · rw [if_pos c5]
      by_cases c0 : bt s 0 = 129
      · rw [if_pos c0, J _ (fun h => by have := of_decide_eq_false h; omega)]
        exact unpV_by s e he _ ⟨fun h => ⟨⟨c5, Or.inl c0⟩, by have := of_decide_eq_false h; omega⟩, fun h => decide_eq_false (by have := h.2; omega)⟩
      · rw [if_neg c0]
        by_cases cs : (sb s 6 8 : Int) = 0
        · rw [if_pos cs, J _ (fun h => by have := of_decide_eq_false h; omega)]
          exact unpV_by s e he _ ⟨fun h => ⟨⟨c5, Or.inr (by omega)⟩, by have := of_decide_eq_false h; omega⟩, fun h => decide_eq_false (by have := h.2; omega)⟩
        · rw [if_neg cs, show (((sb s 6 8 : Nat) : Int) != 0) = true by simpa using cs, J _ (fun h => by cases h)]
          exact unpV_by s e he _ ⟨fun h => (by cases h), fun h => by rcases h.1.2 with h | h; exact absurd h c0; exact absurd (by omega) cs⟩
    · rw [if_neg c5, show (bt s 5 != 0) = true by simpa using c5, J _ (fun h => by cases h)]
      exact unpV_by s e he _ ⟨fun h => (by cases h), fun h => absurd h.1.1 c5⟩
theorem funp_eq (s : ByteArray) (hs : s.size ≤ 140737488351232) : frame_Unpack.L s = some (unp s) := by
  rw [frame_Unpack.L_eq]
  by_cases h0 : s.size = 0
  · rw [if_pos ((toList_nil s).2 h0), fj0_eq s hs, unp_in s (fun h => h.1 h0)]
  · rw [if_neg (fun h => h0 ((toList_nil s).1 h)), if_pos (by omega)]
    by_cases h1 : bt s 0 = 128
    · rw [if_pos h1, fj0_eq s hs, unp_in s (fun h => h.2.1 h1)]
    · rw [if_neg h1]
      by_cases h2 : bt s 0 = 129
      · rw [show (bt s 0 != 129) = false by simpa using h2, fj0_eq s hs, unp_in s (fun h => h.2.2 h2)]
      · rw [show (bt s 0 != 129) = true by simpa using h2, unp_bad s ⟨h0, h1, h2⟩, frame_Unpack.j0L_eq, if_pos rfl]
        rfl
end Go.Proofs.Ytdepkgikdmlgiaa.Pl
