/- Frames: numbers as bytes, what an Op asks for, a code's status: the program and the document agree. No condition but a byte's and a number's size. -/
import Derived.Test.YtdepkgikdmlgiaaPl
import Derived.Test.YtdepkgikdmlgiaaLmR
import Derived.Laws.Bits64
namespace Go.Proofs.Ytdepkgikdmlgiaa.Pl
open Go Go.RowKit Go.Proofs.Ytdepkgikdmlgiaa.P Go.Proofs.Ytdepkgikdmlgiaa.Lim Go.Proofs.YtdepkgikdmlgiaaW.PrintWords

def putg : List Int → Int → Nat → List Int
  | l, _, 0 => l
  | l, v, j + 1 => putg (l.set j (v % 256)) (v / 256) j
theorem putg_length (j : Nat) : ∀ (l : List Int) (v : Int), (putg l v j).length = l.length := by
  induction j with
  | zero => intro l v; rfl
  | succ j ih => intro l v; rw [putg, ih, List.length_set]

theorem fput_loop (n : Nat) (hn : n ≤ 1000000) (j : Nat) : ∀ (i : Nat) (l : List Int) (v : Int), l.length = n → i + j = n → frame_put.l0L l v (n : Int) (i : Int) = some (putg l v j) := by
  induction j with
  | zero =>
    intro i l v hl hi
    rw [frame_put.l0L_eq, if_neg (by omega)]
    rfl
  | succ j ih =>
    intro i l v hl hi
    have e : wrap64 ((wrap64 ((l.length : Int) - 1)) - (i : Int)) = (j : Int) := by
      rw [w64 (i := (l.length : Int) - 1) (by omega) (by omega), w64 (by omega) (by omega)]
      omega
    rw [frame_put.l0L_eq, if_pos (by omega), e, if_pos (by omega), if_pos (by omega), w64 (by omega) (by omega), Int.toNat_natCast, show ((i : Int) + 1) = ((i + 1 : Nat) : Int) by omega, ih (i + 1) _ _ (by rw [List.length_set]; exact hl) (by omega)]
    rfl
theorem number_eq (v : Int) (n : Nat) (hn : n ≤ 1000000) : frame_number.L v (n : Int) = some (strOfNums (putg (List.replicate n 0) v n)) := by
  rw [frame_number.L_eq, if_pos (by omega), if_pos (by omega), Int.toNat_natCast, frame_put.L_eq, List.length_replicate, show (0 : Int) = ((0 : Nat) : Int) from rfl, fput_loop n hn n 0 _ _ (by rw [List.length_replicate]) (by omega)]
  rfl
theorem rput_loop (j : Nat) : ∀ (l : List Int) (v : Int), j ≤ l.length → l.length ≤ 1000000 → 0 ≤ v → v < 18446744073709551616 → tallboyref29_Put.l0L v l ((j : Int) - 1) = some (strOfNums (putg l v j)) := by
  induction j with
  | zero =>
    intro l v _ _ _ _
    rw [tallboyref29_Put.l0L_eq, if_neg (by omega)]
    rfl
  | succ j ih =>
    intro l v hj hl h0 h1
    rw [tallboyref29_Put.l0L_eq, if_pos (by omega), if_pos (by omega), if_pos (by omega), show (((j + 1 : Nat) : Int) - 1) = (j : Int) by omega, Int.toNat_natCast, w64 (by omega) (by omega), IntKind.wrap_u64, Int.tdiv_eq_ediv_of_nonneg h0, Int.tmod_eq_emod_of_nonneg h0, Int.emod_emod_of_dvd v (by decide : (256 : Int) ∣ 256), Int.emod_eq_of_lt (a := v / 256) (by omega) (by omega), ih _ _ (by rw [List.length_set]; omega) (by rw [List.length_set]; exact hl) (by omega) (by omega)]
    rfl
theorem rput_eq (v : Int) (n : Nat) (hn : n ≤ 1000000) (h0 : 0 ≤ v) (h1 : v < 18446744073709551616) : tallboyref29_Put.L v (n : Int) = some (strOfNums (putg (List.replicate n 0) v n)) := by
  rw [tallboyref29_Put.L_eq, if_pos (by omega), if_pos (by omega), Int.toNat_natCast, w64 (by omega) (by omega), rput_loop n _ _ (by rw [List.length_replicate]; omega) (by rw [List.length_replicate]; exact hn) h0 h1]

def opV (a : Int) : Int × Bool := (frame_find.f 20 a).getD (0, false)
theorem op_all : ∀ n : Nat, n < 256 → frame_find.f 20 (n : Int) = some (opV (n : Int)) ∧ tallboyref29_op.f 20 (n : Int) = some (opV (n : Int)) ∧ 0 ≤ (opV (n : Int)).1 ∧ (opV (n : Int)).1 ≤ 15 := by decide +kernel
theorem find_eq (a : Int) (h0 : 0 ≤ a) (h1 : a < 256) : frame_find.L a = some (opV a) := by
  have h := (op_all a.toNat (by omega)).1
  rw [Int.toNat_of_nonneg h0] at h
  exact (frame_find.Llm a).2 20 _ h
theorem op_eq (a : Int) (h0 : 0 ≤ a) (h1 : a < 256) : tallboyref29_op.L a = some (opV a) := by
  have h := (op_all a.toNat (by omega)).2.1
  rw [Int.toNat_of_nonneg h0] at h
  exact (tallboyref29_op.Llm a).2 20 _ h

def statV (c : Int) : Int := if c = 2 then 0 else if c = 6 then 0 else if c = 7 then 0 else if c = 9 then 0 else if c = 10 then 0 else if c = 1 then 1 else if c = 5 then 1 else if c = 3 then 5 else if c = 4 then 2 else if c = 8 then 6 else if c = 11 then 130 else if c = 12 then 3 else 4
theorem codes (c : Int) : c = 1 ∨ c = 2 ∨ c = 3 ∨ c = 4 ∨ c = 5 ∨ c = 6 ∨ c = 7 ∨ c = 8 ∨ c = 9 ∨ c = 10 ∨ c = 11 ∨ c = 12 ∨ (c ≠ 1 ∧ c ≠ 2 ∧ c ≠ 3 ∧ c ≠ 4 ∧ c ≠ 5 ∧ c ≠ 6 ∧ c ≠ 7 ∧ c ≠ 8 ∧ c ≠ 9 ∧ c ≠ 10 ∧ c ≠ 11 ∧ c ≠ 12) := by omega
theorem status_eq (c : Int) : frame_status.L c = some (statV c) := by
  rw [frame_status.L_eq]
  rcases codes c with rfl | rfl | rfl | rfl | rfl | rfl | rfl | rfl | rfl | rfl | rfl | rfl | ⟨h1, h2, h3, h4, h5, h6, h7, h8, h9, h10, h11, h12⟩ <;> simp [*, frame_status.j0L_eq, frame_status.j1L_eq, statV]
end Go.Proofs.Ytdepkgikdmlgiaa.Pl
