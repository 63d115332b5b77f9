/- Frames: numbers as bytes, what an Op asks for, a code's status: the program and the document agree. No condition but a byte's and a number's size. -/
import Derived.Test.YtdepkgikdmlgiaaPl
import Derived.Test.YtdepkgikdmlgiaaLmR
import Derived.Laws.Bits64
namespace Go.Proofs.Ytdepkgikdmlgiaa.Pl
open Go Go.RowKit Go.Proofs.Ytdepkgikdmlgiaa.P Go.Proofs.Ytdepkgikdmlgiaa.Lim Go.Proofs.YtdepkgikdmlgiaaW.PrintWords

def putg : List Int → Int → Nat → List Int
  | l, _, 0 => l
  | l, v, j + 1 => putg (l.set j (v % 256)) (v / 256) j
theorem rput_loop (j : Nat) : ∀ (l : List Int) (v : Int), j ≤ l.length → l.length ≤ 1000000 → 0 ≤ v → v < 18446744073709551616 → tallboyref29_Put.l0L v l ((j : Int) - 1) = some (strOfNums (putg l v j)) := by
  induction j with
  | zero =>
    intro l v _ _ _ _
    rw [tallboyref29_Put.l0L_eq, if_neg (by omega)]
    rfl
  | succ j ih =>
    intro l v hj hl h0 h1
    rw [tallboyref29_Put.l0L_eq, if_pos (by omega), if_pos (by omega), if_pos (by omega), show (((j + 1 : Nat) : Int) - 1) = (j : Int) by omega, Int.toNat_natCast, w64 (by omega) (by omega), IntKind.wrap_u64, Int.tdiv_eq_ediv_of_nonneg h0, Int.tmod_eq_emod_of_nonneg h0, Int.emod_emod_of_dvd v (by decide : (256 : Int) ∣ 256), Int.emod_eq_of_lt (a := v / 256) (by omega) (by omega), ih _ _ (by rw [List.length_set]; omega) (by rw [List.length_set]; exact hl) (by omega) (by omega)]
    rfl
theorem rput_eq (v : Int) (n : Nat) (hn : n ≤ 1000000) (h0 : 0 ≤ v) (h1 : v < 18446744073709551616) : tallboyref29_Put.L v (n : Int) = some (strOfNums (putg (List.replicate n 0) v n)) := by
  rw [tallboyref29_Put.L_eq, if_pos (by omega), if_pos (by omega), Int.toNat_natCast, w64 (by omega) (by omega), rput_loop n _ _ (by rw [List.length_replicate]; omega) (by rw [List.length_replicate]; exact hn) h0 h1]

end Go.Proofs.Ytdepkgikdmlgiaa.Pl
