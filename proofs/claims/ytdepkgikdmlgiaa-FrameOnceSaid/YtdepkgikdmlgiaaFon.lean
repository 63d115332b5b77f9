/- A packed frame's bytes, with anything behind, are unpacked as that frame; a byte that begins no frame is none. Plain Lean; no condition. -/
import Derived.Test.YtdepkgikdmlgiaaFr5
import Derived.Test.YtdepkgikdmlgiaaUnp
import Derived.Test.YtdepkgikdmlgiaaBck
namespace Go.Proofs.Ytdepkgikdmlgiaa.Pl
set_option linter.unusedVariables false
open Go Go.RowKit Go.Proofs.Ytdepkgikdmlgiaa.P Go.Proofs.Ytdepkgikdmlgiaa.Lim Go.Proofs.YtdepkgikdmlgiaaW.PrintWords
/-- A text's bytes as numbers. -/
def bytesL (s : ByteArray) : List Int := s.data.toList.map fun b => (b.toNat : Int)
theorem bytesL_len (s : ByteArray) : (bytesL s).length = s.size := by
  unfold bytesL
  rw [List.length_map, size_eq]
theorem bytesL_str (s : ByteArray) : strOfNums (bytesL s) = s := by
  apply ba_ext
  unfold bytesL strOfNums
  simp only [List.map_map]
  refine (List.map_congr_left (g := id) fun b _ => ?_).trans (by simp)
  simp
/-- These bytes are a frame's, whatever comes behind them. -/
def IsPk (p : List Int) : Prop := ∀ rest : List Int, ∃ (f1 : Bool) (f2 f3 f4 f5 : Int) (f6 f7 f8 : ByteArray), unp (strOfNums (p ++ rest)) = (f1, f2, f3, f4, f5, f6, f7, f8, (p.length : Int), 0)
theorem pk_of (a : Bool) (op st oq cs : Int) (ex ky vl : ByteArray) (h1 : 0 ≤ op ∧ op < 256) (h2 : 0 ≤ st ∧ st < 65536) (h3 : 0 ≤ oq ∧ oq < 4294967296) (h4 : 0 ≤ cs ∧ cs < 18446744073709551616) :
    ∃ (s : ByteArray) (e : Int), frame_Pack.f a op st oq cs ex ky vl = some (s, e) ∧ (e = 0 → IsPk (bytesL s)) ∧ s.size ≤ 24 + (ex.size + ky.size + vl.size) := by
  by_cases ok : okF a st ex.size ky.size vl.size
  · refine ⟨_, _, (fpack_eq a op st oq cs ex ky vl h1 h2 h3).1 ok, fun _ rest => ?_, Nat.le_of_eq (pk_size ..)⟩
    rw [← P.nums_append, bytesL_str, bytesL_len, pk_size]
    exact ⟨_, _, _, _, _, _, _, _, unp_pk a op st oq cs ex ky vl (strOfNums rest) h1 h2 h3 h4 ok⟩
  · exact ⟨_, _, (fpack_eq a op st oq cs ex ky vl h1 h2 h3).2 ok, fun h => absurd h (by decide), Nat.zero_le _⟩
theorem bad_byte (b : Int) (h0 : 0 ≤ b) (h1 : b < 256) (h2 : b ≠ 128) (h3 : b ≠ 129) : unp (strOfNums [b]) = badF 6 := by
  have hb : bt (strOfNums [b]) 0 = b := by
    have h := bt_get (strOfNums [b]) 0 (by simp [strOfNums])
    rw [show ((0 : Nat) : Int) = 0 from rfl] at h
    rw [h]
    simp [strOfNums]
    omega
  refine unp_bad _ ⟨by simp [strOfNums, ByteArray.size], ?_, ?_⟩
  · rw [hb]; exact h2
  · rw [hb]; exact h3
end Go.Proofs.Ytdepkgikdmlgiaa.Pl
