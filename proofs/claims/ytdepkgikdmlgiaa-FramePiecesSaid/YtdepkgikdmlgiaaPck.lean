/- What Pack computes: the program's and the document's are one and the same plain function of the frame. Conditions: the frame's numbers are of their kinds. -/
import Derived.Test.YtdepkgikdmlgiaaFno
import Derived.Test.YtdepkgikdmlgiaaUnp
import Derived.Test.YtdepkgikdmlgiaaPx4
namespace Go.Proofs.Ytdepkgikdmlgiaa.Pl
set_option linter.unusedVariables false
open Go Go.RowKit Go.Proofs.Ytdepkgikdmlgiaa.P Go.Proofs.Ytdepkgikdmlgiaa.Lim Go.Proofs.YtdepkgikdmlgiaaW.PrintWords

/-- The head's 24 bytes. -/
def hdV (a : Bool) (op st oq cs : Int) (e k v : Nat) : List Int :=
  [if a = true then 129 else 128, op, (k : Int) / 256 % 256, (k : Int) % 256, (e : Int) % 256, 0, st / 256 % 256, st % 256,
   ((e + k + v : Nat) : Int) / 256 / 256 / 256 % 256, ((e + k + v : Nat) : Int) / 256 / 256 % 256, ((e + k + v : Nat) : Int) / 256 % 256, ((e + k + v : Nat) : Int) % 256,
   oq / 256 / 256 / 256 % 256, oq / 256 / 256 % 256, oq / 256 % 256, oq % 256,
   cs / 256 / 256 / 256 / 256 / 256 / 256 / 256 % 256, cs / 256 / 256 / 256 / 256 / 256 / 256 % 256, cs / 256 / 256 / 256 / 256 / 256 % 256, cs / 256 / 256 / 256 / 256 % 256, cs / 256 / 256 / 256 % 256, cs / 256 / 256 % 256, cs / 256 % 256, cs % 256]
def pkV (a : Bool) (op st oq cs : Int) (ex ky vl : ByteArray) : ByteArray := strOfNums (hdV a op st oq cs ex.size ky.size vl.size) ++ ex ++ ky ++ vl
def okF (a : Bool) (st : Int) (e k v : Nat) : Prop := k ≤ 250 ∧ e ≤ 20 ∧ v ≤ 1048576 ∧ (a = true ∨ st = 0)
theorem hd_length (a : Bool) (op st oq cs : Int) (e k v : Nat) : (hdV a op st oq cs e k v).length = 24 := rfl
theorem head_eq (a : Bool) (op st oq cs : Int) (ex ky vl : ByteArray) (h1 : 0 ≤ op ∧ op < 256) (h2 : 0 ≤ st ∧ st < 65536) (h3 : 0 ≤ oq ∧ oq < 4294967296) (h5 : ky.size ≤ 250) (h6 : ex.size ≤ 20) (h7 : vl.size ≤ 1048576) :
    frame_Pack.head a op st oq cs ex ky vl = hdV a op st oq cs ex.size ky.size vl.size := by
  have e1 : IntKind.u64.wrap (ky.size : Int) = (ky.size : Int) := by rw [IntKind.wrap_u64]; omega
  have e2 : IntKind.u64.wrap (ex.size : Int) = (ex.size : Int) := by rw [IntKind.wrap_u64]; omega
  have e3 : IntKind.u64.wrap st = st := by rw [IntKind.wrap_u64]; omega
  have e4 : IntKind.u64.wrap oq = oq := by rw [IntKind.wrap_u64]; omega
  have e5 : IntKind.u64.wrap (wrap64 (wrap64 ((ex.size : Int) + (ky.size : Int)) + (vl.size : Int))) = ((ex.size + ky.size + vl.size : Nat) : Int) := by
    rw [w64 (i := (ex.size : Int) + ky.size) (by omega) (by omega), w64 (by omega) (by omega), IntKind.wrap_u64]
    omega
  unfold frame_Pack.head hdV
  rw [e1, e2, e3, e4, e5]
  cases a
  · rw [if_neg (by decide), if_neg (by decide)]
    simp only [frame_Pack.putw, List.replicate_succ, List.replicate_zero, List.set_cons_zero, List.set_cons_succ, Nat.reduceAdd, Nat.add_zero]
  · rw [if_pos rfl, if_pos rfl]
    simp only [frame_Pack.putw, List.replicate_succ, List.replicate_zero, List.set_cons_zero, List.set_cons_succ, Nat.reduceAdd, Nat.add_zero]
theorem fpack_eq (a : Bool) (op st oq cs : Int) (ex ky vl : ByteArray) (h1 : 0 ≤ op ∧ op < 256) (h2 : 0 ≤ st ∧ st < 65536) (h3 : 0 ≤ oq ∧ oq < 4294967296) :
    (okF a st ex.size ky.size vl.size → frame_Pack.f a op st oq cs ex ky vl = some (pkV a op st oq cs ex ky vl, 0)) ∧ (¬ okF a st ex.size ky.size vl.size → frame_Pack.f a op st oq cs ex ky vl = some (⟨#[]⟩, 7)) := by
  unfold frame_Pack.f okF
  rw [fits_eq, Option.bind_some]
  constructor
  · intro ⟨g1, g2, g3, g4⟩
    rw [if_pos (decide_eq_true ⟨by omega, by omega, by omega⟩), if_pos g4, head_eq a op st oq cs ex ky vl h1 h2 h3 g1 g2 g3, strOfNums_size, hd_length, if_pos (by omega)]
    rfl
  · intro hn
    by_cases h : ((ky.size : Int) ≤ 250 ∧ (ex.size : Int) ≤ 20 ∧ (vl.size : Int) ≤ 1048576)
    · rw [if_pos (decide_eq_true h), if_neg (fun g => hn ⟨by omega, by omega, by omega, g⟩)]
    · rw [if_neg (by rw [decide_eq_false h]; decide)]
theorem p1 (v : Int) (h0 : 0 ≤ v) (h1 : v < 18446744073709551616) : tallboyref29_Put.L v 1 = some (strOfNums [v % 256]) := rput_eq v 1 (by decide) h0 h1
theorem p4 (v : Int) (h0 : 0 ≤ v) (h1 : v < 18446744073709551616) : tallboyref29_Put.L v 4 = some (strOfNums [v / 256 / 256 / 256 % 256, v / 256 / 256 % 256, v / 256 % 256, v % 256]) := rput_eq v 4 (by decide) h0 h1
theorem p8 (v : Int) (h0 : 0 ≤ v) (h1 : v < 18446744073709551616) : tallboyref29_Put.L v 8 = some (strOfNums [v / 256 / 256 / 256 / 256 / 256 / 256 / 256 % 256, v / 256 / 256 / 256 / 256 / 256 / 256 % 256, v / 256 / 256 / 256 / 256 / 256 % 256, v / 256 / 256 / 256 / 256 % 256, v / 256 / 256 / 256 % 256, v / 256 / 256 % 256, v / 256 % 256, v % 256]) := rput_eq v 8 (by decide) h0 h1
theorem z2 (l m : List Int) (h : l.length + m.length ≤ 100) : (strOfNums l).size + (strOfNums m).size ≤ 9223372036854775807 := by
  rw [strOfNums_size, strOfNums_size]
  omega
theorem z3 (l : List Int) (ex : ByteArray) (h : l.length ≤ 100) (h6 : ex.size ≤ 20) : (strOfNums l).size + ex.size ≤ 9223372036854775807 := by
  rw [strOfNums_size]
  omega
theorem z4 (l : List Int) (ex ky : ByteArray) (h : l.length ≤ 100) (h6 : ex.size ≤ 20) (h5 : ky.size ≤ 250) : (strOfNums l ++ ex).size + ky.size ≤ 9223372036854775807 := by
  rw [ByteArray.size_append, strOfNums_size]
  omega
theorem z5 (l : List Int) (ex ky vl : ByteArray) (h : l.length ≤ 100) (h6 : ex.size ≤ 20) (h5 : ky.size ≤ 250) (h7 : vl.size ≤ 1048576) : (strOfNums l ++ ex ++ ky).size + vl.size ≤ 9223372036854775807 := by
  rw [ByteArray.size_append, ByteArray.size_append, strOfNums_size]
  omega
end Go.Proofs.Ytdepkgikdmlgiaa.Pl
