/- What a frame asks for: the program's Command and the document's are one and the same plain function of the frame. Conditions: the frame's numbers are of their kinds. -/
import Derived.Test.YtdepkgikdmlgiaaUnp
import Derived.Test.YtdepkgikdmlgiaaRep
import Derived.Test.YtdepkgikdmlgiaaRCk
import Derived.Test.YtdepkgikdmlgiaaLmC
namespace Go.Proofs.Ytdepkgikdmlgiaa.Pl
set_option linter.unusedVariables false
open Go Go.RowKit Go.Proofs.Ytdepkgikdmlgiaa.P Go.Proofs.Ytdepkgikdmlgiaa.Lim Go.Proofs.YtdepkgikdmlgiaaW.PrintWords

def extV (k : Int) : Int := if k = 5 ∨ k = 6 ∨ k = 7 ∨ k = 10 then 8 else if k = 12 ∨ k = 13 then 20 else if k = 14 ∨ k = 3 then 4 else 0
theorem kinds (k : Int) : k = 3 ∨ k = 5 ∨ k = 6 ∨ k = 7 ∨ k = 10 ∨ k = 12 ∨ k = 13 ∨ k = 14 ∨ (k ≠ 3 ∧ k ≠ 5 ∧ k ≠ 6 ∧ k ≠ 7 ∧ k ≠ 10 ∧ k ≠ 12 ∧ k ≠ 13 ∧ k ≠ 14) := by omega
theorem fext_eq (k : Int) : frame_extras.L k = some (extV k) := by
  rw [frame_extras.L_eq]
  rcases kinds k with rfl | rfl | rfl | rfl | rfl | rfl | rfl | rfl | ⟨h3, h5, h6, h7, h10, h12, h13, h14⟩ <;> simp [*, frame_extras.j0L_eq, frame_extras.j1L_eq, frame_extras.j2L_eq, extV]
abbrev CmT := Int × List ByteArray × Int × Int × ByteArray × Int × Int × Bool × Int
def badC (e : Int) : CmT := (0, [], 0, 0, ⟨#[]⟩, 0, 0, false, e)
def endV (k : Int) (keys : List ByteArray) (fl ex : Int) (v : ByteArray) (cas del : Int) (q : Bool) : CmT := if chk k keys fl ex v cas del q = 0 then (k, keys, fl, ex, v, cas, del, q, 0) else badC 6
/-- A number of four bytes, with its sign. -/
def xpV (l : List UInt8) : Int := wrap64 (wrap32 (((tk 0 l : Nat) : Int) % 4294967296))
def kdV (k cs : Int) : Int := if cs ≠ 0 ∧ (k = 5 ∨ k = 7) then 10 else k
def cmV (k cs : Int) (e : ByteArray) (keys : List ByteArray) (v : ByteArray) (q : Bool) : CmT :=
  if e.size = 4 then endV (kdV k cs) keys 0 (xpV e.data.toList) v cs 0 q
  else if e.size = 8 then endV (kdV k cs) keys (((tk 0 (e.extract 0 4).data.toList : Nat) : Int) % 4294967296) (xpV (e.extract 4 e.size).data.toList) v cs 0 q
  else if e.size = 20 then (if ((tk 0 (e.extract 16 e.size).data.toList : Nat) : Int) = 4294967295 then endV (kdV k cs) keys 0 0 v cs ((tk 0 (e.extract 0 8).data.toList : Nat) : Int) q else badC 6)
  else endV (kdV k cs) keys 0 0 v cs 0 q
def cmdV (a : Bool) (op cs : Int) (e ky v : ByteArray) : CmT :=
  if a = true then badC 5 else if (opV op).1 = 0 then badC 70 else if (e.size : Int) = extV (opV op).1 then cmV (opV op).1 cs e (if (opV op).1 = 15 ∧ ky.size = 0 then [] else [ky]) v ((opV op).2 && !rdB (opV op).1) else badC 6

theorem fexp_eq (s : ByteArray) (h : s.size ≤ 8) : frame_expiry.L s = some (xpV s.data.toList) := by
  rw [frame_expiry.L_eq, ftake_eq s h]
  rfl

theorem fc04 (cr kd : Int) (keys : List ByteArray) (fl ex : Int) (v : ByteArray) (cas del : Int) (q : Bool) : frame_Command.j4L cr kd keys fl ex v cas del q = some (if cr = 4294967295 then endV kd keys fl ex v cas del q else badC 6) := by
  rw [frame_Command.j4L_eq, check_eq, Option.bind_some]
  unfold endV
  split
  · split <;> rfl
  · rfl
theorem fc02 (k cr : Int) (a : Bool) (op st oq cs : Int) (e ky vl : ByteArray) (keys : List ByteArray) (fl ex : Int) (v : ByteArray) (cas del : Int) (q : Bool) : frame_Command.j2L k cr a op st oq cs e ky vl k keys fl ex v cas del q = some (if cr = 4294967295 then endV (kdV k cs) keys fl ex v cas del q else badC 6) := by
  rw [frame_Command.j2L_eq]
  unfold kdV
  by_cases h : cs = 0
  · rw [if_pos h, frame_Command.j3L_eq, if_neg (by decide), fc04, if_neg (show ¬ (cs ≠ 0 ∧ (k = 5 ∨ k = 7)) from fun g => g.1 h)]
  · rw [if_neg h]
    by_cases h5 : k = 5
    · rw [if_pos h5, frame_Command.j3L_eq, if_pos rfl, fc04, if_pos (show cs ≠ 0 ∧ (k = 5 ∨ k = 7) from ⟨h, Or.inl h5⟩)]
    · rw [if_neg h5, frame_Command.j3L_eq]
      by_cases h7 : k = 7
      · rw [if_pos (show (k == 7) = true by simpa using h7), fc04, if_pos (show cs ≠ 0 ∧ (k = 5 ∨ k = 7) from ⟨h, Or.inr h7⟩)]
      · rw [if_neg (show ¬ (k == 7) = true by simpa using h7), fc04, if_neg (show ¬ (cs ≠ 0 ∧ (k = 5 ∨ k = 7)) from fun g => g.2.elim h5 h7)]
theorem fc01 (k : Int) (a : Bool) (op st oq cs : Int) (e ky vl : ByteArray) (keys : List ByteArray) (v : ByteArray) (q : Bool) : frame_Command.j1L k a op st oq cs e ky vl k keys 0 0 v cs 0 q = some (cmV k cs e keys v q) := by
  rw [frame_Command.j1L_eq]
  unfold cmV
  by_cases h4 : e.size = 4
  · rw [if_pos (show (e.size : Int) = 4 by omega), if_pos h4, fexp_eq e (by omega), Option.bind_some, fc02, if_pos rfl]
  · rw [if_neg (show ¬ (e.size : Int) = 4 by omega), if_neg h4]
    by_cases h8 : e.size = 8
    · rw [if_pos (show (e.size : Int) = 8 by omega), if_pos h8, if_pos (show (0 : Nat) ≤ 4 by decide), if_pos (show (4 : Int) ≤ (e.size : Int) by omega), ftake_eq (e.extract 0 4) (by rw [ByteArray.size_extract]; omega), Option.bind_some, fexp_eq (e.extract 4 e.size) (by rw [ByteArray.size_extract]; omega), Option.bind_some, fc02, if_pos rfl]
    · rw [if_neg (show ¬ (e.size : Int) = 8 by omega), if_neg h8]
      by_cases h20 : e.size = 20
      · rw [if_pos (show (e.size : Int) = 20 by omega), if_pos h20, if_pos (show (0 : Nat) ≤ 8 by decide), if_pos (show (8 : Int) ≤ (e.size : Int) by omega), ftake_eq (e.extract 0 8) (by rw [ByteArray.size_extract]; omega), Option.bind_some, if_pos (show (16 : Int) ≤ (e.size : Int) by omega), ftake_eq (e.extract 16 e.size) (by rw [ByteArray.size_extract]; omega), Option.bind_some, fc02]
      · rw [if_neg (show ¬ (e.size : Int) = 20 by omega), if_neg h20, fc02, if_pos rfl]
theorem fc00 (k : Int) (x : Bool) (a : Bool) (op st oq cs : Int) (e ky vl : ByteArray) (v : ByteArray) (q : Bool) : frame_Command.j0L k x a op st oq cs e ky vl k 0 0 v cs 0 q = some (cmV k cs e (if x = true then [ky] else []) v q) := by
  rw [frame_Command.j0L_eq, fc01, fc01]
  split <;> rfl

theorem fc54 (cr kd : Int) (keys : List ByteArray) (fl ex : Int) (v : ByteArray) (cas del : Int) (q : Bool) : frame_Command.j9L cr kd keys fl ex v cas del q = some (if cr = 4294967295 then endV kd keys fl ex v cas del q else badC 6) := by
  rw [frame_Command.j9L_eq, check_eq, Option.bind_some]
  unfold endV
  split
  · split <;> rfl
  · rfl
theorem fc52 (k cr : Int) (a : Bool) (op st oq cs : Int) (e ky vl : ByteArray) (keys : List ByteArray) (fl ex : Int) (v : ByteArray) (cas del : Int) (q : Bool) : frame_Command.j7L k cr a op st oq cs e ky vl k keys fl ex v cas del q = some (if cr = 4294967295 then endV (kdV k cs) keys fl ex v cas del q else badC 6) := by
  rw [frame_Command.j7L_eq]
  unfold kdV
  by_cases h : cs = 0
  · rw [if_pos h, frame_Command.j8L_eq, if_neg (by decide), fc54, if_neg (show ¬ (cs ≠ 0 ∧ (k = 5 ∨ k = 7)) from fun g => g.1 h)]
  · rw [if_neg h]
    by_cases h5 : k = 5
    · rw [if_pos h5, frame_Command.j8L_eq, if_pos rfl, fc54, if_pos (show cs ≠ 0 ∧ (k = 5 ∨ k = 7) from ⟨h, Or.inl h5⟩)]
    · rw [if_neg h5, frame_Command.j8L_eq]
      by_cases h7 : k = 7
      · rw [if_pos (show (k == 7) = true by simpa using h7), fc54, if_pos (show cs ≠ 0 ∧ (k = 5 ∨ k = 7) from ⟨h, Or.inr h7⟩)]
      · rw [if_neg (show ¬ (k == 7) = true by simpa using h7), fc54, if_neg (show ¬ (cs ≠ 0 ∧ (k = 5 ∨ k = 7)) from fun g => g.2.elim h5 h7)]
theorem fc51 (k : Int) (a : Bool) (op st oq cs : Int) (e ky vl : ByteArray) (keys : List ByteArray) (v : ByteArray) (q : Bool) : frame_Command.j6L k a op st oq cs e ky vl k keys 0 0 v cs 0 q = some (cmV k cs e keys v q) := by
  rw [frame_Command.j6L_eq]
  unfold cmV
  by_cases h4 : e.size = 4
  · rw [if_pos (show (e.size : Int) = 4 by omega), if_pos h4, fexp_eq e (by omega), Option.bind_some, fc52, if_pos rfl]
  · rw [if_neg (show ¬ (e.size : Int) = 4 by omega), if_neg h4]
    by_cases h8 : e.size = 8
    · rw [if_pos (show (e.size : Int) = 8 by omega), if_pos h8, if_pos (show (0 : Nat) ≤ 4 by decide), if_pos (show (4 : Int) ≤ (e.size : Int) by omega), ftake_eq (e.extract 0 4) (by rw [ByteArray.size_extract]; omega), Option.bind_some, fexp_eq (e.extract 4 e.size) (by rw [ByteArray.size_extract]; omega), Option.bind_some, fc52, if_pos rfl]
    · rw [if_neg (show ¬ (e.size : Int) = 8 by omega), if_neg h8]
      by_cases h20 : e.size = 20
      · rw [if_pos (show (e.size : Int) = 20 by omega), if_pos h20, if_pos (show (0 : Nat) ≤ 8 by decide), if_pos (show (8 : Int) ≤ (e.size : Int) by omega), ftake_eq (e.extract 0 8) (by rw [ByteArray.size_extract]; omega), Option.bind_some, if_pos (show (16 : Int) ≤ (e.size : Int) by omega), ftake_eq (e.extract 16 e.size) (by rw [ByteArray.size_extract]; omega), Option.bind_some, fc52]
      · rw [if_neg (show ¬ (e.size : Int) = 20 by omega), if_neg h20, fc52, if_pos rfl]
theorem fc50 (k : Int) (x : Bool) (a : Bool) (op st oq cs : Int) (e ky vl : ByteArray) (v : ByteArray) (q : Bool) : frame_Command.j5L k x a op st oq cs e ky vl k 0 0 v cs 0 q = some (cmV k cs e (if x = true then [ky] else []) v q) := by
  rw [frame_Command.j5L_eq, fc51, fc51]
  split <;> rfl

theorem keys_of (k : Int) (ky : ByteArray) : (if k = 15 then (if (ky.toList != ([] : List UInt8)) = true then [ky] else []) else [ky]) = (if k = 15 ∧ ky.size = 0 then ([] : List ByteArray) else [ky]) := by
  by_cases h : k = 15
  · rw [if_pos h]
    by_cases h0 : ky.size = 0
    · rw [if_pos (show k = 15 ∧ ky.size = 0 from ⟨h, h0⟩), (toList_nil ky).2 h0]
      rfl
    · rw [if_neg (show ¬ (k = 15 ∧ ky.size = 0) from fun g => h0 g.2), if_pos (show (ky.toList != ([] : List UInt8)) = true by simpa using fun g => h0 ((toList_nil ky).1 g))]
  · rw [if_neg h, if_neg (show ¬ (k = 15 ∧ ky.size = 0) from fun g => h g.1)]
theorem fcmd_eq (a : Bool) (op st oq cs : Int) (e ky vl : ByteArray) (h0 : 0 ≤ op) (h1 : op < 256) : frame_Command.L a op st oq cs e ky vl = some (cmdV a op cs e ky vl) := by
  rw [frame_Command.L_eq, find_eq op h0 h1, Option.bind_some]
  unfold cmdV
  generalize (opV op).1 = k
  generalize (opV op).2 = q
  by_cases ha : a = true
  · rw [if_pos ha, if_pos ha]
    rfl
  · rw [if_neg ha, if_neg ha]
    by_cases hk : k = 0
    · rw [if_pos hk, if_pos hk]
      rfl
    · rw [if_neg hk, if_neg hk, fext_eq, Option.bind_some]
      by_cases he : (e.size : Int) = extV k
      · rw [if_pos he, if_pos he, ← keys_of]
        cases q with
        | true =>
          rw [if_pos rfl, freads_eq, Option.bind_some, fc00, fc00]
          split <;> rfl
        | false =>
          rw [if_neg (by decide), fc50, fc50]
          split <;> rfl
      · rw [if_neg he, if_neg he]
        rfl
end Go.Proofs.Ytdepkgikdmlgiaa.Pl
