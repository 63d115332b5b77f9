/- What is wrong with a command: the program's verb.Check and the document's agree, on every command. No condition but a row's length below 2^62. -/
import Derived.Test.YtginfaencjmhgaaDoorKey
namespace Go.Proofs.YtginfaencjmhgaaDoor.Pl
open Go Go.RowKit Go.Proofs.YtginfaencjmhgaaDoor.P Go.Proofs.YtginfaencjmhgaaDoor.Lim Go.Proofs.YtginfaencjmhgaaDoorW.PrintWords

def nOk (k : Int) (n : Nat) : Bool := if 1 ≤ k ∧ k ≤ 4 then decide (1 ≤ n ∧ n ≤ 8) else if k = 15 then decide (n = 0) else decide (n = 1)
def storesB (k : Int) : Bool := decide (5 ≤ k ∧ k ≤ 10)
def wholeB (k : Int) : Bool := decide (k = 5 ∨ k = 6 ∨ k = 7 ∨ k = 10)
def endsB (k : Int) : Bool := decide (k = 3 ∨ k = 4 ∨ k = 5 ∨ k = 6 ∨ k = 7 ∨ k = 10 ∨ k = 14)
/-- A command's fields are those of its kind. -/
def fieldsB (k fl ex : Int) (v : ByteArray) (cas del : Int) (q : Bool) : Bool :=
  (wholeB k || decide (fl = 0)) && (storesB k || decide (v = ByteArray.empty)) && (endsB k || decide (ex = 0)) && (decide (k = 10) || decide (cas = 0)) && (decide (k = 12 ∨ k = 13) || decide (del = 0)) && (!decide (1 ≤ k ∧ k ≤ 4) || !q)
def chk (k : Int) (keys : List ByteArray) (fl ex : Int) (v : ByteArray) (cas del : Int) (q : Bool) : Int :=
  if 1 ≤ k ∧ k ≤ 15 then (if (fieldsB k fl ex v cas del q && nOk k keys.length && keys.all keyP) = true then (if v.size > 2000 then 7 else 0) else 6) else 70

/-- What is left behind the fields: the keys, then the value's length. -/
def rest (same : Bool) (k : Int) (keys : List ByteArray) (v : ByteArray) : Int := if (same && nOk k keys.length && keys.all keyP) = true then (if v.size > 2000 then 7 else 0) else 6

end Go.Proofs.YtginfaencjmhgaaDoor.Pl
